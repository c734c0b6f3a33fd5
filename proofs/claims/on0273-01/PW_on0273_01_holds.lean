import PyProof.Rows.All
import Wide.All
import OpenK.AllK
import Wide.FinOn
import Lean
import PySem.Challenge.RW_on0273_01
open PySem PySem.Calls PySem.W PyProof.Rows
set_option Elab.async false
set_option maxRecDepth 100000
set_option maxHeartbeats 0
set_option tactic.hygienic false
set_option linter.unusedVariables false
set_option linter.constructorNameAsVariable false
open PySem.Challenge (rw_on0273_01)
set_option genSizeOf false
set_option genInjectivity false
set_option genCtorIdx false
set_option bootstrap.genMatcherCode false
namespace Mine.Y
section
open PySem.Challenge (pw_on0273_01 rw_on0273_01)
noncomputable def xb:List Stmt→Nat→Stmt
  | [],_=>.Pass ⟨0,0,0,0⟩
  | s::_,0=>s
  | _::r,n+1=>xb r n
noncomputable def dA:Stmt→Arguments
  | .FunctionDef _ a _ _ _ _ _ _ _ _=>a
  | _=>default
noncomputable def dB:Stmt→List Stmt
  | .FunctionDef _ _ b _ _ _ _ _ _ _=>b
  | .ClassDef _ _ _ b _ _ _ _ _ _ _=>b
  | _=>[]
noncomputable def dS:Stmt→Scope
  | .FunctionDef _ _ _ _ _ _ s _ _ _=>s
  | _=>default
noncomputable def d (i:Nat):Stmt:=xb pw_on0273_01.main.body i
noncomputable def e (i j:Nat):Stmt:=xb (dB (d i)) j
noncomputable def i0 (n:Int):Value:=.int n 0
noncomputable def tu (l:List Value):Obj:=⟨.type "tuple",none,.seq ⟨l⟩ 0,#[]⟩
noncomputable def fl (l:List Value):Obj:=⟨.none,none,.fields ⟨l⟩,#[]⟩
noncomputable def fc (l:List Value):Obj:=⟨.type "code",none,.fields ⟨l⟩,#[]⟩
noncomputable def co (a:Str) (t:Nat) (b:Str) (i1 i2 i3 i4 i5:Int) (r1:Addr) (bb:Bool) (i6:Int) (r2:Addr) (v1 v2 v3 v4:Value) (i8:Int):Obj:=
  fc [.str a t,.str b (t+1),.str "/claim/cut.py" (t+2),.int i1 0,.int i2 0,.int i3 0,.int i4 0,.int i5 0,.ref r1,.bool bb,.int i6 0,.ref r2,v1,v2,v3,v4,.int (t+4:Nat) 0,.int i8 0,.str "/claim/cut.py" (t+5)]
noncomputable def fD (s:Stmt) (n q:Str) (g:Addr) (cl:List (Str×Addr)) (dv kv doc pm:Value) (an:Option Addr) (cd ct:Value) (bl:Addr):Data:=.func ⟨n,q,dA s,.stmts (dB s),dS s,g,cl,dv,kv,doc,pm,an,cd,ct,bl⟩
noncomputable def ft (l:List (Int×Nat)):Obj:=fl (l.foldr (fun q r=>i0 q.1::i0 0::.ref q.2::r) [])
noncomputable def di (l:List DictEntry) (n:Nat):Obj:=⟨.type "dict",none,.dict ⟨l⟩ n,#[]⟩
noncomputable def bm (l:List Value):Obj:=⟨.type "builtin_function_or_method",none,.fields ⟨l⟩,#[]⟩
noncomputable def f0 (s:Stmt) (n q:Str):Obj:=⟨.none,none,fD s n q 0 [] .none .none .none .none none .none .none 0,#[]⟩
noncomputable def fu (s:Stmt) (n q:Str) (dv kv doc:Value) (x:Str) (t c:Nat):Obj:=⟨.type "function",none,fD s n q 3 [] dv kv doc (.str x t) none (.ref c) .none 0,#[]⟩
noncomputable def fm (a b:Nat) (x:Str) (t:Nat):Obj:=⟨.type "frame",none,.plain,#[some (.ref a),some (.ref 3),some (.ref b),none,some (.str x t),none,some (.ref 0)]⟩
noncomputable def cq (a:Str) (t:Nat) (b:Str) (i1 i2 i3 i4 i5:Int) (r1:Addr) (bb:Bool) (i6:Int) (r2:Addr) (v1 v2 v3 v4:Value) (u:Nat) (i8:Int):Obj:=
  fc [.str a t,.str b (t+1),.str "/claim/cut.py" (t+2),.int i1 0,.int i2 0,.int i3 0,.int i4 0,.int i5 0,.ref r1,.bool bb,.int i6 0,.ref r2,v1,v2,v3,v4,.int (u:Nat) 0,.int i8 0,.str "/claim/cut.py" (u+1)]
noncomputable def en (P:Params) (x:Str) (t:Nat) (v:Value):DictEntry:=⟨PyData.keyHash P x,.str x t,v⟩
noncomputable def bV:BT→Nat→List Obj→BT
  | t,_,[]=>t
  | t,n,o::r=>bV (t.ins n o) (n+1) r
noncomputable def b0:BT→List (Nat×Obj)→BT
  | t,[]=>t
  | t,(a,o)::r=>b0 (t.ins a o) r
noncomputable def La (P:Params):List Obj:=[boot_o_0 P,
  boot_o_1 P,
  boot_o_2 P,
  boot_o_3 P,
  boot_o_4 P,
  boot_o_5 P,
  boot_o_6 P,
  boot_o_7 P,
  boot_o_8 P,
  boot_o_9 P,
  boot_o_10 P,
  tu [],
  fl [],
  cq "<module>" 182 "<module>" 1 0 0 0 0 11 false 181 12 .none .none .none .none 185 1,
  fm 13 3 "__main__" 164]
noncomputable def Ha (P:Params):Heap:=⟨⟨La P⟩,{}⟩
noncomputable def t0 (P:Params):BT:=bV .nil 0 (La P)
noncomputable def n1 (P:Params):List Obj:=[tu [],
  fl [],
  tu [.str "k" 190],
  tu [],
  f0 (d 0) "_wall" "_wall",
  co "_wall" 187 "_wall" 1 1 0 0 3 15 true 181 16 .none (.ref 17) (.ref 18) (.ref 19) 1,
  fu (d 0) "_wall" "_wall" .none .none .none "__main__" 164 20,
  tu [.type "Exception"],
  bm [.builtin "type.__prepare__",.type "type"],
  di [en P "__module__" 205 (.str "postcore.base" 194),en P "__qualname__" 207 (.str "PostError" 206),en P "__firstlineno__" 209 (.int 6 208),en P "__init__" 217 (.ref 36),en P "__static_attributes__" 219 (.ref 37)] 5,
  tu [],
  fl [i0 8,i0 4,.ref 35],
  cq "PostError" 200 "PostError" 6 0 0 0 0 25 false 181 26 .none .none .none .none 203 6,
  fm 27 24 "postcore.base" 194,
  tu [.none],
  tu [],
  fl [],
  tu [.str "self" 213,.str "told" 214],
  tu [],
  f0 (e 3 0) "__init__" "PostError.__init__",
  cq "__init__" 210 "PostError.__init__" 8 2 0 0 3 30 true 181 31 .none (.ref 32) (.ref 33) (.ref 34) 215 8,
  fu (e 3 0) "__init__" "PostError.__init__" (.ref 29) .none .none "postcore.base" 194 35,
  tu [.str "told" 218],
  di [en P "__module__" 205 (.str "postcore.base" 194),en P "__firstlineno__" 209 (.int 6 208),en P "__init__" 217 (.ref 36),en P "__static_attributes__" 219 (.ref 37),en P "__weakref__" 221 (.ref 40),en P "__doc__" 222 .none] 3,
  ⟨(.type "type"),none,(.cls ⟨"PostError",[.type "Exception"],[.ref 39,.type "Exception",.type "BaseException",.type "object"],38,"PostError",true,[],[],false,none,false⟩),#[(some (.ref 22)),none,(some (.str "PostError" 198)),(some (.str "PostError" 206)),(some (.builtin "Exception.__new__")),(some (.bool true))]⟩,
  ⟨(.type "getset_descriptor"),none,(.fields #[.str "__weakref__" 220,.ref 39,.builtin "ExceptionGroup.__weakref__",.none]),#[]⟩,
  ⟨(.type "super"),none,(.fields #[.ref 39,.ref 39,.ref 39]),#[]⟩,
  bm [.builtin "object.__init_subclass__",.ref 39]]
noncomputable def c1 (P:Params):List (Nat×Obj):=[(2,⟨.none,none,(.dict #[en P "type.__subclasses__.Exception.0" 223 (i0 39),en P "type.__subclasses__.Exception.n" 224 (i0 1)] 2),#[]⟩),
  (3,di [en P "__name__" 165 (.str "postcore.base" 194),en P "__doc__" 166 .none,en P "__package__" 167 .none,en P "__loader__" 168 (.builtin "__main__.__loader__#opaque"),en P "__spec__" 169 .none,en P "__annotations__" 170 (.ref 6),en P "__builtins__" 171 (.ref 4),en P "__file__" 173 (.str "/claim/cut.py" 172),en P "__cached__" 174 .none,en P "_wall" 193 (.ref 21),en P "GRAIN" 197 (.int 1000000 196),en P "PostError" 226 (.ref 39)] 12),
  (12,fl [i0 1,i0 0,.ref 20,i0 6,i0 0,.ref 27])]
noncomputable def n2 (P:Params):List Obj:=[tu [.ref 39],
  bm [.builtin "type.__prepare__",.type "type"],
  di [en P "__module__" 234 (.str "postcore.base" 194),en P "__qualname__" 236 (.str "PsError" 235),en P "__firstlineno__" 238 (.int 10 237),en P "__static_attributes__" 239 (.ref 50)] 4,
  tu [],
  fl [],
  cq "PsError" 229 "PsError" 10 0 0 0 0 46 false 181 47 .none .none .none .none 232 10,
  fm 48 45 "postcore.base" 194,
  tu [],
  di [en P "__module__" 234 (.str "postcore.base" 194),en P "__firstlineno__" 238 (.int 10 237),en P "__static_attributes__" 239 (.ref 50),en P "__doc__" 240 .none] 2,
  ⟨(.type "type"),none,(.cls ⟨"PsError",[.ref 39],[.ref 52,.ref 39,.type "Exception",.type "BaseException",.type "object"],51,"PsError",true,[],[],false,none,false⟩),#[(some (.ref 43)),none,(some (.str "PsError" 227)),(some (.str "PsError" 235)),(some (.builtin "Exception.__new__")),(some (.bool true))]⟩,
  ⟨(.type "super"),none,(.fields #[.ref 52,.ref 52,.ref 52]),#[]⟩,
  bm [.builtin "object.__init_subclass__",.ref 52],
  tu [],
  fl [],
  tu [.str "number" 246,.str "rest" 247,.str "found" 248],
  tu [],
  f0 (d 5) "decimal_octets" "decimal_octets",
  cq "decimal_octets" 243 "decimal_octets" 12 1 0 0 3 55 true 181 56 .none (.ref 57) (.ref 58) (.ref 59) 249 12,
  fu (d 5) "decimal_octets" "decimal_octets" .none .none .none "postcore.base" 194 60,
  tu [],
  fl [],
  tu [.str "kind" 259,.str "value" 260,.str "size" 261,.str "behind" 262],
  tu [],
  f0 (d 8) "number_octets" "number_octets",
  cq "number_octets" 256 "number_octets" 24 2 0 0 3 62 true 181 63 .none (.ref 64) (.ref 65) (.ref 66) 263 24,
  fu (d 8) "number_octets" "number_octets" .none .none .none "postcore.numbers" 252 67]
noncomputable def c2 (P:Params):List (Nat×Obj):=[(3,di [en P "__name__" 165 (.str "postcore.objects" 266),en P "__doc__" 166 .none,en P "__package__" 167 .none,en P "__loader__" 168 (.builtin "__main__.__loader__#opaque"),en P "__spec__" 169 .none,en P "__annotations__" 170 (.ref 6),en P "__builtins__" 171 (.ref 4),en P "__file__" 173 (.str "/claim/cut.py" 172),en P "__cached__" 174 .none,en P "_wall" 193 (.ref 21),en P "GRAIN" 197 (.int 1000000 196),en P "PostError" 226 (.ref 39),en P "PsError" 242 (.ref 52),en P "decimal_octets" 251 (.ref 61),en P "INTEGER" 255 (.str "integer" 254),en P "number_octets" 265 (.ref 68),en P "READ_ONLY" 269 (.int 2 268),en P "UNLIMITED" 271 (.int 3 270)] 18),
  (12,ft [(1,20),(6,27),(10,48),(12,60),(24,67)]),
  (39,⟨(.type "type"),none,(.cls ⟨"PostError",[.type "Exception"],[.ref 39,.type "Exception",.type "BaseException",.type "object"],38,"PostError",true,[],[.ref 52],false,none,false⟩),#[(some (.ref 22)),none,(some (.str "PostError" 198)),(some (.str "PostError" 206)),(some (.builtin "Exception.__new__")),(some (.bool true))]⟩)]
noncomputable def n3 (P:Params):List Obj:=[tu [],
  bm [.builtin "type.__prepare__",.type "type"],
  di [en P "__module__" 279 (.str "postcore.objects" 266),en P "__qualname__" 281 (.str "Thing" 280),en P "__firstlineno__" 283 (.int 35 282),en P "__init__" 294 (.ref 83),en P "__static_attributes__" 299 (.ref 84)] 5,
  tu [],
  fl [i0 37,i0 4,.ref 82],
  cq "Thing" 274 "Thing" 35 0 0 0 0 72 false 181 73 .none .none .none .none 277 35,
  fm 74 71 "postcore.objects" 266,
  tu [.bool false,.int 3 270],
  tu [],
  fl [],
  tu [.str "self" 287,.str "kind" 288,.str "value" 289,.str "is_exec" 290,.str "access" 291],
  tu [],
  f0 (e 12 0) "__init__" "Thing.__init__",
  cq "__init__" 284 "Thing.__init__" 37 5 0 0 3 77 true 181 78 .none (.ref 79) (.ref 80) (.ref 81) 292 37,
  fu (e 12 0) "__init__" "Thing.__init__" (.ref 76) .none .none "postcore.objects" 266 82,
  tu [.str "access" 295,.str "is_exec" 296,.str "kind" 297,.str "value" 298],
  di [en P "__module__" 279 (.str "postcore.objects" 266),en P "__firstlineno__" 283 (.int 35 282),en P "__init__" 294 (.ref 83),en P "__static_attributes__" 299 (.ref 84),en P "__dict__" 301 (.ref 87),en P "__weakref__" 303 (.ref 88),en P "__doc__" 304 .none] 4,
  ⟨(.type "type"),none,(.cls ⟨"Thing",[.type "object"],[.ref 86,.type "object"],85,"Thing",true,[],[],false,none,false⟩),#[none,none,(some (.str "Thing" 272)),(some (.str "Thing" 280)),(some (.builtin "object.__new__")),(some (.bool true))]⟩,
  ⟨(.type "getset_descriptor"),none,(.fields #[.str "__dict__" 300,.ref 86,.builtin "function.__dict__",.builtin "function.__dict__#set"]),#[]⟩,
  ⟨(.type "getset_descriptor"),none,(.fields #[.str "__weakref__" 302,.ref 86,.builtin "ExceptionGroup.__weakref__",.none]),#[]⟩,
  ⟨(.type "super"),none,(.fields #[.ref 86,.ref 86,.ref 86]),#[]⟩,
  bm [.builtin "object.__init_subclass__",.ref 86]]
noncomputable def c3 (P:Params):List (Nat×Obj):=[(3,di [en P "__name__" 165 (.str "postcore.objects" 266),en P "__doc__" 166 .none,en P "__package__" 167 .none,en P "__loader__" 168 (.builtin "__main__.__loader__#opaque"),en P "__spec__" 169 .none,en P "__annotations__" 170 (.ref 6),en P "__builtins__" 171 (.ref 4),en P "__file__" 173 (.str "/claim/cut.py" 172),en P "__cached__" 174 .none,en P "_wall" 193 (.ref 21),en P "GRAIN" 197 (.int 1000000 196),en P "PostError" 226 (.ref 39),en P "PsError" 242 (.ref 52),en P "decimal_octets" 251 (.ref 61),en P "INTEGER" 255 (.str "integer" 254),en P "number_octets" 265 (.ref 68),en P "READ_ONLY" 269 (.int 2 268),en P "UNLIMITED" 271 (.int 3 270),en P "Thing" 306 (.ref 86)] 19),
  (12,ft [(1,20),(6,27),(10,48),(12,60),(24,67),(35,74)])]
noncomputable def n4 (P:Params):List Obj:=[tu [],
  bm [.builtin "type.__prepare__",.type "type"],
  di [en P "__module__" 314 (.str "postcore.objects" 266),en P "__qualname__" 316 (.str "Text" 315),en P "__firstlineno__" 318 (.int 42 317),en P "__init__" 329 (.ref 104),en P "__static_attributes__" 334 (.ref 105)] 5,
  tu [],
  fl [i0 44,i0 4,.ref 103],
  cq "Text" 309 "Text" 42 0 0 0 0 94 false 181 95 .none .none .none .none 312 42,
  fm 96 93 "postcore.objects" 266,
  tu [],
  fl [],
  tu [.str "self" 322,.str "number" 323,.str "octets" 324,.str "is_global" 325,.str "level" 326],
  tu [],
  f0 (e 13 0) "__init__" "Text.__init__",
  cq "__init__" 319 "Text.__init__" 44 5 0 0 3 98 true 181 99 .none (.ref 100) (.ref 101) (.ref 102) 327 44,
  fu (e 13 0) "__init__" "Text.__init__" .none .none .none "postcore.objects" 266 103,
  tu [.str "is_global" 330,.str "level" 331,.str "number" 332,.str "octets" 333],
  di [en P "__module__" 314 (.str "postcore.objects" 266),en P "__firstlineno__" 318 (.int 42 317),en P "__init__" 329 (.ref 104),en P "__static_attributes__" 334 (.ref 105),en P "__dict__" 336 (.ref 108),en P "__weakref__" 338 (.ref 109),en P "__doc__" 339 .none] 4,
  ⟨(.type "type"),none,(.cls ⟨"Text",[.type "object"],[.ref 107,.type "object"],106,"Text",true,[],[],false,none,false⟩),#[none,none,(some (.str "Text" 307)),(some (.str "Text" 315)),(some (.builtin "object.__new__")),(some (.bool true))]⟩,
  ⟨(.type "getset_descriptor"),none,(.fields #[.str "__dict__" 335,.ref 107,.builtin "function.__dict__",.builtin "function.__dict__#set"]),#[]⟩,
  ⟨(.type "getset_descriptor"),none,(.fields #[.str "__weakref__" 337,.ref 107,.builtin "ExceptionGroup.__weakref__",.none]),#[]⟩,
  ⟨(.type "super"),none,(.fields #[.ref 107,.ref 107,.ref 107]),#[]⟩,
  bm [.builtin "object.__init_subclass__",.ref 107]]
noncomputable def c4 (P:Params):List (Nat×Obj):=[(3,di [en P "__name__" 165 (.str "postcore.objects" 266),en P "__doc__" 166 .none,en P "__package__" 167 .none,en P "__loader__" 168 (.builtin "__main__.__loader__#opaque"),en P "__spec__" 169 .none,en P "__annotations__" 170 (.ref 6),en P "__builtins__" 171 (.ref 4),en P "__file__" 173 (.str "/claim/cut.py" 172),en P "__cached__" 174 .none,en P "_wall" 193 (.ref 21),en P "GRAIN" 197 (.int 1000000 196),en P "PostError" 226 (.ref 39),en P "PsError" 242 (.ref 52),en P "decimal_octets" 251 (.ref 61),en P "INTEGER" 255 (.str "integer" 254),en P "number_octets" 265 (.ref 68),en P "READ_ONLY" 269 (.int 2 268),en P "UNLIMITED" 271 (.int 3 270),en P "Thing" 306 (.ref 86),en P "Text" 341 (.ref 107)] 20),
  (12,ft [(1,20),(6,27),(10,48),(12,60),(24,67),(35,74),(42,96)])]
noncomputable def n5 (P:Params):List Obj:=[tu [],
  bm [.builtin "type.__prepare__",.type "type"],
  di [en P "__module__" 349 (.str "postcore.objects" 266),en P "__qualname__" 351 (.str "Row" 350),en P "__firstlineno__" 353 (.int 49 352),en P "__init__" 364 (.ref 125),en P "__static_attributes__" 369 (.ref 126)] 5,
  tu [],
  fl [i0 51,i0 4,.ref 124],
  cq "Row" 344 "Row" 49 0 0 0 0 115 false 181 116 .none .none .none .none 347 49,
  fm 117 114 "postcore.objects" 266,
  tu [],
  fl [],
  tu [.str "self" 357,.str "number" 358,.str "things" 359,.str "is_global" 360,.str "level" 361],
  tu [],
  f0 (e 14 0) "__init__" "Row.__init__",
  cq "__init__" 354 "Row.__init__" 51 5 0 0 3 119 true 181 120 .none (.ref 121) (.ref 122) (.ref 123) 362 51,
  fu (e 14 0) "__init__" "Row.__init__" .none .none .none "postcore.objects" 266 124,
  tu [.str "is_global" 365,.str "level" 366,.str "number" 367,.str "things" 368],
  di [en P "__module__" 349 (.str "postcore.objects" 266),en P "__firstlineno__" 353 (.int 49 352),en P "__init__" 364 (.ref 125),en P "__static_attributes__" 369 (.ref 126),en P "__dict__" 371 (.ref 129),en P "__weakref__" 373 (.ref 130),en P "__doc__" 374 .none] 4,
  ⟨(.type "type"),none,(.cls ⟨"Row",[.type "object"],[.ref 128,.type "object"],127,"Row",true,[],[],false,none,false⟩),#[none,none,(some (.str "Row" 342)),(some (.str "Row" 350)),(some (.builtin "object.__new__")),(some (.bool true))]⟩,
  ⟨(.type "getset_descriptor"),none,(.fields #[.str "__dict__" 370,.ref 128,.builtin "function.__dict__",.builtin "function.__dict__#set"]),#[]⟩,
  ⟨(.type "getset_descriptor"),none,(.fields #[.str "__weakref__" 372,.ref 128,.builtin "ExceptionGroup.__weakref__",.none]),#[]⟩,
  ⟨(.type "super"),none,(.fields #[.ref 128,.ref 128,.ref 128]),#[]⟩,
  bm [.builtin "object.__init_subclass__",.ref 128]]
noncomputable def c5 (P:Params):List (Nat×Obj):=[(3,di [en P "__name__" 165 (.str "postcore.objects" 266),en P "__doc__" 166 .none,en P "__package__" 167 .none,en P "__loader__" 168 (.builtin "__main__.__loader__#opaque"),en P "__spec__" 169 .none,en P "__annotations__" 170 (.ref 6),en P "__builtins__" 171 (.ref 4),en P "__file__" 173 (.str "/claim/cut.py" 172),en P "__cached__" 174 .none,en P "_wall" 193 (.ref 21),en P "GRAIN" 197 (.int 1000000 196),en P "PostError" 226 (.ref 39),en P "PsError" 242 (.ref 52),en P "decimal_octets" 251 (.ref 61),en P "INTEGER" 255 (.str "integer" 254),en P "number_octets" 265 (.ref 68),en P "READ_ONLY" 269 (.int 2 268),en P "UNLIMITED" 271 (.int 3 270),en P "Thing" 306 (.ref 86),en P "Text" 341 (.ref 107),en P "Row" 376 (.ref 128)] 21),
  (12,ft [(1,20),(6,27),(10,48),(12,60),(24,67),(35,74),(42,96),(49,117)])]
noncomputable def n6 (P:Params):List Obj:=[tu [],
  bm [.builtin "type.__prepare__",.type "type"],
  di [en P "__module__" 384 (.str "postcore.objects" 266),en P "__qualname__" 386 (.str "DictBody" 385),en P "__firstlineno__" 388 (.int 56 387),en P "__init__" 399 (.ref 146),en P "get" 407 (.ref 153),en P "pairs" 413 (.ref 158),en P "__static_attributes__" 420 (.ref 159)] 7,
  tu [],
  fl [i0 58,i0 4,.ref 145,i0 66,i0 4,.ref 152,i0 69,i0 4,.ref 157],
  cq "DictBody" 379 "DictBody" 56 0 0 0 0 136 false 181 137 .none .none .none .none 382 56,
  fm 138 135 "postcore.objects" 266,
  tu [],
  fl [],
  tu [.str "self" 392,.str "number" 393,.str "most" 394,.str "is_global" 395,.str "level" 396],
  tu [],
  f0 (e 15 0) "__init__" "DictBody.__init__",
  cq "__init__" 389 "DictBody.__init__" 58 5 0 0 3 140 true 181 141 .none (.ref 142) (.ref 143) (.ref 144) 397 58,
  fu (e 15 0) "__init__" "DictBody.__init__" .none .none .none "postcore.objects" 266 145,
  tu [],
  fl [],
  tu [.str "self" 403,.str "key" 404],
  tu [],
  f0 (e 15 1) "get" "DictBody.get",
  cq "get" 400 "DictBody.get" 66 2 0 0 3 147 true 181 148 .none (.ref 149) (.ref 150) (.ref 151) 405 66,
  fu (e 15 1) "get" "DictBody.get" .none .none .none "postcore.objects" 266 152,
  tu [],
  fl [],
  f0 (e 15 2) "pairs" "DictBody.pairs",
  cq "pairs" 408 "DictBody.pairs" 69 1 0 0 3 154 true 181 155 .none .none .none (.ref 156) 411 69,
  fu (e 15 2) "pairs" "DictBody.pairs" .none .none .none "postcore.objects" 266 157,
  tu [.str "access" 414,.str "entries" 415,.str "is_global" 416,.str "level" 417,.str "most" 418,.str "number" 419],
  di [en P "__module__" 384 (.str "postcore.objects" 266),en P "__firstlineno__" 388 (.int 56 387),en P "__init__" 399 (.ref 146),en P "get" 407 (.ref 153),en P "pairs" 413 (.ref 158),en P "__static_attributes__" 420 (.ref 159),en P "__dict__" 422 (.ref 162),en P "__weakref__" 424 (.ref 163),en P "__doc__" 425 .none] 4,
  ⟨(.type "type"),none,(.cls ⟨"DictBody",[.type "object"],[.ref 161,.type "object"],160,"DictBody",true,[],[],false,none,false⟩),#[none,none,(some (.str "DictBody" 377)),(some (.str "DictBody" 385)),(some (.builtin "object.__new__")),(some (.bool true))]⟩,
  ⟨(.type "getset_descriptor"),none,(.fields #[.str "__dict__" 421,.ref 161,.builtin "function.__dict__",.builtin "function.__dict__#set"]),#[]⟩,
  ⟨(.type "getset_descriptor"),none,(.fields #[.str "__weakref__" 423,.ref 161,.builtin "ExceptionGroup.__weakref__",.none]),#[]⟩,
  ⟨(.type "super"),none,(.fields #[.ref 161,.ref 161,.ref 161]),#[]⟩,
  bm [.builtin "object.__init_subclass__",.ref 161]]
noncomputable def c6 (P:Params):List (Nat×Obj):=[(3,di [en P "__name__" 165 (.str "postcore.objects" 266),en P "__doc__" 166 .none,en P "__package__" 167 .none,en P "__loader__" 168 (.builtin "__main__.__loader__#opaque"),en P "__spec__" 169 .none,en P "__annotations__" 170 (.ref 6),en P "__builtins__" 171 (.ref 4),en P "__file__" 173 (.str "/claim/cut.py" 172),en P "__cached__" 174 .none,en P "_wall" 193 (.ref 21),en P "GRAIN" 197 (.int 1000000 196),en P "PostError" 226 (.ref 39),en P "PsError" 242 (.ref 52),en P "decimal_octets" 251 (.ref 61),en P "INTEGER" 255 (.str "integer" 254),en P "number_octets" 265 (.ref 68),en P "READ_ONLY" 269 (.int 2 268),en P "UNLIMITED" 271 (.int 3 270),en P "Thing" 306 (.ref 86),en P "Text" 341 (.ref 107),en P "Row" 376 (.ref 128),en P "DictBody" 427 (.ref 161)] 22),
  (12,ft [(1,20),(6,27),(10,48),(12,60),(24,67),(35,74),(42,96),(49,117),(56,138)])]
noncomputable def n7 (P:Params):List Obj:=[tu [],
  bm [.builtin "type.__prepare__",.type "type"],
  di [en P "__module__" 435 (.str "postcore.objects" 266),en P "__qualname__" 437 (.str "Span" 436),en P "__firstlineno__" 439 (.int 71 438),en P "__init__" 449 (.ref 179),en P "__static_attributes__" 453 (.ref 180)] 5,
  tu [],
  fl [i0 73,i0 4,.ref 178],
  cq "Span" 430 "Span" 71 0 0 0 0 169 false 181 170 .none .none .none .none 433 71,
  fm 171 168 "postcore.objects" 266,
  tu [],
  fl [],
  tu [.str "self" 443,.str "body" 444,.str "start" 445,.str "many" 446],
  tu [],
  f0 (e 16 0) "__init__" "Span.__init__",
  cq "__init__" 440 "Span.__init__" 73 4 0 0 3 173 true 181 174 .none (.ref 175) (.ref 176) (.ref 177) 447 73,
  fu (e 16 0) "__init__" "Span.__init__" .none .none .none "postcore.objects" 266 178,
  tu [.str "body" 450,.str "many" 451,.str "start" 452],
  di [en P "__module__" 435 (.str "postcore.objects" 266),en P "__firstlineno__" 439 (.int 71 438),en P "__init__" 449 (.ref 179),en P "__static_attributes__" 453 (.ref 180),en P "__dict__" 455 (.ref 183),en P "__weakref__" 457 (.ref 184),en P "__doc__" 458 .none] 4,
  ⟨(.type "type"),none,(.cls ⟨"Span",[.type "object"],[.ref 182,.type "object"],181,"Span",true,[],[],false,none,false⟩),#[none,none,(some (.str "Span" 428)),(some (.str "Span" 436)),(some (.builtin "object.__new__")),(some (.bool true))]⟩,
  ⟨(.type "getset_descriptor"),none,(.fields #[.str "__dict__" 454,.ref 182,.builtin "function.__dict__",.builtin "function.__dict__#set"]),#[]⟩,
  ⟨(.type "getset_descriptor"),none,(.fields #[.str "__weakref__" 456,.ref 182,.builtin "ExceptionGroup.__weakref__",.none]),#[]⟩,
  ⟨(.type "super"),none,(.fields #[.ref 182,.ref 182,.ref 182]),#[]⟩,
  bm [.builtin "object.__init_subclass__",.ref 182],
  tu [],
  fl [],
  tu [.str "number" 464],
  tu [],
  f0 (d 17) "integer" "integer",
  co "integer" 461 "integer" 77 1 0 0 3 187 true 181 188 .none (.ref 189) (.ref 190) (.ref 191) 77,
  fu (d 17) "integer" "integer" .none .none .none "postcore.objects" 266 192,
  tu [],
  fl [],
  tu [.str "millionths" 471],
  tu [],
  f0 (d 18) "real" "real",
  co "real" 468 "real" 79 1 0 0 3 194 true 181 195 .none (.ref 196) (.ref 197) (.ref 198) 79,
  fu (d 18) "real" "real" .none .none .none "postcore.objects" 266 199,
  tu [],
  fl [],
  tu [.str "truth" 478],
  tu [],
  f0 (d 19) "boolean" "boolean",
  co "boolean" 475 "boolean" 81 1 0 0 3 201 true 181 202 .none (.ref 203) (.ref 204) (.ref 205) 81,
  fu (d 19) "boolean" "boolean" .none .none .none "postcore.objects" 266 206,
  tu [.bool false],
  tu [],
  fl [],
  tu [.str "octets" 485,.str "is_exec" 486],
  tu [],
  f0 (d 20) "name" "name",
  cq "name" 482 "name" 83 2 0 0 3 209 true 181 210 .none (.ref 211) (.ref 212) (.ref 213) 487 83,
  fu (d 20) "name" "name" (.ref 208) .none .none "postcore.objects" 266 214,
  tu [],
  fl [],
  tu [.str "octets" 493],
  tu [],
  f0 (d 21) "operator_thing" "operator_thing",
  co "operator_thing" 490 "operator_thing" 85 1 0 0 3 216 true 181 217 .none (.ref 218) (.ref 219) (.ref 220) 85,
  fu (d 21) "operator_thing" "operator_thing" .none .none .none "postcore.objects" 266 221]
noncomputable def c7 (P:Params):List (Nat×Obj):=[(3,di [en P "__name__" 165 (.str "postcore.objects" 266),en P "__doc__" 166 .none,en P "__package__" 167 .none,en P "__loader__" 168 (.builtin "__main__.__loader__#opaque"),en P "__spec__" 169 .none,en P "__annotations__" 170 (.ref 6),en P "__builtins__" 171 (.ref 4),en P "__file__" 173 (.str "/claim/cut.py" 172),en P "__cached__" 174 .none,en P "_wall" 193 (.ref 21),en P "GRAIN" 197 (.int 1000000 196),en P "PostError" 226 (.ref 39),en P "PsError" 242 (.ref 52),en P "decimal_octets" 251 (.ref 61),en P "INTEGER" 255 (.str "integer" 254),en P "number_octets" 265 (.ref 68),en P "READ_ONLY" 269 (.int 2 268),en P "UNLIMITED" 271 (.int 3 270),en P "Thing" 306 (.ref 86),en P "Text" 341 (.ref 107),en P "Row" 376 (.ref 128),en P "DictBody" 427 (.ref 161),en P "Span" 460 (.ref 182),en P "integer" 467 (.ref 193),en P "real" 474 (.ref 200),en P "boolean" 481 (.ref 207),en P "name" 489 (.ref 215),en P "operator_thing" 496 (.ref 222)] 28),
  (12,ft [(1,20),(6,27),(10,48),(12,60),(24,67),(35,74),(42,96),(49,117),(56,138),(71,171),(77,192),(79,199),(81,206),(83,214),(85,221)])]
noncomputable def n8 (P:Params):List Obj:=[tu [],
  fl [],
  tu [],
  tu [],
  f0 (d 22) "mark" "mark",
  cq "mark" 497 "mark" 87 0 0 0 3 223 true 181 224 .none (.ref 225) (.ref 226) (.ref 227) 500 87,
  fu (d 22) "mark" "mark" .none .none .none "postcore.objects" 266 228,
  tu [],
  fl [],
  tu [],
  tu [],
  f0 (d 23) "null" "null",
  cq "null" 503 "null" 89 0 0 0 3 230 true 181 231 .none (.ref 232) (.ref 233) (.ref 234) 506 89,
  fu (d 23) "null" "null" .none .none .none "postcore.objects" 266 235,
  tu [.bool false,.int 3 270],
  tu [],
  fl [],
  tu [.str "text" 512,.str "is_exec" 513,.str "access" 514],
  tu [],
  f0 (d 24) "of_string" "of_string",
  cq "of_string" 509 "of_string" 91 3 0 0 3 238 true 181 239 .none (.ref 240) (.ref 241) (.ref 242) 515 91,
  fu (d 24) "of_string" "of_string" (.ref 237) .none .none "postcore.objects" 266 243,
  tu [.bool false,.int 3 270],
  tu [],
  fl [],
  tu [.str "row" 521,.str "is_exec" 522,.str "access" 523],
  tu [],
  f0 (d 25) "of_row" "of_row",
  cq "of_row" 518 "of_row" 93 3 0 0 3 246 true 181 247 .none (.ref 248) (.ref 249) (.ref 250) 524 93,
  fu (d 25) "of_row" "of_row" (.ref 245) .none .none "postcore.objects" 266 251,
  tu [.bool false],
  tu [],
  fl [],
  tu [.str "row" 530,.str "is_exec" 531],
  tu [],
  f0 (d 26) "of_packed" "of_packed",
  cq "of_packed" 527 "of_packed" 95 2 0 0 3 254 true 181 255 .none (.ref 256) (.ref 257) (.ref 258) 532 95,
  fu (d 26) "of_packed" "of_packed" (.ref 253) .none .none "postcore.objects" 266 259,
  tu [],
  fl [],
  tu [.str "body" 538],
  tu [],
  f0 (d 27) "of_dict" "of_dict",
  co "of_dict" 535 "of_dict" 97 1 0 0 3 261 true 181 262 .none (.ref 263) (.ref 264) (.ref 265) 97,
  fu (d 27) "of_dict" "of_dict" .none .none .none "postcore.objects" 266 266,
  tu [],
  fl [],
  tu [.str "number" 545],
  tu [],
  f0 (d 28) "of_save" "of_save",
  co "of_save" 542 "of_save" 99 1 0 0 3 268 true 181 269 .none (.ref 270) (.ref 271) (.ref 272) 99,
  fu (d 28) "of_save" "of_save" .none .none .none "postcore.objects" 266 273,
  tu [],
  fl [],
  tu [.str "number" 552],
  tu [],
  f0 (d 29) "font_id" "font_id",
  co "font_id" 549 "font_id" 101 1 0 0 3 275 true 181 276 .none (.ref 277) (.ref 278) (.ref 279) 101,
  fu (d 29) "font_id" "font_id" .none .none .none "postcore.objects" 266 280,
  tu [],
  fl [],
  tu [.str "thing" 559],
  tu [],
  f0 (d 30) "is_number" "is_number",
  co "is_number" 556 "is_number" 103 1 0 0 3 282 true 181 283 .none (.ref 284) (.ref 285) (.ref 286) 103,
  fu (d 30) "is_number" "is_number" .none .none .none "postcore.objects" 266 287,
  tu [],
  fl [],
  tu [.str "thing" 566],
  tu [],
  f0 (d 31) "is_in_array" "is_in_array",
  co "is_in_array" 563 "is_in_array" 105 1 0 0 3 289 true 181 290 .none (.ref 291) (.ref 292) (.ref 293) 105,
  fu (d 31) "is_in_array" "is_in_array" .none .none .none "postcore.objects" 266 294,
  tu [],
  fl [],
  tu [.str "thing" 573],
  tu [],
  f0 (d 32) "body_of" "body_of",
  co "body_of" 570 "body_of" 107 1 0 0 3 296 true 181 297 .none (.ref 298) (.ref 299) (.ref 300) 107,
  fu (d 32) "body_of" "body_of" .none .none .none "postcore.objects" 266 301,
  tu [],
  fl [],
  tu [.str "thing" 580,.str "body" 581],
  tu [],
  f0 (d 33) "is_local" "is_local",
  cq "is_local" 577 "is_local" 111 1 0 0 3 303 true 181 304 .none (.ref 305) (.ref 306) (.ref 307) 582 111,
  fu (d 33) "is_local" "is_local" .none .none .none "postcore.objects" 266 308,
  tu [],
  fl [],
  tu [.str "thing" 588],
  tu [],
  f0 (d 34) "access_of" "access_of",
  co "access_of" 585 "access_of" 114 1 0 0 3 310 true 181 311 .none (.ref 312) (.ref 313) (.ref 314) 114,
  fu (d 34) "access_of" "access_of" .none .none .none "postcore.objects" 266 315]
noncomputable def c8 (P:Params):List (Nat×Obj):=[(3,di [en P "__name__" 165 (.str "postcore.objects" 266),en P "__doc__" 166 .none,en P "__package__" 167 .none,en P "__loader__" 168 (.builtin "__main__.__loader__#opaque"),en P "__spec__" 169 .none,en P "__annotations__" 170 (.ref 6),en P "__builtins__" 171 (.ref 4),en P "__file__" 173 (.str "/claim/cut.py" 172),en P "__cached__" 174 .none,en P "_wall" 193 (.ref 21),en P "GRAIN" 197 (.int 1000000 196),en P "PostError" 226 (.ref 39),en P "PsError" 242 (.ref 52),en P "decimal_octets" 251 (.ref 61),en P "INTEGER" 255 (.str "integer" 254),en P "number_octets" 265 (.ref 68),en P "READ_ONLY" 269 (.int 2 268),en P "UNLIMITED" 271 (.int 3 270),en P "Thing" 306 (.ref 86),en P "Text" 341 (.ref 107),en P "Row" 376 (.ref 128),en P "DictBody" 427 (.ref 161),en P "Span" 460 (.ref 182),en P "integer" 467 (.ref 193),en P "real" 474 (.ref 200),en P "boolean" 481 (.ref 207),en P "name" 489 (.ref 215),en P "operator_thing" 496 (.ref 222),en P "mark" 502 (.ref 229),en P "null" 508 (.ref 236),en P "of_string" 517 (.ref 244),en P "of_row" 526 (.ref 252),en P "of_packed" 534 (.ref 260),en P "of_dict" 541 (.ref 267),en P "of_save" 548 (.ref 274),en P "font_id" 555 (.ref 281),en P "is_number" 562 (.ref 288),en P "is_in_array" 569 (.ref 295),en P "body_of" 576 (.ref 302),en P "is_local" 584 (.ref 309),en P "access_of" 591 (.ref 316)] 41),
  (12,ft [(1,20),(6,27),(10,48),(12,60),(24,67),(35,74),(42,96),(49,117),(56,138),(71,171),(77,192),(79,199),(81,206),(83,214),(85,221),(87,228),(89,235),(91,243),(93,251),(95,259),(97,266),(99,273),(101,280),(103,287),(105,294),(107,301),(111,308),(114,315)])]
noncomputable def n9 (P:Params):List Obj:=[tu [],
  fl [],
  tu [.str "thing" 595],
  tu [],
  f0 (d 35) "can_read" "can_read",
  co "can_read" 592 "can_read" 116 1 0 0 3 317 true 181 318 .none (.ref 319) (.ref 320) (.ref 321) 116,
  fu (d 35) "can_read" "can_read" .none .none .none "postcore.objects" 266 322,
  tu [],
  fl [],
  tu [.str "thing" 602],
  tu [],
  f0 (d 36) "has_access" "has_access",
  co "has_access" 599 "has_access" 118 1 0 0 3 324 true 181 325 .none (.ref 326) (.ref 327) (.ref 328) 118,
  fu (d 36) "has_access" "has_access" .none .none .none "postcore.objects" 266 329,
  tu [],
  fl [],
  tu [.str "thing" 609,.str "access" 610],
  tu [],
  f0 (d 37) "with_access" "with_access",
  cq "with_access" 606 "with_access" 120 2 0 0 3 331 true 181 332 .none (.ref 333) (.ref 334) (.ref 335) 611 120,
  fu (d 37) "with_access" "with_access" .none .none .none "postcore.objects" 266 336,
  tu [],
  fl [],
  tu [.str "thing" 617],
  tu [],
  f0 (d 38) "span_of" "span_of",
  co "span_of" 614 "span_of" 126 1 0 0 3 338 true 181 339 .none (.ref 340) (.ref 341) (.ref 342) 126,
  fu (d 38) "span_of" "span_of" .none .none .none "postcore.objects" 266 343,
  tu [],
  fl [],
  tu [.str "span" 624,.str "start" 625,.str "many" 626],
  tu [],
  f0 (d 39) "check_part" "check_part",
  cq "check_part" 621 "check_part" 130 3 0 0 3 345 true 181 346 .none (.ref 347) (.ref 348) (.ref 349) 627 130,
  fu (d 39) "check_part" "check_part" .none .none .none "postcore.objects" 266 350,
  tu [],
  fl [],
  tu [.str "span" 633,.str "start" 634,.str "many" 635],
  tu [],
  f0 (d 40) "part_of" "part_of",
  cq "part_of" 630 "part_of" 133 3 0 0 3 352 true 181 353 .none (.ref 354) (.ref 355) (.ref 356) 636 133,
  fu (d 40) "part_of" "part_of" .none .none .none "postcore.objects" 266 357,
  tu [],
  fl [],
  tu [.str "thing" 642,.str "span" 643],
  tu [],
  f0 (d 41) "with_span" "with_span",
  cq "with_span" 639 "with_span" 136 2 0 0 3 359 true 181 360 .none (.ref 361) (.ref 362) (.ref 363) 644 136,
  fu (d 41) "with_span" "with_span" .none .none .none "postcore.objects" 266 364,
  tu [],
  fl [],
  tu [.str "span" 650],
  tu [],
  f0 (d 42) "octets_of_span" "octets_of_span",
  co "octets_of_span" 647 "octets_of_span" 138 1 0 0 3 366 true 181 367 .none (.ref 368) (.ref 369) (.ref 370) 138,
  fu (d 42) "octets_of_span" "octets_of_span" .none .none .none "postcore.objects" 266 371,
  tu [],
  fl [],
  tu [.str "span" 657],
  tu [],
  f0 (d 43) "things_of_span" "things_of_span",
  co "things_of_span" 654 "things_of_span" 140 1 0 0 3 373 true 181 374 .none (.ref 375) (.ref 376) (.ref 377) 140,
  fu (d 43) "things_of_span" "things_of_span" .none .none .none "postcore.objects" 266 378]
noncomputable def c9 (P:Params):List (Nat×Obj):=[(3,di [en P "__name__" 165 (.str "postcore.printing" 661),en P "__doc__" 166 .none,en P "__package__" 167 .none,en P "__loader__" 168 (.builtin "__main__.__loader__#opaque"),en P "__spec__" 169 .none,en P "__annotations__" 170 (.ref 6),en P "__builtins__" 171 (.ref 4),en P "__file__" 173 (.str "/claim/cut.py" 172),en P "__cached__" 174 .none,en P "_wall" 193 (.ref 21),en P "GRAIN" 197 (.int 1000000 196),en P "PostError" 226 (.ref 39),en P "PsError" 242 (.ref 52),en P "decimal_octets" 251 (.ref 61),en P "INTEGER" 255 (.str "integer" 254),en P "number_octets" 265 (.ref 68),en P "READ_ONLY" 269 (.int 2 268),en P "UNLIMITED" 271 (.int 3 270),en P "Thing" 306 (.ref 86),en P "Text" 341 (.ref 107),en P "Row" 376 (.ref 128),en P "DictBody" 427 (.ref 161),en P "Span" 460 (.ref 182),en P "integer" 467 (.ref 193),en P "real" 474 (.ref 200),en P "boolean" 481 (.ref 207),en P "name" 489 (.ref 215),en P "operator_thing" 496 (.ref 222),en P "mark" 502 (.ref 229),en P "null" 508 (.ref 236),en P "of_string" 517 (.ref 244),en P "of_row" 526 (.ref 252),en P "of_packed" 534 (.ref 260),en P "of_dict" 541 (.ref 267),en P "of_save" 548 (.ref 274),en P "font_id" 555 (.ref 281),en P "is_number" 562 (.ref 288),en P "is_in_array" 569 (.ref 295),en P "body_of" 576 (.ref 302),en P "is_local" 584 (.ref 309),en P "access_of" 591 (.ref 316),en P "can_read" 598 (.ref 323),en P "has_access" 605 (.ref 330),en P "with_access" 613 (.ref 337),en P "span_of" 620 (.ref 344),en P "check_part" 629 (.ref 351),en P "part_of" 638 (.ref 358),en P "with_span" 646 (.ref 365),en P "octets_of_span" 653 (.ref 372),en P "things_of_span" 660 (.ref 379),en P "PRINT_NOTHING" 664 (.bytes #[45,45,110,111,115,116,114,105,110,103,118,97,108,45,45] 663),en P "PRINT_DEPTH" 666 (.int 20 665)] 52),
  (12,ft [(1,20),(6,27),(10,48),(12,60),(24,67),(35,74),(42,96),(49,117),(56,138),(71,171),(77,192),(79,199),(81,206),(83,214),(85,221),(87,228),(89,235),(91,243),(93,251),(95,259),(97,266),(99,273),(101,280),(103,287),(105,294),(107,301),(111,308),(114,315),(116,322),(118,329),(120,336),(126,343),(130,350),(133,357),(136,364),(138,371),(140,378)])]
noncomputable def n10 (P:Params):List Obj:=[di [en P "null" 667 (.bytes #[110,117,108,108] 668),en P "mark" 669 (.bytes #[45,109,97,114,107,45] 670),en P "dict" 671 (.bytes #[45,100,105,99,116,45] 672),en P "file" 673 (.bytes #[45,102,105,108,101,45] 674),en P "save" 675 (.bytes #[45,115,97,118,101,108,101,118,101,108,45] 676),en P "gstate" 677 (.bytes #[45,103,115,116,97,116,101,45] 678),en P "fontid" 679 (.bytes #[45,102,111,110,116,105,100,45] 680)] 7]
noncomputable def c10 (P:Params):List (Nat×Obj):=[(3,di [en P "__name__" 165 (.str "postcore.printing" 661),en P "__doc__" 166 .none,en P "__package__" 167 .none,en P "__loader__" 168 (.builtin "__main__.__loader__#opaque"),en P "__spec__" 169 .none,en P "__annotations__" 170 (.ref 6),en P "__builtins__" 171 (.ref 4),en P "__file__" 173 (.str "/claim/cut.py" 172),en P "__cached__" 174 .none,en P "_wall" 193 (.ref 21),en P "GRAIN" 197 (.int 1000000 196),en P "PostError" 226 (.ref 39),en P "PsError" 242 (.ref 52),en P "decimal_octets" 251 (.ref 61),en P "INTEGER" 255 (.str "integer" 254),en P "number_octets" 265 (.ref 68),en P "READ_ONLY" 269 (.int 2 268),en P "UNLIMITED" 271 (.int 3 270),en P "Thing" 306 (.ref 86),en P "Text" 341 (.ref 107),en P "Row" 376 (.ref 128),en P "DictBody" 427 (.ref 161),en P "Span" 460 (.ref 182),en P "integer" 467 (.ref 193),en P "real" 474 (.ref 200),en P "boolean" 481 (.ref 207),en P "name" 489 (.ref 215),en P "operator_thing" 496 (.ref 222),en P "mark" 502 (.ref 229),en P "null" 508 (.ref 236),en P "of_string" 517 (.ref 244),en P "of_row" 526 (.ref 252),en P "of_packed" 534 (.ref 260),en P "of_dict" 541 (.ref 267),en P "of_save" 548 (.ref 274),en P "font_id" 555 (.ref 281),en P "is_number" 562 (.ref 288),en P "is_in_array" 569 (.ref 295),en P "body_of" 576 (.ref 302),en P "is_local" 584 (.ref 309),en P "access_of" 591 (.ref 316),en P "can_read" 598 (.ref 323),en P "has_access" 605 (.ref 330),en P "with_access" 613 (.ref 337),en P "span_of" 620 (.ref 344),en P "check_part" 629 (.ref 351),en P "part_of" 638 (.ref 358),en P "with_span" 646 (.ref 365),en P "octets_of_span" 653 (.ref 372),en P "things_of_span" 660 (.ref 379),en P "PRINT_NOTHING" 664 (.bytes #[45,45,110,111,115,116,114,105,110,103,118,97,108,45,45] 663),en P "PRINT_DEPTH" 666 (.int 20 665),en P "PRINT_WORDS" 688 (.ref 380)] 53)]
noncomputable def dm (P:Params):List Obj:=[tu [],
  fl [],
  tu [.str "octet" 692,.str "letters" 693],
  tu [],
  f0 (d 48) "print_escape" "print_escape",
  cq "print_escape" 689 "print_escape" 146 1 0 0 3 381 true 181 382 .none (.ref 383) (.ref 384) (.ref 385) 694 146,
  fu (d 48) "print_escape" "print_escape" .none .none .none "postcore.printing" 661 386,
  tu [],
  fl [],
  f0 (d 49) "print_string" "print_string",
  cq "print_string" 697 "print_string" 153 1 0 0 3 388 true 181 389 .none .none .none (.ref 390) 700 153,
  fu (d 49) "print_string" "print_string" .none .none .none "postcore.printing" 661 391,
  tu [],
  fl [],
  tu [.str "truth" 706],
  tu [],
  f0 (d 50) "print_truth" "print_truth",
  co "print_truth" 703 "print_truth" 155 1 0 0 3 393 true 181 394 .none (.ref 395) (.ref 396) (.ref 397) 155,
  fu (d 50) "print_truth" "print_truth" .none .none .none "postcore.printing" 661 398,
  tu [],
  fl [],
  tu [.str "thing" 713],
  tu [],
  f0 (d 51) "print_plain" "print_plain",
  co "print_plain" 710 "print_plain" 157 1 0 0 3 400 true 181 401 .none (.ref 402) (.ref 403) (.ref 404) 157,
  fu (d 51) "print_plain" "print_plain" .none .none .none "postcore.printing" 661 405,
  tu [],
  fl [],
  f0 (d 52) "print_row" "print_row",
  cq "print_row" 717 "print_row" 167 2 0 0 3 407 true 181 408 .none .none .none (.ref 409) 720 167,
  fu (d 52) "print_row" "print_row" .none .none .none "postcore.printing" 661 410,
  tu [.int 20 665],
  tu [],
  fl [],
  tu [.str "thing" 726,.str "depth" 727],
  tu [],
  f0 (d 53) "written" "written",
  cq "written" 723 "written" 174 2 0 0 3 413 true 181 414 .none (.ref 415) (.ref 416) (.ref 417) 728 174,
  fu (d 53) "written" "written" (.ref 412) .none .none "postcore.printing" 661 418]
noncomputable def c11 (P:Params):List (Nat×Obj):=[(3,di [en P "__name__" 165 (.str "postcore.memory" 731),en P "__doc__" 166 .none,en P "__package__" 167 .none,en P "__loader__" 168 (.builtin "__main__.__loader__#opaque"),en P "__spec__" 169 .none,en P "__annotations__" 170 (.ref 6),en P "__builtins__" 171 (.ref 4),en P "__file__" 173 (.str "/claim/cut.py" 172),en P "__cached__" 174 .none,en P "_wall" 193 (.ref 21),en P "GRAIN" 197 (.int 1000000 196),en P "PostError" 226 (.ref 39),en P "PsError" 242 (.ref 52),en P "decimal_octets" 251 (.ref 61),en P "INTEGER" 255 (.str "integer" 254),en P "number_octets" 265 (.ref 68),en P "READ_ONLY" 269 (.int 2 268),en P "UNLIMITED" 271 (.int 3 270),en P "Thing" 306 (.ref 86),en P "Text" 341 (.ref 107),en P "Row" 376 (.ref 128),en P "DictBody" 427 (.ref 161),en P "Span" 460 (.ref 182),en P "integer" 467 (.ref 193),en P "real" 474 (.ref 200),en P "boolean" 481 (.ref 207),en P "name" 489 (.ref 215),en P "operator_thing" 496 (.ref 222),en P "mark" 502 (.ref 229),en P "null" 508 (.ref 236),en P "of_string" 517 (.ref 244),en P "of_row" 526 (.ref 252),en P "of_packed" 534 (.ref 260),en P "of_dict" 541 (.ref 267),en P "of_save" 548 (.ref 274),en P "font_id" 555 (.ref 281),en P "is_number" 562 (.ref 288),en P "is_in_array" 569 (.ref 295),en P "body_of" 576 (.ref 302),en P "is_local" 584 (.ref 309),en P "access_of" 591 (.ref 316),en P "can_read" 598 (.ref 323),en P "has_access" 605 (.ref 330),en P "with_access" 613 (.ref 337),en P "span_of" 620 (.ref 344),en P "check_part" 629 (.ref 351),en P "part_of" 638 (.ref 358),en P "with_span" 646 (.ref 365),en P "octets_of_span" 653 (.ref 372),en P "things_of_span" 660 (.ref 379),en P "PRINT_NOTHING" 664 (.bytes #[45,45,110,111,115,116,114,105,110,103,118,97,108,45,45] 663),en P "PRINT_DEPTH" 666 (.int 20 665),en P "PRINT_WORDS" 688 (.ref 380),en P "print_escape" 696 (.ref 387),en P "print_string" 702 (.ref 392),en P "print_truth" 709 (.ref 399),en P "print_plain" 716 (.ref 406),en P "print_row" 722 (.ref 411),en P "written" 730 (.ref 419),en P "ITEM_COST" 734 (.int 8 733),en P "ENTRY_COST" 736 (.int 16 735),en P "MOST_COST" 740 (.int 16777216 739)] 62),
  (12,ft [(1,20),(6,27),(10,48),(12,60),(24,67),(35,74),(42,96),(49,117),(56,138),(71,171),(77,192),(79,199),(81,206),(83,214),(85,221),(87,228),(89,235),(91,243),(93,251),(95,259),(97,266),(99,273),(101,280),(103,287),(105,294),(107,301),(111,308),(114,315),(116,322),(118,329),(120,336),(126,343),(130,350),(133,357),(136,364),(138,371),(140,378),(146,386),(153,391),(155,398),(157,405),(167,410),(174,418)])]
noncomputable def lx (P:Params):List Obj:=[tu [],
  bm [.builtin "type.__prepare__",.type "type"],
  di [en P "__module__" 748 (.str "postcore.memory" 731),en P "__qualname__" 750 (.str "Limits" 749),en P "__firstlineno__" 752 (.int 192 751),en P "__init__" 786 (.ref 434),en P "__static_attributes__" 801 (.ref 435)] 5,
  tu [],
  fl [i0 194,i0 4,.ref 433],
  cq "Limits" 743 "Limits" 192 0 0 0 0 423 false 181 424 .none .none .none .none 746 192,
  fm 425 422 "postcore.memory" 731,
  tu [.int 500 753,.int 20 754,.int 250 755,.int 15 756,.int 31 757,.int 65535 758,.int 65535 759,.int 65535 760,.int 127 761,.int 1500 762,.int 11 763,.int 15 764,.int 600 765,.int 16777216 739],
  tu [],
  fl [],
  tu [.str "self" 769,.str "operands" 770,.str "dicts" 771,.str "frames" 772,.str "saves" 773,.str "gstates" 774,.str "text" 775,.str "row" 776,.str "entries" 777,.str "word" 778,.str "path" 779,.str "dash" 780,.str "files" 781,.str "system" 782,.str "vm" 783],
  tu [],
  f0 (e 58 0) "__init__" "Limits.__init__",
  cq "__init__" 766 "Limits.__init__" 194 15 0 0 3 428 true 181 429 .none (.ref 430) (.ref 431) (.ref 432) 784 194,
  fu (e 58 0) "__init__" "Limits.__init__" (.ref 427) .none .none "postcore.memory" 731 433,
  tu [.str "dash" 787,.str "dicts" 788,.str "entries" 789,.str "files" 790,.str "frames" 791,.str "gstates" 792,.str "operands" 793,.str "path" 794,.str "row" 795,.str "saves" 796,.str "system" 797,.str "text" 798,.str "vm" 799,.str "word" 800],
  di [en P "__module__" 748 (.str "postcore.memory" 731),en P "__firstlineno__" 752 (.int 192 751),en P "__init__" 786 (.ref 434),en P "__static_attributes__" 801 (.ref 435),en P "__dict__" 803 (.ref 438),en P "__weakref__" 805 (.ref 439),en P "__doc__" 806 .none] 4,
  ⟨(.type "type"),none,(.cls ⟨"Limits",[.type "object"],[.ref 437,.type "object"],436,"Limits",true,[],[],false,none,false⟩),#[none,none,(some (.str "Limits" 741)),(some (.str "Limits" 749)),(some (.builtin "object.__new__")),(some (.bool true))]⟩,
  ⟨(.type "getset_descriptor"),none,(.fields #[.str "__dict__" 802,.ref 437,.builtin "function.__dict__",.builtin "function.__dict__#set"]),#[]⟩,
  ⟨(.type "getset_descriptor"),none,(.fields #[.str "__weakref__" 804,.ref 437,.builtin "ExceptionGroup.__weakref__",.none]),#[]⟩,
  ⟨(.type "super"),none,(.fields #[.ref 437,.ref 437,.ref 437]),#[]⟩,
  bm [.builtin "object.__init_subclass__",.ref 437]]
noncomputable def c12 (P:Params):List (Nat×Obj):=[(3,di [en P "__name__" 165 (.str "postcore.memory" 731),en P "__doc__" 166 .none,en P "__package__" 167 .none,en P "__loader__" 168 (.builtin "__main__.__loader__#opaque"),en P "__spec__" 169 .none,en P "__annotations__" 170 (.ref 6),en P "__builtins__" 171 (.ref 4),en P "__file__" 173 (.str "/claim/cut.py" 172),en P "__cached__" 174 .none,en P "_wall" 193 (.ref 21),en P "GRAIN" 197 (.int 1000000 196),en P "PostError" 226 (.ref 39),en P "PsError" 242 (.ref 52),en P "decimal_octets" 251 (.ref 61),en P "INTEGER" 255 (.str "integer" 254),en P "number_octets" 265 (.ref 68),en P "READ_ONLY" 269 (.int 2 268),en P "UNLIMITED" 271 (.int 3 270),en P "Thing" 306 (.ref 86),en P "Text" 341 (.ref 107),en P "Row" 376 (.ref 128),en P "DictBody" 427 (.ref 161),en P "Span" 460 (.ref 182),en P "integer" 467 (.ref 193),en P "real" 474 (.ref 200),en P "boolean" 481 (.ref 207),en P "name" 489 (.ref 215),en P "operator_thing" 496 (.ref 222),en P "mark" 502 (.ref 229),en P "null" 508 (.ref 236),en P "of_string" 517 (.ref 244),en P "of_row" 526 (.ref 252),en P "of_packed" 534 (.ref 260),en P "of_dict" 541 (.ref 267),en P "of_save" 548 (.ref 274),en P "font_id" 555 (.ref 281),en P "is_number" 562 (.ref 288),en P "is_in_array" 569 (.ref 295),en P "body_of" 576 (.ref 302),en P "is_local" 584 (.ref 309),en P "access_of" 591 (.ref 316),en P "can_read" 598 (.ref 323),en P "has_access" 605 (.ref 330),en P "with_access" 613 (.ref 337),en P "span_of" 620 (.ref 344),en P "check_part" 629 (.ref 351),en P "part_of" 638 (.ref 358),en P "with_span" 646 (.ref 365),en P "octets_of_span" 653 (.ref 372),en P "things_of_span" 660 (.ref 379),en P "PRINT_NOTHING" 664 (.bytes #[45,45,110,111,115,116,114,105,110,103,118,97,108,45,45] 663),en P "PRINT_DEPTH" 666 (.int 20 665),en P "PRINT_WORDS" 688 (.ref 380),en P "print_escape" 696 (.ref 387),en P "print_string" 702 (.ref 392),en P "print_truth" 709 (.ref 399),en P "print_plain" 716 (.ref 406),en P "print_row" 722 (.ref 411),en P "written" 730 (.ref 419),en P "ITEM_COST" 734 (.int 8 733),en P "ENTRY_COST" 736 (.int 16 735),en P "MOST_COST" 740 (.int 16777216 739),en P "Limits" 808 (.ref 437)] 63),
  (12,ft [(1,20),(6,27),(10,48),(12,60),(24,67),(35,74),(42,96),(49,117),(56,138),(71,171),(77,192),(79,199),(81,206),(83,214),(85,221),(87,228),(89,235),(91,243),(93,251),(95,259),(97,266),(99,273),(101,280),(103,287),(105,294),(107,301),(111,308),(114,315),(116,322),(118,329),(120,336),(126,343),(130,350),(133,357),(136,364),(138,371),(140,378),(146,386),(153,391),(155,398),(157,405),(167,410),(174,418),(192,425)])]
noncomputable def n13 (P:Params):List Obj:=[tu [],
  bm [.builtin "type.__prepare__",.type "type"],
  di [en P "__module__" 816 (.str "postcore.memory" 731),en P "__qualname__" 818 (.str "VmSave" 817),en P "__firstlineno__" 820 (.int 209 819),en P "__init__" 831 (.ref 455),en P "__static_attributes__" 836 (.ref 456)] 5,
  tu [],
  fl [i0 211,i0 4,.ref 454],
  cq "VmSave" 811 "VmSave" 209 0 0 0 0 445 false 181 446 .none .none .none .none 814 209,
  fm 447 444 "postcore.memory" 731,
  tu [],
  fl [],
  tu [.str "self" 824,.str "number" 825,.str "many" 826,.str "used" 827,.str "note" 828],
  tu [],
  f0 (e 59 0) "__init__" "VmSave.__init__",
  cq "__init__" 821 "VmSave.__init__" 211 5 0 0 3 449 true 181 450 .none (.ref 451) (.ref 452) (.ref 453) 829 211,
  fu (e 59 0) "__init__" "VmSave.__init__" .none .none .none "postcore.memory" 731 454,
  tu [.str "many" 832,.str "note" 833,.str "number" 834,.str "used" 835],
  di [en P "__module__" 816 (.str "postcore.memory" 731),en P "__firstlineno__" 820 (.int 209 819),en P "__init__" 831 (.ref 455),en P "__static_attributes__" 836 (.ref 456),en P "__dict__" 838 (.ref 459),en P "__weakref__" 840 (.ref 460),en P "__doc__" 841 .none] 4,
  ⟨(.type "type"),none,(.cls ⟨"VmSave",[.type "object"],[.ref 458,.type "object"],457,"VmSave",true,[],[],false,none,false⟩),#[none,none,(some (.str "VmSave" 809)),(some (.str "VmSave" 817)),(some (.builtin "object.__new__")),(some (.bool true))]⟩,
  ⟨(.type "getset_descriptor"),none,(.fields #[.str "__dict__" 837,.ref 458,.builtin "function.__dict__",.builtin "function.__dict__#set"]),#[]⟩,
  ⟨(.type "getset_descriptor"),none,(.fields #[.str "__weakref__" 839,.ref 458,.builtin "ExceptionGroup.__weakref__",.none]),#[]⟩,
  ⟨(.type "super"),none,(.fields #[.ref 458,.ref 458,.ref 458]),#[]⟩,
  bm [.builtin "object.__init_subclass__",.ref 458]]
noncomputable def c13 (P:Params):List (Nat×Obj):=[(3,di [en P "__name__" 165 (.str "postcore.memory" 731),en P "__doc__" 166 .none,en P "__package__" 167 .none,en P "__loader__" 168 (.builtin "__main__.__loader__#opaque"),en P "__spec__" 169 .none,en P "__annotations__" 170 (.ref 6),en P "__builtins__" 171 (.ref 4),en P "__file__" 173 (.str "/claim/cut.py" 172),en P "__cached__" 174 .none,en P "_wall" 193 (.ref 21),en P "GRAIN" 197 (.int 1000000 196),en P "PostError" 226 (.ref 39),en P "PsError" 242 (.ref 52),en P "decimal_octets" 251 (.ref 61),en P "INTEGER" 255 (.str "integer" 254),en P "number_octets" 265 (.ref 68),en P "READ_ONLY" 269 (.int 2 268),en P "UNLIMITED" 271 (.int 3 270),en P "Thing" 306 (.ref 86),en P "Text" 341 (.ref 107),en P "Row" 376 (.ref 128),en P "DictBody" 427 (.ref 161),en P "Span" 460 (.ref 182),en P "integer" 467 (.ref 193),en P "real" 474 (.ref 200),en P "boolean" 481 (.ref 207),en P "name" 489 (.ref 215),en P "operator_thing" 496 (.ref 222),en P "mark" 502 (.ref 229),en P "null" 508 (.ref 236),en P "of_string" 517 (.ref 244),en P "of_row" 526 (.ref 252),en P "of_packed" 534 (.ref 260),en P "of_dict" 541 (.ref 267),en P "of_save" 548 (.ref 274),en P "font_id" 555 (.ref 281),en P "is_number" 562 (.ref 288),en P "is_in_array" 569 (.ref 295),en P "body_of" 576 (.ref 302),en P "is_local" 584 (.ref 309),en P "access_of" 591 (.ref 316),en P "can_read" 598 (.ref 323),en P "has_access" 605 (.ref 330),en P "with_access" 613 (.ref 337),en P "span_of" 620 (.ref 344),en P "check_part" 629 (.ref 351),en P "part_of" 638 (.ref 358),en P "with_span" 646 (.ref 365),en P "octets_of_span" 653 (.ref 372),en P "things_of_span" 660 (.ref 379),en P "PRINT_NOTHING" 664 (.bytes #[45,45,110,111,115,116,114,105,110,103,118,97,108,45,45] 663),en P "PRINT_DEPTH" 666 (.int 20 665),en P "PRINT_WORDS" 688 (.ref 380),en P "print_escape" 696 (.ref 387),en P "print_string" 702 (.ref 392),en P "print_truth" 709 (.ref 399),en P "print_plain" 716 (.ref 406),en P "print_row" 722 (.ref 411),en P "written" 730 (.ref 419),en P "ITEM_COST" 734 (.int 8 733),en P "ENTRY_COST" 736 (.int 16 735),en P "MOST_COST" 740 (.int 16777216 739),en P "Limits" 808 (.ref 437),en P "VmSave" 843 (.ref 458)] 64),
  (12,ft [(1,20),(6,27),(10,48),(12,60),(24,67),(35,74),(42,96),(49,117),(56,138),(71,171),(77,192),(79,199),(81,206),(83,214),(85,221),(87,228),(89,235),(91,243),(93,251),(95,259),(97,266),(99,273),(101,280),(103,287),(105,294),(107,301),(111,308),(114,315),(116,322),(118,329),(120,336),(126,343),(130,350),(133,357),(136,364),(138,371),(140,378),(146,386),(153,391),(155,398),(157,405),(167,410),(174,418),(192,425),(209,447)])]
noncomputable def bE (P:Params):List Obj:=[tu [],
  bm [.builtin "type.__prepare__",.type "type"],
  di [en P "__module__" 851 (.str "postcore.memory" 731),en P "__qualname__" 853 (.str "BodyMaker" 852),en P "__firstlineno__" 855 (.int 216 854),en P "__init__" 863 (.ref 476),en P "level" 871 (.ref 484),en P "body_level" 878 (.ref 491),en P "take_room" 886 (.ref 498),en P "check_room" 894 (.ref 505),en P "make_text" 902 (.ref 512),en P "text_of_octets" 910 (.ref 519),en P "make_row" 919 (.ref 526),en P "make_dict" 927 (.ref 533),en P "__static_attributes__" 938 (.ref 534)] 13,
  tu [],
  fl [i0 218,i0 4,.ref 475,i0 231,i0 4,.ref 482,i0 234,i0 4,.ref 490,i0 237,i0 4,.ref 497,i0 247,i0 4,.ref 504,i0 251,i0 4,.ref 511,i0 254,i0 4,.ref 518,i0 258,i0 4,.ref 525,i0 269,i0 4,.ref 532],
  cq "BodyMaker" 846 "BodyMaker" 216 0 0 0 0 466 false 181 467 .none .none .none .none 849 216,
  fm 468 465 "postcore.memory" 731,
  tu [],
  fl [],
  tu [.str "self" 859,.str "limits" 860],
  tu [],
  f0 (e 60 0) "__init__" "BodyMaker.__init__",
  cq "__init__" 856 "BodyMaker.__init__" 218 2 0 0 3 470 true 181 471 .none (.ref 472) (.ref 473) (.ref 474) 861 218,
  fu (e 60 0) "__init__" "BodyMaker.__init__" .none .none .none "postcore.memory" 731 475,
  tu [],
  fl [],
  tu [.str "self" 867],
  tu [],
  f0 (e 60 1) "level" "BodyMaker.level",
  co "level" 864 "BodyMaker.level" 230 1 0 0 3 477 true 181 478 .none (.ref 479) (.ref 480) (.ref 481) 230,
  fu (e 60 1) "level" "BodyMaker.level" .none .none .none "postcore.memory" 731 482,
  ⟨(.type "property"),none,(.fields #[.ref 483,.none,.none,.none,.str "level" 871,.bool false]),#[]⟩,
  tu [],
  fl [],
  tu [.str "self" 875],
  tu [],
  f0 (e 60 2) "body_level" "BodyMaker.body_level",
  co "body_level" 872 "BodyMaker.body_level" 234 1 0 0 3 485 true 181 486 .none (.ref 487) (.ref 488) (.ref 489) 234,
  fu (e 60 2) "body_level" "BodyMaker.body_level" .none .none .none "postcore.memory" 731 490,
  tu [],
  fl [],
  tu [.str "self" 882,.str "cost" 883],
  tu [],
  f0 (e 60 3) "take_room" "BodyMaker.take_room",
  cq "take_room" 879 "BodyMaker.take_room" 237 2 0 0 3 492 true 181 493 .none (.ref 494) (.ref 495) (.ref 496) 884 237,
  fu (e 60 3) "take_room" "BodyMaker.take_room" .none .none .none "postcore.memory" 731 497,
  tu [],
  fl [],
  tu [.str "self" 890,.str "cost" 891],
  tu [],
  f0 (e 60 4) "check_room" "BodyMaker.check_room",
  cq "check_room" 887 "BodyMaker.check_room" 247 2 0 0 3 499 true 181 500 .none (.ref 501) (.ref 502) (.ref 503) 892 247,
  fu (e 60 4) "check_room" "BodyMaker.check_room" .none .none .none "postcore.memory" 731 504,
  tu [],
  fl [],
  tu [.str "self" 898,.str "many" 899],
  tu [],
  f0 (e 60 5) "make_text" "BodyMaker.make_text",
  cq "make_text" 895 "BodyMaker.make_text" 251 2 0 0 3 506 true 181 507 .none (.ref 508) (.ref 509) (.ref 510) 900 251,
  fu (e 60 5) "make_text" "BodyMaker.make_text" .none .none .none "postcore.memory" 731 511,
  tu [],
  fl [],
  tu [.str "self" 906,.str "octets" 907],
  tu [],
  f0 (e 60 6) "text_of_octets" "BodyMaker.text_of_octets",
  cq "text_of_octets" 903 "BodyMaker.text_of_octets" 254 2 0 0 3 513 true 181 514 .none (.ref 515) (.ref 516) (.ref 517) 908 254,
  fu (e 60 6) "text_of_octets" "BodyMaker.text_of_octets" .none .none .none "postcore.memory" 731 518,
  tu [],
  fl [],
  tu [.str "self" 914,.str "things" 915,.str "thing" 916],
  tu [],
  f0 (e 60 7) "make_row" "BodyMaker.make_row",
  cq "make_row" 911 "BodyMaker.make_row" 258 2 0 0 3 520 true 181 521 .none (.ref 522) (.ref 523) (.ref 524) 917 258,
  fu (e 60 7) "make_row" "BodyMaker.make_row" .none .none .none "postcore.memory" 731 525,
  tu [],
  fl [],
  tu [.str "self" 923,.str "most" 924],
  tu [],
  f0 (e 60 8) "make_dict" "BodyMaker.make_dict",
  cq "make_dict" 920 "BodyMaker.make_dict" 269 2 0 0 3 527 true 181 528 .none (.ref 529) (.ref 530) (.ref 531) 925 269,
  fu (e 60 8) "make_dict" "BodyMaker.make_dict" .none .none .none "postcore.memory" 731 532,
  tu [.str "freed" 928,.str "is_global" 929,.str "journal" 930,.str "last_body" 931,.str "last_save" 932,.str "limits" 933,.str "made" 934,.str "saves" 935,.str "used" 936,.str "used_global" 937],
  di [en P "__module__" 851 (.str "postcore.memory" 731),en P "__firstlineno__" 855 (.int 216 854),en P "__init__" 863 (.ref 476),en P "level" 871 (.ref 484),en P "body_level" 878 (.ref 491),en P "take_room" 886 (.ref 498),en P "check_room" 894 (.ref 505),en P "make_text" 902 (.ref 512),en P "text_of_octets" 910 (.ref 519),en P "make_row" 919 (.ref 526),en P "make_dict" 927 (.ref 533),en P "__static_attributes__" 938 (.ref 534),en P "__dict__" 940 (.ref 537),en P "__weakref__" 942 (.ref 538),en P "__doc__" 943 .none] 4,
  ⟨(.type "type"),none,(.cls ⟨"BodyMaker",[.type "object"],[.ref 536,.type "object"],535,"BodyMaker",true,[],[],false,none,false⟩),#[none,none,(some (.str "BodyMaker" 844)),(some (.str "BodyMaker" 852)),(some (.builtin "object.__new__")),(some (.bool true))]⟩,
  ⟨(.type "getset_descriptor"),none,(.fields #[.str "__dict__" 939,.ref 536,.builtin "function.__dict__",.builtin "function.__dict__#set"]),#[]⟩,
  ⟨(.type "getset_descriptor"),none,(.fields #[.str "__weakref__" 941,.ref 536,.builtin "ExceptionGroup.__weakref__",.none]),#[]⟩,
  ⟨(.type "super"),none,(.fields #[.ref 536,.ref 536,.ref 536]),#[]⟩,
  bm [.builtin "object.__init_subclass__",.ref 536]]
noncomputable def c14 (P:Params):List (Nat×Obj):=[(3,di [en P "__name__" 165 (.str "postcore.memory" 731),en P "__doc__" 166 .none,en P "__package__" 167 .none,en P "__loader__" 168 (.builtin "__main__.__loader__#opaque"),en P "__spec__" 169 .none,en P "__annotations__" 170 (.ref 6),en P "__builtins__" 171 (.ref 4),en P "__file__" 173 (.str "/claim/cut.py" 172),en P "__cached__" 174 .none,en P "_wall" 193 (.ref 21),en P "GRAIN" 197 (.int 1000000 196),en P "PostError" 226 (.ref 39),en P "PsError" 242 (.ref 52),en P "decimal_octets" 251 (.ref 61),en P "INTEGER" 255 (.str "integer" 254),en P "number_octets" 265 (.ref 68),en P "READ_ONLY" 269 (.int 2 268),en P "UNLIMITED" 271 (.int 3 270),en P "Thing" 306 (.ref 86),en P "Text" 341 (.ref 107),en P "Row" 376 (.ref 128),en P "DictBody" 427 (.ref 161),en P "Span" 460 (.ref 182),en P "integer" 467 (.ref 193),en P "real" 474 (.ref 200),en P "boolean" 481 (.ref 207),en P "name" 489 (.ref 215),en P "operator_thing" 496 (.ref 222),en P "mark" 502 (.ref 229),en P "null" 508 (.ref 236),en P "of_string" 517 (.ref 244),en P "of_row" 526 (.ref 252),en P "of_packed" 534 (.ref 260),en P "of_dict" 541 (.ref 267),en P "of_save" 548 (.ref 274),en P "font_id" 555 (.ref 281),en P "is_number" 562 (.ref 288),en P "is_in_array" 569 (.ref 295),en P "body_of" 576 (.ref 302),en P "is_local" 584 (.ref 309),en P "access_of" 591 (.ref 316),en P "can_read" 598 (.ref 323),en P "has_access" 605 (.ref 330),en P "with_access" 613 (.ref 337),en P "span_of" 620 (.ref 344),en P "check_part" 629 (.ref 351),en P "part_of" 638 (.ref 358),en P "with_span" 646 (.ref 365),en P "octets_of_span" 653 (.ref 372),en P "things_of_span" 660 (.ref 379),en P "PRINT_NOTHING" 664 (.bytes #[45,45,110,111,115,116,114,105,110,103,118,97,108,45,45] 663),en P "PRINT_DEPTH" 666 (.int 20 665),en P "PRINT_WORDS" 688 (.ref 380),en P "print_escape" 696 (.ref 387),en P "print_string" 702 (.ref 392),en P "print_truth" 709 (.ref 399),en P "print_plain" 716 (.ref 406),en P "print_row" 722 (.ref 411),en P "written" 730 (.ref 419),en P "ITEM_COST" 734 (.int 8 733),en P "ENTRY_COST" 736 (.int 16 735),en P "MOST_COST" 740 (.int 16777216 739),en P "Limits" 808 (.ref 437),en P "VmSave" 843 (.ref 458),en P "BodyMaker" 945 (.ref 536)] 65),
  (12,ft [(1,20),(6,27),(10,48),(12,60),(24,67),(35,74),(42,96),(49,117),(56,138),(71,171),(77,192),(79,199),(81,206),(83,214),(85,221),(87,228),(89,235),(91,243),(93,251),(95,259),(97,266),(99,273),(101,280),(103,287),(105,294),(107,301),(111,308),(114,315),(116,322),(118,329),(120,336),(126,343),(130,350),(133,357),(136,364),(138,371),(140,378),(146,386),(153,391),(155,398),(157,405),(167,410),(174,418),(192,425),(209,447),(216,468)])]
noncomputable def bz (P:Params):List Obj:=[tu [.ref 536],
  bm [.builtin "type.__prepare__",.type "type"],
  di [en P "__module__" 953 (.str "postcore.memory" 731),en P "__qualname__" 955 (.str "BodyChanger" 954),en P "__firstlineno__" 957 (.int 272 956),en P "is_elder" 965 (.ref 554),en P "check_holds" 974 (.ref 561),en P "put_item" 984 (.ref 568),en P "put_items" 994 (.ref 575),en P "put_octet" 1004 (.ref 582),en P "put_octets" 1014 (.ref 589),en P "grow" 1022 (.ref 596),en P "put_entry" 1032 (.ref 603),en P "drop_entry" 1041 (.ref 610),en P "set_access" 1050 (.ref 617),en P "__static_attributes__" 1051 (.ref 618)] 14,
  tu [],
  fl [i0 274,i0 4,.ref 553,i0 277,i0 4,.ref 560,i0 280,i0 4,.ref 567,i0 283,i0 4,.ref 574,i0 286,i0 4,.ref 581,i0 289,i0 4,.ref 588,i0 292,i0 4,.ref 595,i0 295,i0 4,.ref 602,i0 298,i0 4,.ref 609,i0 301,i0 4,.ref 616],
  cq "BodyChanger" 948 "BodyChanger" 272 0 0 0 0 544 false 181 545 .none .none .none .none 951 272,
  fm 546 543 "postcore.memory" 731,
  tu [],
  fl [],
  tu [.str "self" 961,.str "body" 962],
  tu [],
  f0 (e 61 0) "is_elder" "BodyChanger.is_elder",
  cq "is_elder" 958 "BodyChanger.is_elder" 274 2 0 0 3 548 true 181 549 .none (.ref 550) (.ref 551) (.ref 552) 963 274,
  fu (e 61 0) "is_elder" "BodyChanger.is_elder" .none .none .none "postcore.memory" 731 553,
  tu [],
  fl [],
  tu [.str "self" 969,.str "body" 970,.str "thing" 971],
  tu [],
  f0 (e 61 1) "check_holds" "BodyChanger.check_holds",
  cq "check_holds" 966 "BodyChanger.check_holds" 277 3 0 0 3 555 true 181 556 .none (.ref 557) (.ref 558) (.ref 559) 972 277,
  fu (e 61 1) "check_holds" "BodyChanger.check_holds" .none .none .none "postcore.memory" 731 560,
  tu [],
  fl [],
  tu [.str "self" 978,.str "row" 979,.str "at" 980,.str "thing" 981],
  tu [],
  f0 (e 61 2) "put_item" "BodyChanger.put_item",
  cq "put_item" 975 "BodyChanger.put_item" 280 4 0 0 3 562 true 181 563 .none (.ref 564) (.ref 565) (.ref 566) 982 280,
  fu (e 61 2) "put_item" "BodyChanger.put_item" .none .none .none "postcore.memory" 731 567,
  tu [],
  fl [],
  tu [.str "self" 988,.str "row" 989,.str "at" 990,.str "things" 991],
  tu [],
  f0 (e 61 3) "put_items" "BodyChanger.put_items",
  cq "put_items" 985 "BodyChanger.put_items" 283 4 0 0 3 569 true 181 570 .none (.ref 571) (.ref 572) (.ref 573) 992 283,
  fu (e 61 3) "put_items" "BodyChanger.put_items" .none .none .none "postcore.memory" 731 574,
  tu [],
  fl [],
  tu [.str "self" 998,.str "text" 999,.str "at" 1000,.str "octet" 1001],
  tu [],
  f0 (e 61 4) "put_octet" "BodyChanger.put_octet",
  cq "put_octet" 995 "BodyChanger.put_octet" 286 4 0 0 3 576 true 181 577 .none (.ref 578) (.ref 579) (.ref 580) 1002 286,
  fu (e 61 4) "put_octet" "BodyChanger.put_octet" .none .none .none "postcore.memory" 731 581,
  tu [],
  fl [],
  tu [.str "self" 1008,.str "text" 1009,.str "at" 1010,.str "octets" 1011],
  tu [],
  f0 (e 61 5) "put_octets" "BodyChanger.put_octets",
  cq "put_octets" 1005 "BodyChanger.put_octets" 289 4 0 0 3 583 true 181 584 .none (.ref 585) (.ref 586) (.ref 587) 1012 289,
  fu (e 61 5) "put_octets" "BodyChanger.put_octets" .none .none .none "postcore.memory" 731 588,
  tu [],
  fl [],
  tu [.str "self" 1018,.str "body" 1019],
  tu [],
  f0 (e 61 6) "grow" "BodyChanger.grow",
  cq "grow" 1015 "BodyChanger.grow" 292 2 0 0 3 590 true 181 591 .none (.ref 592) (.ref 593) (.ref 594) 1020 292,
  fu (e 61 6) "grow" "BodyChanger.grow" .none .none .none "postcore.memory" 731 595,
  tu [],
  fl [],
  tu [.str "self" 1026,.str "body" 1027,.str "key" 1028,.str "thing" 1029],
  tu [],
  f0 (e 61 7) "put_entry" "BodyChanger.put_entry",
  cq "put_entry" 1023 "BodyChanger.put_entry" 295 4 0 0 3 597 true 181 598 .none (.ref 599) (.ref 600) (.ref 601) 1030 295,
  fu (e 61 7) "put_entry" "BodyChanger.put_entry" .none .none .none "postcore.memory" 731 602,
  tu [],
  fl [],
  tu [.str "self" 1036,.str "body" 1037,.str "key" 1038],
  tu [],
  f0 (e 61 8) "drop_entry" "BodyChanger.drop_entry",
  cq "drop_entry" 1033 "BodyChanger.drop_entry" 298 3 0 0 3 604 true 181 605 .none (.ref 606) (.ref 607) (.ref 608) 1039 298,
  fu (e 61 8) "drop_entry" "BodyChanger.drop_entry" .none .none .none "postcore.memory" 731 609,
  tu [],
  fl [],
  tu [.str "self" 1045,.str "body" 1046,.str "access" 1047],
  tu [],
  f0 (e 61 9) "set_access" "BodyChanger.set_access",
  cq "set_access" 1042 "BodyChanger.set_access" 301 3 0 0 3 611 true 181 612 .none (.ref 613) (.ref 614) (.ref 615) 1048 301,
  fu (e 61 9) "set_access" "BodyChanger.set_access" .none .none .none "postcore.memory" 731 616,
  tu [],
  di [en P "__module__" 953 (.str "postcore.memory" 731),en P "__firstlineno__" 957 (.int 272 956),en P "is_elder" 965 (.ref 554),en P "check_holds" 974 (.ref 561),en P "put_item" 984 (.ref 568),en P "put_items" 994 (.ref 575),en P "put_octet" 1004 (.ref 582),en P "put_octets" 1014 (.ref 589),en P "grow" 1022 (.ref 596),en P "put_entry" 1032 (.ref 603),en P "drop_entry" 1041 (.ref 610),en P "set_access" 1050 (.ref 617),en P "__static_attributes__" 1051 (.ref 618),en P "__doc__" 1052 .none] 2,
  ⟨(.type "type"),none,(.cls ⟨"BodyChanger",[.ref 536],[.ref 620,.ref 536,.type "object"],619,"BodyChanger",true,[],[],false,none,false⟩),#[(some (.ref 541)),none,(some (.str "BodyChanger" 946)),(some (.str "BodyChanger" 954)),(some (.builtin "object.__new__")),(some (.bool true))]⟩,
  ⟨(.type "super"),none,(.fields #[.ref 620,.ref 620,.ref 620]),#[]⟩,
  bm [.builtin "object.__init_subclass__",.ref 620]]
noncomputable def c15 (P:Params):List (Nat×Obj):=[(3,di [en P "__name__" 165 (.str "postcore.memory" 731),en P "__doc__" 166 .none,en P "__package__" 167 .none,en P "__loader__" 168 (.builtin "__main__.__loader__#opaque"),en P "__spec__" 169 .none,en P "__annotations__" 170 (.ref 6),en P "__builtins__" 171 (.ref 4),en P "__file__" 173 (.str "/claim/cut.py" 172),en P "__cached__" 174 .none,en P "_wall" 193 (.ref 21),en P "GRAIN" 197 (.int 1000000 196),en P "PostError" 226 (.ref 39),en P "PsError" 242 (.ref 52),en P "decimal_octets" 251 (.ref 61),en P "INTEGER" 255 (.str "integer" 254),en P "number_octets" 265 (.ref 68),en P "READ_ONLY" 269 (.int 2 268),en P "UNLIMITED" 271 (.int 3 270),en P "Thing" 306 (.ref 86),en P "Text" 341 (.ref 107),en P "Row" 376 (.ref 128),en P "DictBody" 427 (.ref 161),en P "Span" 460 (.ref 182),en P "integer" 467 (.ref 193),en P "real" 474 (.ref 200),en P "boolean" 481 (.ref 207),en P "name" 489 (.ref 215),en P "operator_thing" 496 (.ref 222),en P "mark" 502 (.ref 229),en P "null" 508 (.ref 236),en P "of_string" 517 (.ref 244),en P "of_row" 526 (.ref 252),en P "of_packed" 534 (.ref 260),en P "of_dict" 541 (.ref 267),en P "of_save" 548 (.ref 274),en P "font_id" 555 (.ref 281),en P "is_number" 562 (.ref 288),en P "is_in_array" 569 (.ref 295),en P "body_of" 576 (.ref 302),en P "is_local" 584 (.ref 309),en P "access_of" 591 (.ref 316),en P "can_read" 598 (.ref 323),en P "has_access" 605 (.ref 330),en P "with_access" 613 (.ref 337),en P "span_of" 620 (.ref 344),en P "check_part" 629 (.ref 351),en P "part_of" 638 (.ref 358),en P "with_span" 646 (.ref 365),en P "octets_of_span" 653 (.ref 372),en P "things_of_span" 660 (.ref 379),en P "PRINT_NOTHING" 664 (.bytes #[45,45,110,111,115,116,114,105,110,103,118,97,108,45,45] 663),en P "PRINT_DEPTH" 666 (.int 20 665),en P "PRINT_WORDS" 688 (.ref 380),en P "print_escape" 696 (.ref 387),en P "print_string" 702 (.ref 392),en P "print_truth" 709 (.ref 399),en P "print_plain" 716 (.ref 406),en P "print_row" 722 (.ref 411),en P "written" 730 (.ref 419),en P "ITEM_COST" 734 (.int 8 733),en P "ENTRY_COST" 736 (.int 16 735),en P "MOST_COST" 740 (.int 16777216 739),en P "Limits" 808 (.ref 437),en P "VmSave" 843 (.ref 458),en P "BodyMaker" 945 (.ref 536),en P "BodyChanger" 1054 (.ref 620)] 66),
  (12,ft [(1,20),(6,27),(10,48),(12,60),(24,67),(35,74),(42,96),(49,117),(56,138),(71,171),(77,192),(79,199),(81,206),(83,214),(85,221),(87,228),(89,235),(91,243),(93,251),(95,259),(97,266),(99,273),(101,280),(103,287),(105,294),(107,301),(111,308),(114,315),(116,322),(118,329),(120,336),(126,343),(130,350),(133,357),(136,364),(138,371),(140,378),(146,386),(153,391),(155,398),(157,405),(167,410),(174,418),(192,425),(209,447),(216,468),(272,546)]),
  (536,⟨(.type "type"),none,(.cls ⟨"BodyMaker",[.type "object"],[.ref 536,.type "object"],535,"BodyMaker",true,[],[.ref 620],false,none,false⟩),#[none,none,(some (.str "BodyMaker" 844)),(some (.str "BodyMaker" 852)),(some (.builtin "object.__new__")),(some (.bool true))]⟩)]
noncomputable def aY (P:Params):List Obj:=[tu [.ref 620],
  bm [.builtin "type.__prepare__",.type "type"],
  di [en P "__module__" 1062 (.str "postcore.memory" 731),en P "__qualname__" 1064 (.str "Memory" 1063),en P "__firstlineno__" 1066 (.int 303 1065),en P "save" 1074 (.ref 637),en P "place_of_save" 1084 (.ref 644),en P "is_saved" 1092 (.ref 651),en P "note_of" 1100 (.ref 658),en P "sure_place" 1109 (.ref 665),en P "newer_than" 1118 (.ref 672),en P "restore" 1133 (.ref 679),en P "settle_costs" 1145 (.ref 686),en P "status" 1152 (.ref 693),en P "collect" 1160 (.ref 700),en P "reclaim" 1169 (.ref 708),en P "journal_things" 1176 (.ref 715),en P "__static_attributes__" 1181 (.ref 716)] 16,
  tu [],
  fl [i0 305,i0 4,.ref 636,i0 312,i0 4,.ref 643,i0 318,i0 4,.ref 650,i0 321,i0 4,.ref 657,i0 324,i0 4,.ref 664,i0 330,i0 4,.ref 671,i0 333,i0 4,.ref 678,i0 351,i0 4,.ref 685,i0 357,i0 4,.ref 692,i0 360,i0 4,.ref 699,i0 363,i0 4,.ref 707,i0 366,i0 4,.ref 714],
  cq "Memory" 1057 "Memory" 303 0 0 0 0 626 false 181 627 .none .none .none .none 1060 303,
  fm 628 625 "postcore.memory" 731,
  tu [.none],
  tu [],
  fl [],
  tu [.str "self" 1070,.str "note" 1071],
  tu [],
  f0 (e 62 0) "save" "Memory.save",
  cq "save" 1067 "Memory.save" 305 2 0 0 3 631 true 181 632 .none (.ref 633) (.ref 634) (.ref 635) 1072 305,
  fu (e 62 0) "save" "Memory.save" (.ref 630) .none .none "postcore.memory" 731 636,
  tu [],
  fl [],
  tu [.str "self" 1078,.str "number" 1079,.str "place" 1080,.str "saved" 1081],
  tu [],
  f0 (e 62 1) "place_of_save" "Memory.place_of_save",
  cq "place_of_save" 1075 "Memory.place_of_save" 312 2 0 0 3 638 true 181 639 .none (.ref 640) (.ref 641) (.ref 642) 1082 312,
  fu (e 62 1) "place_of_save" "Memory.place_of_save" .none .none .none "postcore.memory" 731 643,
  tu [],
  fl [],
  tu [.str "self" 1088,.str "number" 1089],
  tu [],
  f0 (e 62 2) "is_saved" "Memory.is_saved",
  cq "is_saved" 1085 "Memory.is_saved" 318 2 0 0 3 645 true 181 646 .none (.ref 647) (.ref 648) (.ref 649) 1090 318,
  fu (e 62 2) "is_saved" "Memory.is_saved" .none .none .none "postcore.memory" 731 650,
  tu [],
  fl [],
  tu [.str "self" 1096,.str "number" 1097],
  tu [],
  f0 (e 62 3) "note_of" "Memory.note_of",
  cq "note_of" 1093 "Memory.note_of" 321 2 0 0 3 652 true 181 653 .none (.ref 654) (.ref 655) (.ref 656) 1098 321,
  fu (e 62 3) "note_of" "Memory.note_of" .none .none .none "postcore.memory" 731 657,
  tu [],
  fl [],
  tu [.str "self" 1104,.str "number" 1105,.str "place" 1106],
  tu [],
  f0 (e 62 4) "sure_place" "Memory.sure_place",
  cq "sure_place" 1101 "Memory.sure_place" 324 2 0 0 3 659 true 181 660 .none (.ref 661) (.ref 662) (.ref 663) 1107 324,
  fu (e 62 4) "sure_place" "Memory.sure_place" .none .none .none "postcore.memory" 731 664,
  tu [],
  fl [],
  tu [.str "self" 1113,.str "number" 1114,.str "thing" 1115],
  tu [],
  f0 (e 62 5) "newer_than" "Memory.newer_than",
  cq "newer_than" 1110 "Memory.newer_than" 330 3 0 0 3 666 true 181 667 .none (.ref 668) (.ref 669) (.ref 670) 1116 330,
  fu (e 62 5) "newer_than" "Memory.newer_than" .none .none .none "postcore.memory" 731 671,
  tu [],
  fl [],
  tu [.str "self" 1122,.str "number" 1123,.str "place" 1124,.str "saved" 1125,.str "undone" 1126,.str "body" 1127,.str "cost" 1128,.str "is_global" 1129,.str "level" 1130],
  tu [],
  f0 (e 62 6) "restore" "Memory.restore",
  cq "restore" 1119 "Memory.restore" 333 2 0 0 3 673 true 181 674 .none (.ref 675) (.ref 676) (.ref 677) 1131 333,
  fu (e 62 6) "restore" "Memory.restore" .none .none .none "postcore.memory" 731 678,
  tu [],
  fl [],
  tu [.str "self" 1137,.str "undone" 1138,.str "change" 1139,.str "cost" 1140,.str "is_global" 1141,.str "level" 1142],
  tu [],
  f0 (e 62 7) "settle_costs" "Memory.settle_costs",
  cq "settle_costs" 1134 "Memory.settle_costs" 351 2 0 0 3 680 true 181 681 .none (.ref 682) (.ref 683) (.ref 684) 1143 351,
  fu (e 62 7) "settle_costs" "Memory.settle_costs" .none .none .none "postcore.memory" 731 685,
  tu [],
  fl [],
  tu [.str "self" 1149],
  tu [],
  f0 (e 62 8) "status" "Memory.status",
  co "status" 1146 "Memory.status" 357 1 0 0 3 687 true 181 688 .none (.ref 689) (.ref 690) (.ref 691) 357,
  fu (e 62 8) "status" "Memory.status" .none .none .none "postcore.memory" 731 692,
  tu [],
  fl [],
  tu [.str "self" 1156,.str "roots" 1157],
  tu [],
  f0 (e 62 9) "collect" "Memory.collect",
  cq "collect" 1153 "Memory.collect" 360 2 0 0 3 694 true 181 695 .none (.ref 696) (.ref 697) (.ref 698) 1158 360,
  fu (e 62 9) "collect" "Memory.collect" .none .none .none "postcore.memory" 731 699,
  tu [.bool false],
  tu [],
  fl [],
  tu [.str "self" 1164,.str "roots" 1165,.str "is_all" 1166],
  tu [],
  f0 (e 62 10) "reclaim" "Memory.reclaim",
  cq "reclaim" 1161 "Memory.reclaim" 363 3 0 0 3 702 true 181 703 .none (.ref 704) (.ref 705) (.ref 706) 1167 363,
  fu (e 62 10) "reclaim" "Memory.reclaim" (.ref 701) .none .none "postcore.memory" 731 707,
  tu [],
  fl [],
  tu [.str "self" 1173],
  tu [],
  f0 (e 62 11) "journal_things" "Memory.journal_things",
  co "journal_things" 1170 "Memory.journal_things" 366 1 0 0 3 709 true 181 710 .none (.ref 711) (.ref 712) (.ref 713) 366,
  fu (e 62 11) "journal_things" "Memory.journal_things" .none .none .none "postcore.memory" 731 714,
  tu [.str "freed" 1177,.str "last_save" 1178,.str "saves" 1179,.str "used" 1180],
  di [en P "__module__" 1062 (.str "postcore.memory" 731),en P "__firstlineno__" 1066 (.int 303 1065),en P "save" 1074 (.ref 637),en P "place_of_save" 1084 (.ref 644),en P "is_saved" 1092 (.ref 651),en P "note_of" 1100 (.ref 658),en P "sure_place" 1109 (.ref 665),en P "newer_than" 1118 (.ref 672),en P "restore" 1133 (.ref 679),en P "settle_costs" 1145 (.ref 686),en P "status" 1152 (.ref 693),en P "collect" 1160 (.ref 700),en P "reclaim" 1169 (.ref 708),en P "journal_things" 1176 (.ref 715),en P "__static_attributes__" 1181 (.ref 716),en P "__doc__" 1182 .none] 2,
  ⟨(.type "type"),none,(.cls ⟨"Memory",[.ref 620],[.ref 718,.ref 620,.ref 536,.type "object"],717,"Memory",true,[],[],false,none,false⟩),#[(some (.ref 623)),none,(some (.str "Memory" 1055)),(some (.str "Memory" 1063)),(some (.builtin "object.__new__")),(some (.bool true))]⟩,
  ⟨(.type "super"),none,(.fields #[.ref 718,.ref 718,.ref 718]),#[]⟩,
  bm [.builtin "object.__init_subclass__",.ref 718]]
noncomputable def c16 (P:Params):List (Nat×Obj):=[(3,di [en P "__name__" 165 (.str "postcore.memory" 731),en P "__doc__" 166 .none,en P "__package__" 167 .none,en P "__loader__" 168 (.builtin "__main__.__loader__#opaque"),en P "__spec__" 169 .none,en P "__annotations__" 170 (.ref 6),en P "__builtins__" 171 (.ref 4),en P "__file__" 173 (.str "/claim/cut.py" 172),en P "__cached__" 174 .none,en P "_wall" 193 (.ref 21),en P "GRAIN" 197 (.int 1000000 196),en P "PostError" 226 (.ref 39),en P "PsError" 242 (.ref 52),en P "decimal_octets" 251 (.ref 61),en P "INTEGER" 255 (.str "integer" 254),en P "number_octets" 265 (.ref 68),en P "READ_ONLY" 269 (.int 2 268),en P "UNLIMITED" 271 (.int 3 270),en P "Thing" 306 (.ref 86),en P "Text" 341 (.ref 107),en P "Row" 376 (.ref 128),en P "DictBody" 427 (.ref 161),en P "Span" 460 (.ref 182),en P "integer" 467 (.ref 193),en P "real" 474 (.ref 200),en P "boolean" 481 (.ref 207),en P "name" 489 (.ref 215),en P "operator_thing" 496 (.ref 222),en P "mark" 502 (.ref 229),en P "null" 508 (.ref 236),en P "of_string" 517 (.ref 244),en P "of_row" 526 (.ref 252),en P "of_packed" 534 (.ref 260),en P "of_dict" 541 (.ref 267),en P "of_save" 548 (.ref 274),en P "font_id" 555 (.ref 281),en P "is_number" 562 (.ref 288),en P "is_in_array" 569 (.ref 295),en P "body_of" 576 (.ref 302),en P "is_local" 584 (.ref 309),en P "access_of" 591 (.ref 316),en P "can_read" 598 (.ref 323),en P "has_access" 605 (.ref 330),en P "with_access" 613 (.ref 337),en P "span_of" 620 (.ref 344),en P "check_part" 629 (.ref 351),en P "part_of" 638 (.ref 358),en P "with_span" 646 (.ref 365),en P "octets_of_span" 653 (.ref 372),en P "things_of_span" 660 (.ref 379),en P "PRINT_NOTHING" 664 (.bytes #[45,45,110,111,115,116,114,105,110,103,118,97,108,45,45] 663),en P "PRINT_DEPTH" 666 (.int 20 665),en P "PRINT_WORDS" 688 (.ref 380),en P "print_escape" 696 (.ref 387),en P "print_string" 702 (.ref 392),en P "print_truth" 709 (.ref 399),en P "print_plain" 716 (.ref 406),en P "print_row" 722 (.ref 411),en P "written" 730 (.ref 419),en P "ITEM_COST" 734 (.int 8 733),en P "ENTRY_COST" 736 (.int 16 735),en P "MOST_COST" 740 (.int 16777216 739),en P "Limits" 808 (.ref 437),en P "VmSave" 843 (.ref 458),en P "BodyMaker" 945 (.ref 536),en P "BodyChanger" 1054 (.ref 620),en P "Memory" 1184 (.ref 718)] 67),
  (12,ft [(1,20),(6,27),(10,48),(12,60),(24,67),(35,74),(42,96),(49,117),(56,138),(71,171),(77,192),(79,199),(81,206),(83,214),(85,221),(87,228),(89,235),(91,243),(93,251),(95,259),(97,266),(99,273),(101,280),(103,287),(105,294),(107,301),(111,308),(114,315),(116,322),(118,329),(120,336),(126,343),(130,350),(133,357),(136,364),(138,371),(140,378),(146,386),(153,391),(155,398),(157,405),(167,410),(174,418),(192,425),(209,447),(216,468),(272,546),(303,628)]),
  (620,⟨(.type "type"),none,(.cls ⟨"BodyChanger",[.ref 536],[.ref 620,.ref 536,.type "object"],619,"BodyChanger",true,[],[.ref 718],false,none,false⟩),#[(some (.ref 541)),none,(some (.str "BodyChanger" 946)),(some (.str "BodyChanger" 954)),(some (.builtin "object.__new__")),(some (.bool true))]⟩)]
noncomputable def bk (P:Params):List Obj:=[tu [],
  fl [],
  tu [.str "many" 1188,.str "most" 1189],
  tu [],
  f0 (d 63) "memory_check_many" "memory_check_many",
  cq "memory_check_many" 1185 "memory_check_many" 368 2 0 0 3 721 true 181 722 .none (.ref 723) (.ref 724) (.ref 725) 1190 368,
  fu (d 63) "memory_check_many" "memory_check_many" .none .none .none "postcore.memory" 731 726,
  tu [],
  fl [],
  tu [.str "change" 1196,.str "word" 1197,.str "body" 1198,.str "entries" 1199,.str "key" 1200],
  tu [],
  f0 (d 64) "memory_put_back" "memory_put_back",
  cq "memory_put_back" 1193 "memory_put_back" 373 1 0 0 3 728 true 181 729 .none (.ref 730) (.ref 731) (.ref 732) 1201 373,
  fu (d 64) "memory_put_back" "memory_put_back" .none .none .none "postcore.memory" 731 733,
  tu [],
  fl [],
  tu [],
  tu [],
  f0 (d 66) "_law_strings" "_law_strings",
  cq "_law_strings" 1206 "_law_strings" 391 0 0 0 3 735 true 181 736 .none (.ref 737) (.ref 738) (.ref 739) 1209 391,
  fu (d 66) "_law_strings" "_law_strings" .none .none .none "law_on0273_01" 1204 740,
  tu [],
  fl [],
  tu [],
  tu [],
  f0 (d 67) "_law_names" "_law_names",
  cq "_law_names" 1212 "_law_names" 393 0 0 0 3 742 true 181 743 .none (.ref 744) (.ref 745) (.ref 746) 1215 393,
  fu (d 67) "_law_names" "_law_names" .none .none .none "law_on0273_01" 1204 747,
  tu [],
  fl [],
  f0 (d 68) "_law_deck" "_law_deck",
  cq "_law_deck" 1218 "_law_deck" 395 1 0 0 3 749 true 181 750 .none .none .none (.ref 751) 1221 395,
  fu (d 68) "_law_deck" "_law_deck" .none .none .none "law_on0273_01" 1204 752,
  tu [],
  fl [],
  tu [.str "deck" 1227,.str "many" 1228],
  tu [],
  f0 (d 69) "_law_draw" "_law_draw",
  cq "_law_draw" 1224 "_law_draw" 400 2 0 0 3 754 true 181 755 .none (.ref 756) (.ref 757) (.ref 758) 1229 400,
  fu (d 69) "_law_draw" "_law_draw" .none .none .none "law_on0273_01" 1204 759,
  tu [],
  fl [],
  tu [.str "memory" 1235,.str "deck" 1236,.str "octets" 1237,.str "is_exec" 1238,.str "way" 1239,.str "made" 1240],
  tu [],
  f0 (d 70) "_law_string" "_law_string",
  cq "_law_string" 1232 "_law_string" 405 2 0 0 3 761 true 181 762 .none (.ref 763) (.ref 764) (.ref 765) 1241 405,
  fu (d 70) "_law_string" "_law_string" .none .none .none "law_on0273_01" 1204 766,
  tu [],
  fl [],
  f0 (d 71) "_law_row" "_law_row",
  cq "_law_row" 1244 "_law_row" 413 3 0 0 3 768 true 181 769 .none .none .none (.ref 770) 1247 413,
  fu (d 71) "_law_row" "_law_row" .none .none .none "law_on0273_01" 1204 771,
  tu [],
  fl [],
  f0 (d 72) "_law_thing" "_law_thing",
  cq "_law_thing" 1250 "_law_thing" 423 3 0 0 3 773 true 181 774 .none .none .none (.ref 775) 1253 423,
  fu (d 72) "_law_thing" "_law_thing" .none .none .none "law_on0273_01" 1204 776,
  tu [],
  fl [],
  f0 (d 73) "_law_real" "_law_real",
  cq "_law_real" 1256 "_law_real" 449 1 0 0 3 778 true 181 779 .none .none .none (.ref 780) 1259 449,
  fu (d 73) "_law_real" "_law_real" .none .none .none "law_on0273_01" 1204 781,
  tu [],
  fl [],
  tu [.str "octets" 1265,.str "found" 1266,.str "shorts" 1267,.str "octet" 1268],
  tu [],
  f0 (d 74) "_law_escaped" "_law_escaped",
  cq "_law_escaped" 1262 "_law_escaped" 455 1 0 0 3 783 true 181 784 .none (.ref 785) (.ref 786) (.ref 787) 1269 455,
  fu (d 74) "_law_escaped" "_law_escaped" .none .none .none "law_on0273_01" 1204 788,
  tu [],
  fl [],
  f0 (d 75) "_law_shown" "_law_shown",
  cq "_law_shown" 1272 "_law_shown" 465 2 0 0 3 790 true 181 791 .none .none .none (.ref 792) 1275 465,
  fu (d 75) "_law_shown" "_law_shown" .none .none .none "law_on0273_01" 1204 793,
  tu [],
  fl [],
  tu [.str "tree" 1281],
  tu [],
  f0 (d 76) "_law_told" "_law_told",
  co "_law_told" 1278 "_law_told" 479 1 0 0 3 795 true 181 796 .none (.ref 797) (.ref 798) (.ref 799) 479,
  fu (d 76) "_law_told" "_law_told" .none .none .none "law_on0273_01" 1204 800]
noncomputable def c17 (P:Params):List (Nat×Obj):=[(3,di [en P "__name__" 165 (.str "law_on0273_01" 1204),en P "__doc__" 166 .none,en P "__package__" 167 .none,en P "__loader__" 168 (.builtin "__main__.__loader__#opaque"),en P "__spec__" 169 .none,en P "__annotations__" 170 (.ref 6),en P "__builtins__" 171 (.ref 4),en P "__file__" 173 (.str "/claim/cut.py" 172),en P "__cached__" 174 .none,en P "_wall" 193 (.ref 21),en P "GRAIN" 197 (.int 1000000 196),en P "PostError" 226 (.ref 39),en P "PsError" 242 (.ref 52),en P "decimal_octets" 251 (.ref 61),en P "INTEGER" 255 (.str "integer" 254),en P "number_octets" 265 (.ref 68),en P "READ_ONLY" 269 (.int 2 268),en P "UNLIMITED" 271 (.int 3 270),en P "Thing" 306 (.ref 86),en P "Text" 341 (.ref 107),en P "Row" 376 (.ref 128),en P "DictBody" 427 (.ref 161),en P "Span" 460 (.ref 182),en P "integer" 467 (.ref 193),en P "real" 474 (.ref 200),en P "boolean" 481 (.ref 207),en P "name" 489 (.ref 215),en P "operator_thing" 496 (.ref 222),en P "mark" 502 (.ref 229),en P "null" 508 (.ref 236),en P "of_string" 517 (.ref 244),en P "of_row" 526 (.ref 252),en P "of_packed" 534 (.ref 260),en P "of_dict" 541 (.ref 267),en P "of_save" 548 (.ref 274),en P "font_id" 555 (.ref 281),en P "is_number" 562 (.ref 288),en P "is_in_array" 569 (.ref 295),en P "body_of" 576 (.ref 302),en P "is_local" 584 (.ref 309),en P "access_of" 591 (.ref 316),en P "can_read" 598 (.ref 323),en P "has_access" 605 (.ref 330),en P "with_access" 613 (.ref 337),en P "span_of" 620 (.ref 344),en P "check_part" 629 (.ref 351),en P "part_of" 638 (.ref 358),en P "with_span" 646 (.ref 365),en P "octets_of_span" 653 (.ref 372),en P "things_of_span" 660 (.ref 379),en P "PRINT_NOTHING" 664 (.bytes #[45,45,110,111,115,116,114,105,110,103,118,97,108,45,45] 663),en P "PRINT_DEPTH" 666 (.int 20 665),en P "PRINT_WORDS" 688 (.ref 380),en P "print_escape" 696 (.ref 387),en P "print_string" 702 (.ref 392),en P "print_truth" 709 (.ref 399),en P "print_plain" 716 (.ref 406),en P "print_row" 722 (.ref 411),en P "written" 730 (.ref 419),en P "ITEM_COST" 734 (.int 8 733),en P "ENTRY_COST" 736 (.int 16 735),en P "MOST_COST" 740 (.int 16777216 739),en P "Limits" 808 (.ref 437),en P "VmSave" 843 (.ref 458),en P "BodyMaker" 945 (.ref 536),en P "BodyChanger" 1054 (.ref 620),en P "Memory" 1184 (.ref 718),en P "memory_check_many" 1192 (.ref 727),en P "memory_put_back" 1203 (.ref 734),en P "_law_strings" 1211 (.ref 741),en P "_law_names" 1217 (.ref 748),en P "_law_deck" 1223 (.ref 753),en P "_law_draw" 1231 (.ref 760),en P "_law_string" 1243 (.ref 767),en P "_law_row" 1249 (.ref 772),en P "_law_thing" 1255 (.ref 777),en P "_law_real" 1261 (.ref 782),en P "_law_escaped" 1271 (.ref 789),en P "_law_shown" 1277 (.ref 794),en P "_law_told" 1284 (.ref 801)] 80),
  (12,ft [(1,20),(6,27),(10,48),(12,60),(24,67),(35,74),(42,96),(49,117),(56,138),(71,171),(77,192),(79,199),(81,206),(83,214),(85,221),(87,228),(89,235),(91,243),(93,251),(95,259),(97,266),(99,273),(101,280),(103,287),(105,294),(107,301),(111,308),(114,315),(116,322),(118,329),(120,336),(126,343),(130,350),(133,357),(136,364),(138,371),(140,378),(146,386),(153,391),(155,398),(157,405),(167,410),(174,418),(192,425),(209,447),(216,468),(272,546),(303,628),(368,726),(373,733),(391,740),(393,747),(395,752),(400,759),(405,766),(413,771),(423,776),(449,781),(455,788),(465,793),(479,800)])]
noncomputable def wT (P:Params):List Obj:=[tu [],
  fl [],
  f0 (d 77) "law" "law",
  cq "law" 1285 "law" 485 1 0 0 3 802 true 181 803 .none .none .none (.ref 804) 1288 485,
  fu (d 77) "law" "law" .none .none .none "law_on0273_01" 1204 805]
noncomputable def c18 (P:Params):List (Nat×Obj):=[(3,di [en P "__name__" 165 (.str "law_on0273_01" 1204),en P "__doc__" 166 .none,en P "__package__" 167 .none,en P "__loader__" 168 (.builtin "__main__.__loader__#opaque"),en P "__spec__" 169 .none,en P "__annotations__" 170 (.ref 6),en P "__builtins__" 171 (.ref 4),en P "__file__" 173 (.str "/claim/cut.py" 172),en P "__cached__" 174 .none,en P "_wall" 193 (.ref 21),en P "GRAIN" 197 (.int 1000000 196),en P "PostError" 226 (.ref 39),en P "PsError" 242 (.ref 52),en P "decimal_octets" 251 (.ref 61),en P "INTEGER" 255 (.str "integer" 254),en P "number_octets" 265 (.ref 68),en P "READ_ONLY" 269 (.int 2 268),en P "UNLIMITED" 271 (.int 3 270),en P "Thing" 306 (.ref 86),en P "Text" 341 (.ref 107),en P "Row" 376 (.ref 128),en P "DictBody" 427 (.ref 161),en P "Span" 460 (.ref 182),en P "integer" 467 (.ref 193),en P "real" 474 (.ref 200),en P "boolean" 481 (.ref 207),en P "name" 489 (.ref 215),en P "operator_thing" 496 (.ref 222),en P "mark" 502 (.ref 229),en P "null" 508 (.ref 236),en P "of_string" 517 (.ref 244),en P "of_row" 526 (.ref 252),en P "of_packed" 534 (.ref 260),en P "of_dict" 541 (.ref 267),en P "of_save" 548 (.ref 274),en P "font_id" 555 (.ref 281),en P "is_number" 562 (.ref 288),en P "is_in_array" 569 (.ref 295),en P "body_of" 576 (.ref 302),en P "is_local" 584 (.ref 309),en P "access_of" 591 (.ref 316),en P "can_read" 598 (.ref 323),en P "has_access" 605 (.ref 330),en P "with_access" 613 (.ref 337),en P "span_of" 620 (.ref 344),en P "check_part" 629 (.ref 351),en P "part_of" 638 (.ref 358),en P "with_span" 646 (.ref 365),en P "octets_of_span" 653 (.ref 372),en P "things_of_span" 660 (.ref 379),en P "PRINT_NOTHING" 664 (.bytes #[45,45,110,111,115,116,114,105,110,103,118,97,108,45,45] 663),en P "PRINT_DEPTH" 666 (.int 20 665),en P "PRINT_WORDS" 688 (.ref 380),en P "print_escape" 696 (.ref 387),en P "print_string" 702 (.ref 392),en P "print_truth" 709 (.ref 399),en P "print_plain" 716 (.ref 406),en P "print_row" 722 (.ref 411),en P "written" 730 (.ref 419),en P "ITEM_COST" 734 (.int 8 733),en P "ENTRY_COST" 736 (.int 16 735),en P "MOST_COST" 740 (.int 16777216 739),en P "Limits" 808 (.ref 437),en P "VmSave" 843 (.ref 458),en P "BodyMaker" 945 (.ref 536),en P "BodyChanger" 1054 (.ref 620),en P "Memory" 1184 (.ref 718),en P "memory_check_many" 1192 (.ref 727),en P "memory_put_back" 1203 (.ref 734),en P "_law_strings" 1211 (.ref 741),en P "_law_names" 1217 (.ref 748),en P "_law_deck" 1223 (.ref 753),en P "_law_draw" 1231 (.ref 760),en P "_law_string" 1243 (.ref 767),en P "_law_row" 1249 (.ref 772),en P "_law_thing" 1255 (.ref 777),en P "_law_real" 1261 (.ref 782),en P "_law_escaped" 1271 (.ref 789),en P "_law_shown" 1277 (.ref 794),en P "_law_told" 1284 (.ref 801),en P "law" 1290 (.ref 806)] 81),
  (12,ft [(1,20),(6,27),(10,48),(12,60),(24,67),(35,74),(42,96),(49,117),(56,138),(71,171),(77,192),(79,199),(81,206),(83,214),(85,221),(87,228),(89,235),(91,243),(93,251),(95,259),(97,266),(99,273),(101,280),(103,287),(105,294),(107,301),(111,308),(114,315),(116,322),(118,329),(120,336),(126,343),(130,350),(133,357),(136,364),(138,371),(140,378),(146,386),(153,391),(155,398),(157,405),(167,410),(174,418),(192,425),(209,447),(216,468),(272,546),(303,628),(368,726),(373,733),(391,740),(393,747),(395,752),(400,759),(405,766),(413,771),(423,776),(449,781),(455,788),(465,793),(479,800),(485,805)])]
noncomputable def bB:Env:={ scope:=pw_on0273_01.main.scope,locals:=mainNs,globals:=mainNs,cells:=[],code:=.ref 13,frame:=some 14 }
noncomputable def bd:List Stmt:=behindTheImports pw_on0273_01
noncomputable def cE:Code:=.body bd bB
noncomputable def B0:List Frame:=[topFrame ⟨0,0,0,0⟩]
noncomputable def th (l:List Stmt) (p:Pos):Thread:=⟨(Fast.tw12563942051412417395 l bB).wrap doneF deadEnd id id,cE,p,B0⟩
noncomputable def f6 (t:Params→BT) (n k:Nat) (w:World) (os:OsState):SharedT:=⟨t w.params,n,{},#[],{},k,os⟩
noncomputable abbrev S0:=f6 t0 15 187
noncomputable def t1 (P:Params):BT:=b0 (bV (t0 P) 15 (n1 P)) (c1 P)
noncomputable abbrev S1:=f6 t1 43 227
noncomputable def t2 (P:Params):BT:=b0 (bV (t1 P) 43 (n2 P)) (c2 P)
noncomputable abbrev S2:=f6 t2 69 272
noncomputable def t3 (P:Params):BT:=b0 (bV (t2 P) 69 (n3 P)) (c3 P)
noncomputable abbrev S3:=f6 t3 91 307
noncomputable def t4 (P:Params):BT:=b0 (bV (t3 P) 91 (n4 P)) (c4 P)
noncomputable abbrev S4:=f6 t4 112 342
noncomputable def t5 (P:Params):BT:=b0 (bV (t4 P) 112 (n5 P)) (c5 P)
noncomputable abbrev S5:=f6 t5 133 377
noncomputable def t6 (P:Params):BT:=b0 (bV (t5 P) 133 (n6 P)) (c6 P)
noncomputable abbrev S6:=f6 t6 166 428
noncomputable def t7 (P:Params):BT:=b0 (bV (t6 P) 166 (n7 P)) (c7 P)
noncomputable abbrev S7:=f6 t7 223 497
noncomputable def t8 (P:Params):BT:=b0 (bV (t7 P) 223 (n8 P)) (c8 P)
noncomputable abbrev S8:=f6 t8 317 592
noncomputable def t9 (P:Params):BT:=b0 (bV (t8 P) 317 (n9 P)) (c9 P)
noncomputable abbrev S9:=f6 t9 380 667
noncomputable def t10 (P:Params):BT:=b0 (bV (t9 P) 380 (n10 P)) (c10 P)
noncomputable abbrev S10:=f6 t10 381 689
noncomputable def t11 (P:Params):BT:=b0 (bV (t10 P) 381 (dm P)) (c11 P)
noncomputable abbrev S11:=f6 t11 420 741
noncomputable def t12 (P:Params):BT:=b0 (bV (t11 P) 420 (lx P)) (c12 P)
noncomputable abbrev S12:=f6 t12 442 809
noncomputable def t13 (P:Params):BT:=b0 (bV (t12 P) 442 (n13 P)) (c13 P)
noncomputable abbrev S13:=f6 t13 463 844
noncomputable def t14 (P:Params):BT:=b0 (bV (t13 P) 463 (bE P)) (c14 P)
noncomputable abbrev S14:=f6 t14 541 946
noncomputable def t15 (P:Params):BT:=b0 (bV (t14 P) 541 (bz P)) (c15 P)
noncomputable abbrev S15:=f6 t15 623 1055
noncomputable def t16 (P:Params):BT:=b0 (bV (t15 P) 623 (aY P)) (c16 P)
noncomputable abbrev S16:=f6 t16 721 1185
noncomputable def t17 (P:Params):BT:=b0 (bV (t16 P) 721 (bk P)) (c17 P)
noncomputable abbrev S17:=f6 t17 802 1285
noncomputable def jY (P:Params):BT:=b0 (bV (t17 P) 802 (wT P)) (c18 P)
noncomputable abbrev S18:=f6 jY 807 1291
theorem p1:(fun (W:World) (os:OsState)=>Fast.tw10110043849684766642 Fast.tw14364793385576792824 pw_on0273_01 W 11 (some (.ref 6)) 1 277 (S0 W os) (th ((bd.drop 0).take 4) ⟨0,0,0,0⟩))=fun W os=>some (Flow.next,S1 W os,cE,⟨6,0,9,24⟩):=by kernel_rfl
theorem q1 (W:World) (os:OsState):Fast.tw10110043849684766642 Fast.tw14364793385576792824 pw_on0273_01 W 11 (some (.ref 6)) 1 277 (S0 W os) (th ((bd.drop 0).take 4) ⟨0,0,0,0⟩)=some (Flow.next,S1 W os,cE,⟨6,0,9,24⟩):=congrFun (congrFun p1 W) os
theorem p2:(fun (W:World) (os:OsState)=>Fast.tw10110043849684766642 Fast.tw14364793385576792824 pw_on0273_01 W 11 (some (.ref 6)) 1 322 (S1 W os) (th ((bd.drop 4).take 8) ⟨6,0,9,24⟩))=fun W os=>some (Flow.next,S2 W os,cE,⟨34,0,34,9⟩):=by kernel_rfl
theorem q2 (W:World) (os:OsState):Fast.tw10110043849684766642 Fast.tw14364793385576792824 pw_on0273_01 W 11 (some (.ref 6)) 1 322 (S1 W os) (th ((bd.drop 4).take 8) ⟨6,0,9,24⟩)=some (Flow.next,S2 W os,cE,⟨34,0,34,9⟩):=congrFun (congrFun p2 W) os
theorem p3:(fun (W:World) (os:OsState)=>Fast.tw10110043849684766642 Fast.tw14364793385576792824 pw_on0273_01 W 11 (some (.ref 6)) 1 234 (S2 W os) (th ((bd.drop 12).take 1) ⟨34,0,34,9⟩))=fun W os=>some (Flow.next,S3 W os,cE,⟨35,0,41,28⟩):=by kernel_rfl
theorem q3 (W:World) (os:OsState):Fast.tw10110043849684766642 Fast.tw14364793385576792824 pw_on0273_01 W 11 (some (.ref 6)) 1 234 (S2 W os) (th ((bd.drop 12).take 1) ⟨34,0,34,9⟩)=some (Flow.next,S3 W os,cE,⟨35,0,41,28⟩):=congrFun (congrFun p3 W) os
theorem p4:(fun (W:World) (os:OsState)=>Fast.tw10110043849684766642 Fast.tw14364793385576792824 pw_on0273_01 W 11 (some (.ref 6)) 1 229 (S3 W os) (th ((bd.drop 13).take 1) ⟨35,0,41,28⟩))=fun W os=>some (Flow.next,S4 W os,cE,⟨42,0,48,26⟩):=by kernel_rfl
theorem q4 (W:World) (os:OsState):Fast.tw10110043849684766642 Fast.tw14364793385576792824 pw_on0273_01 W 11 (some (.ref 6)) 1 229 (S3 W os) (th ((bd.drop 13).take 1) ⟨35,0,41,28⟩)=some (Flow.next,S4 W os,cE,⟨42,0,48,26⟩):=congrFun (congrFun p4 W) os
theorem p5:(fun (W:World) (os:OsState)=>Fast.tw10110043849684766642 Fast.tw14364793385576792824 pw_on0273_01 W 11 (some (.ref 6)) 1 229 (S4 W os) (th ((bd.drop 14).take 1) ⟨42,0,48,26⟩))=fun W os=>some (Flow.next,S5 W os,cE,⟨49,0,55,26⟩):=by kernel_rfl
theorem q5 (W:World) (os:OsState):Fast.tw10110043849684766642 Fast.tw14364793385576792824 pw_on0273_01 W 11 (some (.ref 6)) 1 229 (S4 W os) (th ((bd.drop 14).take 1) ⟨42,0,48,26⟩)=some (Flow.next,S5 W os,cE,⟨49,0,55,26⟩):=congrFun (congrFun p5 W) os
theorem p6:(fun (W:World) (os:OsState)=>Fast.tw10110043849684766642 Fast.tw14364793385576792824 pw_on0273_01 W 11 (some (.ref 6)) 1 291 (S5 W os) (th ((bd.drop 15).take 1) ⟨49,0,55,26⟩))=fun W os=>some (Flow.next,S6 W os,cE,⟨56,0,70,58⟩):=by kernel_rfl
theorem q6 (W:World) (os:OsState):Fast.tw10110043849684766642 Fast.tw14364793385576792824 pw_on0273_01 W 11 (some (.ref 6)) 1 291 (S5 W os) (th ((bd.drop 15).take 1) ⟨49,0,55,26⟩)=some (Flow.next,S6 W os,cE,⟨56,0,70,58⟩):=congrFun (congrFun p6 W) os
theorem p7:(fun (W:World) (os:OsState)=>Fast.tw10110043849684766642 Fast.tw14364793385576792824 pw_on0273_01 W 11 (some (.ref 6)) 1 374 (S6 W os) (th ((bd.drop 16).take 6) ⟨56,0,70,58⟩))=fun W os=>some (Flow.next,S7 W os,cE,⟨85,0,86,42⟩):=by kernel_rfl
theorem q7 (W:World) (os:OsState):Fast.tw10110043849684766642 Fast.tw14364793385576792824 pw_on0273_01 W 11 (some (.ref 6)) 1 374 (S6 W os) (th ((bd.drop 16).take 6) ⟨56,0,70,58⟩)=some (Flow.next,S7 W os,cE,⟨85,0,86,42⟩):=congrFun (congrFun p7 W) os
theorem p8:(fun (W:World) (os:OsState)=>Fast.tw10110043849684766642 Fast.tw14364793385576792824 pw_on0273_01 W 11 (some (.ref 6)) 1 389 (S7 W os) (th ((bd.drop 22).take 13) ⟨85,0,86,42⟩))=fun W os=>some (Flow.next,S8 W os,cE,⟨114,0,115,71⟩):=by kernel_rfl
theorem q8 (W:World) (os:OsState):Fast.tw10110043849684766642 Fast.tw14364793385576792824 pw_on0273_01 W 11 (some (.ref 6)) 1 389 (S7 W os) (th ((bd.drop 22).take 13) ⟨85,0,86,42⟩)=some (Flow.next,S8 W os,cE,⟨114,0,115,71⟩):=congrFun (congrFun p8 W) os
theorem p9:(fun (W:World) (os:OsState)=>Fast.tw10110043849684766642 Fast.tw14364793385576792824 pw_on0273_01 W 11 (some (.ref 6)) 1 295 (S8 W os) (th ((bd.drop 35).take 12) ⟨114,0,115,71⟩))=fun W os=>some (Flow.next,S9 W os,cE,⟨144,0,144,11⟩):=by kernel_rfl
theorem q9 (W:World) (os:OsState):Fast.tw10110043849684766642 Fast.tw14364793385576792824 pw_on0273_01 W 11 (some (.ref 6)) 1 295 (S8 W os) (th ((bd.drop 35).take 12) ⟨114,0,115,71⟩)=some (Flow.next,S9 W os,cE,⟨144,0,144,11⟩):=congrFun (congrFun p9 W) os
theorem xP:(fun (W:World) (os:OsState)=>Fast.tw10110043849684766642 Fast.tw14364793385576792824 pw_on0273_01 (W.withFollow "special-get-raises" false) 11 (some (.ref 6)) 1 116 (S9 (W.withFollow "special-get-raises" false) os) (th ((bd.drop 47).take 1) ⟨144,0,144,11⟩))=fun W os=>some (Flow.next,S10 (W.withFollow "special-get-raises" false) os,cE,⟨145,0,145,11⟩):=by kernel_rfl
theorem xy:(fun (W:World) (os:OsState)=>Fast.tw10110043849684766642 Fast.tw14364793385576792824 pw_on0273_01 (W.withFollow "special-get-raises" true) 11 (some (.ref 6)) 1 116 (S9 (W.withFollow "special-get-raises" true) os) (th ((bd.drop 47).take 1) ⟨144,0,144,11⟩))=fun W os=>some (Flow.next,S10 (W.withFollow "special-get-raises" true) os,cE,⟨145,0,145,11⟩):=by kernel_rfl
theorem q10 (W:World):∀ (os:OsState),Fast.tw10110043849684766642 Fast.tw14364793385576792824 pw_on0273_01 W 11 (some (.ref 6)) 1 116 (S9 W os) (th ((bd.drop 47).take 1) ⟨144,0,144,11⟩)=some (Flow.next,S10 W os,cE,⟨145,0,145,11⟩):=byRow2 "special-get-raises" (P:=fun W=>∀ os,Fast.tw10110043849684766642 Fast.tw14364793385576792824 pw_on0273_01 W 11 (some (.ref 6)) 1 116 (S9 W os) (th ((bd.drop 47).take 1) ⟨144,0,144,11⟩)=some (Flow.next,S10 W os,cE,⟨145,0,145,11⟩)) (fun W os=>congrFun (congrFun xP W) os) (fun W os=>congrFun (congrFun xy W) os) W
theorem p11:(fun (W:World) (os:OsState)=>Fast.tw10110043849684766642 Fast.tw14364793385576792824 pw_on0273_01 W 11 (some (.ref 6)) 1 216 (S10 W os) (th ((bd.drop 48).take 10) ⟨145,0,145,11⟩))=fun W os=>some (Flow.next,S11 W os,cE,⟨191,0,191,9⟩):=by kernel_rfl
theorem q11 (W:World) (os:OsState):Fast.tw10110043849684766642 Fast.tw14364793385576792824 pw_on0273_01 W 11 (some (.ref 6)) 1 216 (S10 W os) (th ((bd.drop 48).take 10) ⟨145,0,145,11⟩)=some (Flow.next,S11 W os,cE,⟨191,0,191,9⟩):=congrFun (congrFun p11 W) os
theorem p12:(fun (W:World) (os:OsState)=>Fast.tw10110043849684766642 Fast.tw14364793385576792824 pw_on0273_01 W 11 (some (.ref 6)) 1 267 (S11 W os) (th ((bd.drop 58).take 1) ⟨191,0,191,9⟩))=fun W os=>some (Flow.next,S12 W os,cE,⟨192,0,208,20⟩):=by kernel_rfl
theorem q12 (W:World) (os:OsState):Fast.tw10110043849684766642 Fast.tw14364793385576792824 pw_on0273_01 W 11 (some (.ref 6)) 1 267 (S11 W os) (th ((bd.drop 58).take 1) ⟨191,0,191,9⟩)=some (Flow.next,S12 W os,cE,⟨192,0,208,20⟩):=congrFun (congrFun p12 W) os
theorem p13:(fun (W:World) (os:OsState)=>Fast.tw10110043849684766642 Fast.tw14364793385576792824 pw_on0273_01 W 11 (some (.ref 6)) 1 229 (S12 W os) (th ((bd.drop 59).take 1) ⟨192,0,208,20⟩))=fun W os=>some (Flow.next,S13 W os,cE,⟨209,0,215,24⟩):=by kernel_rfl
theorem q13 (W:World) (os:OsState):Fast.tw10110043849684766642 Fast.tw14364793385576792824 pw_on0273_01 W 11 (some (.ref 6)) 1 229 (S12 W os) (th ((bd.drop 59).take 1) ⟨192,0,208,20⟩)=some (Flow.next,S13 W os,cE,⟨209,0,215,24⟩):=congrFun (congrFun p13 W) os
theorem p14:(fun (W:World) (os:OsState)=>Fast.tw10110043849684766642 Fast.tw14364793385576792824 pw_on0273_01 W 11 (some (.ref 6)) 1 545 (S13 W os) (th ((bd.drop 60).take 1) ⟨209,0,215,24⟩))=fun W os=>some (Flow.next,S14 W os,cE,⟨216,0,271,99⟩):=by kernel_rfl
theorem q14 (W:World) (os:OsState):Fast.tw10110043849684766642 Fast.tw14364793385576792824 pw_on0273_01 W 11 (some (.ref 6)) 1 545 (S13 W os) (th ((bd.drop 60).take 1) ⟨209,0,215,24⟩)=some (Flow.next,S14 W os,cE,⟨216,0,271,99⟩):=congrFun (congrFun p14 W) os
theorem p15:(fun (W:World) (os:OsState)=>Fast.tw10110043849684766642 Fast.tw14364793385576792824 pw_on0273_01 W 11 (some (.ref 6)) 1 546 (S14 W os) (th ((bd.drop 61).take 1) ⟨216,0,271,99⟩))=fun W os=>some (Flow.next,S15 W os,cE,⟨272,0,302,17⟩):=by kernel_rfl
theorem q15 (W:World) (os:OsState):Fast.tw10110043849684766642 Fast.tw14364793385576792824 pw_on0273_01 W 11 (some (.ref 6)) 1 546 (S14 W os) (th ((bd.drop 61).take 1) ⟨216,0,271,99⟩)=some (Flow.next,S15 W os,cE,⟨272,0,302,17⟩):=congrFun (congrFun p15 W) os
theorem p16:(fun (W:World) (os:OsState)=>Fast.tw10110043849684766642 Fast.tw14364793385576792824 pw_on0273_01 W 11 (some (.ref 6)) 1 631 (S15 W os) (th ((bd.drop 62).take 1) ⟨272,0,302,17⟩))=fun W os=>some (Flow.next,S16 W os,cE,⟨303,0,367,17⟩):=by kernel_rfl
theorem q16 (W:World) (os:OsState):Fast.tw10110043849684766642 Fast.tw14364793385576792824 pw_on0273_01 W 11 (some (.ref 6)) 1 631 (S15 W os) (th ((bd.drop 62).take 1) ⟨272,0,302,17⟩)=some (Flow.next,S16 W os,cE,⟨303,0,367,17⟩):=congrFun (congrFun p16 W) os
theorem p17:(fun (W:World) (os:OsState)=>Fast.tw10110043849684766642 Fast.tw14364793385576792824 pw_on0273_01 W 11 (some (.ref 6)) 1 384 (S16 W os) (th ((bd.drop 63).take 14) ⟨303,0,367,17⟩))=fun W os=>some (Flow.next,S17 W os,cE,⟨479,0,484,29⟩):=by kernel_rfl
theorem q17 (W:World) (os:OsState):Fast.tw10110043849684766642 Fast.tw14364793385576792824 pw_on0273_01 W 11 (some (.ref 6)) 1 384 (S16 W os) (th ((bd.drop 63).take 14) ⟨303,0,367,17⟩)=some (Flow.next,S17 W os,cE,⟨479,0,484,29⟩):=congrFun (congrFun p17 W) os
theorem p18:(fun (W:World) (os:OsState)=>Fast.tw10110043849684766642 Fast.tw14364793385576792824 pw_on0273_01 W 11 (some (.ref 6)) 1 27 (S17 W os) (th ((bd.drop 77).take 1) ⟨479,0,484,29⟩))=fun W os=>some (Flow.next,S18 W os,cE,⟨485,0,494,50⟩):=by kernel_rfl
theorem q18 (W:World) (os:OsState):Fast.tw10110043849684766642 Fast.tw14364793385576792824 pw_on0273_01 W 11 (some (.ref 6)) 1 27 (S17 W os) (th ((bd.drop 77).take 1) ⟨479,0,484,29⟩)=some (Flow.next,S18 W os,cE,⟨485,0,494,50⟩):=congrFun (congrFun p18 W) os
end
end Mine.Y
namespace Mine.Y
section
open PySem.Challenge (pw_on0273_01 rw_on0273_01)
theorem uc {n:Nat} {W:World} {s s':SharedT} {l:List Stmt} {p p':Pos} (h:Fast.tw10110043849684766642 Fast.tw14364793385576792824 pw_on0273_01 W 11 (some (.ref 6)) 1 n s (th l p)=some (Flow.next,s',cE,p')) :
    segRun treeTable pw_on0273_01 W 11 (some (.ref 6)) 1 n s.abs (piecesOf l bB cE p [topFrame ⟨0,0,0,0⟩])=some (Flow.next,s'.abs,cE,p'):=by
  apply segRun_of
  rw [Fast.te10110043849684766642,Fast.te14364793385576792824]
  unfold piecesOf
  rw [Fast.te12563942051412417395]
  exact h
theorem aU {a n m N:Nat} {W:World} {s s':SharedT} {r:Shared} {p p':Pos} (h:Fast.tw10110043849684766642 Fast.tw14364793385576792824 pw_on0273_01 W 11 (some (.ref 6)) 1 m s (th ((bd.drop a).take n) p)=some (Flow.next,s',cE,p'))
    (k:topRun treeTable pw_on0273_01 W 11 (some (.ref 6)) N s'.abs (restOf (bd.drop (a+n)) bB cE p' [topFrame ⟨0,0,0,0⟩])=some r) :
    topRun treeTable pw_on0273_01 W 11 (some (.ref 6)) (m+N) s.abs (restOf (bd.drop a) bB cE p [topFrame ⟨0,0,0,0⟩])=some r:=by
  rw [← List.take_append_drop n (bd.drop a),List.drop_drop]
  exact piece_app (uc h) k
theorem xY:(fun (W:World) (os:OsState)=>Fast.tw14082659384304107361 Fast.tw14364793385576792824 pw_on0273_01 W 11 (some (.ref 6)) 2 (S18 W os).abs ⟨doneF .next,cE,⟨485,0,494,50⟩,B0⟩)=fun W os=>some (S18 W os).abs:=by kernel_rfl
theorem xf:bd.drop 78=[]:=by kernel_rfl
theorem r18 (W:World) (os:OsState):topRun treeTable pw_on0273_01 W 11 (some (.ref 6)) 2 (S18 W os).abs (restOf (bd.drop 78) bB cE ⟨485,0,494,50⟩ [topFrame ⟨0,0,0,0⟩])=some (S18 W os).abs:=by
  rw [xf]
  exact piece_nil (by rw [Fast.te14082659384304107361,Fast.te14364793385576792824]; exact congrFun (congrFun xY W) os)
theorem r17 (W:World) (os:OsState):topRun treeTable pw_on0273_01 W 11 (some (.ref 6)) 29 (S17 W os).abs (restOf (bd.drop 77) bB cE ⟨479,0,484,29⟩ [topFrame ⟨0,0,0,0⟩])=some (S18 W os).abs:=aU (m:=27) (N:=2) (q18 W os) (r18 W os)
theorem r16 (W:World) (os:OsState):topRun treeTable pw_on0273_01 W 11 (some (.ref 6)) 413 (S16 W os).abs (restOf (bd.drop 63) bB cE ⟨303,0,367,17⟩ [topFrame ⟨0,0,0,0⟩])=some (S18 W os).abs:=aU (m:=384) (N:=29) (q17 W os) (r17 W os)
theorem r15 (W:World) (os:OsState):topRun treeTable pw_on0273_01 W 11 (some (.ref 6)) 1044 (S15 W os).abs (restOf (bd.drop 62) bB cE ⟨272,0,302,17⟩ [topFrame ⟨0,0,0,0⟩])=some (S18 W os).abs:=aU (m:=631) (N:=413) (q16 W os) (r16 W os)
theorem r14 (W:World) (os:OsState):topRun treeTable pw_on0273_01 W 11 (some (.ref 6)) 1590 (S14 W os).abs (restOf (bd.drop 61) bB cE ⟨216,0,271,99⟩ [topFrame ⟨0,0,0,0⟩])=some (S18 W os).abs:=aU (m:=546) (N:=1044) (q15 W os) (r15 W os)
theorem r13 (W:World) (os:OsState):topRun treeTable pw_on0273_01 W 11 (some (.ref 6)) 2135 (S13 W os).abs (restOf (bd.drop 60) bB cE ⟨209,0,215,24⟩ [topFrame ⟨0,0,0,0⟩])=some (S18 W os).abs:=aU (m:=545) (N:=1590) (q14 W os) (r14 W os)
theorem r12 (W:World) (os:OsState):topRun treeTable pw_on0273_01 W 11 (some (.ref 6)) 2364 (S12 W os).abs (restOf (bd.drop 59) bB cE ⟨192,0,208,20⟩ [topFrame ⟨0,0,0,0⟩])=some (S18 W os).abs:=aU (m:=229) (N:=2135) (q13 W os) (r13 W os)
theorem r11 (W:World) (os:OsState):topRun treeTable pw_on0273_01 W 11 (some (.ref 6)) 2631 (S11 W os).abs (restOf (bd.drop 58) bB cE ⟨191,0,191,9⟩ [topFrame ⟨0,0,0,0⟩])=some (S18 W os).abs:=aU (m:=267) (N:=2364) (q12 W os) (r12 W os)
theorem r10 (W:World) (os:OsState):topRun treeTable pw_on0273_01 W 11 (some (.ref 6)) 2847 (S10 W os).abs (restOf (bd.drop 48) bB cE ⟨145,0,145,11⟩ [topFrame ⟨0,0,0,0⟩])=some (S18 W os).abs:=aU (m:=216) (N:=2631) (q11 W os) (r11 W os)
theorem r9 (W:World) (os:OsState):topRun treeTable pw_on0273_01 W 11 (some (.ref 6)) 2963 (S9 W os).abs (restOf (bd.drop 47) bB cE ⟨144,0,144,11⟩ [topFrame ⟨0,0,0,0⟩])=some (S18 W os).abs:=aU (m:=116) (N:=2847) (q10 W os) (r10 W os)
theorem r8 (W:World) (os:OsState):topRun treeTable pw_on0273_01 W 11 (some (.ref 6)) 3258 (S8 W os).abs (restOf (bd.drop 35) bB cE ⟨114,0,115,71⟩ [topFrame ⟨0,0,0,0⟩])=some (S18 W os).abs:=aU (m:=295) (N:=2963) (q9 W os) (r9 W os)
theorem r7 (W:World) (os:OsState):topRun treeTable pw_on0273_01 W 11 (some (.ref 6)) 3647 (S7 W os).abs (restOf (bd.drop 22) bB cE ⟨85,0,86,42⟩ [topFrame ⟨0,0,0,0⟩])=some (S18 W os).abs:=aU (m:=389) (N:=3258) (q8 W os) (r8 W os)
theorem r6 (W:World) (os:OsState):topRun treeTable pw_on0273_01 W 11 (some (.ref 6)) 4021 (S6 W os).abs (restOf (bd.drop 16) bB cE ⟨56,0,70,58⟩ [topFrame ⟨0,0,0,0⟩])=some (S18 W os).abs:=aU (m:=374) (N:=3647) (q7 W os) (r7 W os)
theorem r5 (W:World) (os:OsState):topRun treeTable pw_on0273_01 W 11 (some (.ref 6)) 4312 (S5 W os).abs (restOf (bd.drop 15) bB cE ⟨49,0,55,26⟩ [topFrame ⟨0,0,0,0⟩])=some (S18 W os).abs:=aU (m:=291) (N:=4021) (q6 W os) (r6 W os)
theorem r4 (W:World) (os:OsState):topRun treeTable pw_on0273_01 W 11 (some (.ref 6)) 4541 (S4 W os).abs (restOf (bd.drop 14) bB cE ⟨42,0,48,26⟩ [topFrame ⟨0,0,0,0⟩])=some (S18 W os).abs:=aU (m:=229) (N:=4312) (q5 W os) (r5 W os)
theorem r3 (W:World) (os:OsState):topRun treeTable pw_on0273_01 W 11 (some (.ref 6)) 4770 (S3 W os).abs (restOf (bd.drop 13) bB cE ⟨35,0,41,28⟩ [topFrame ⟨0,0,0,0⟩])=some (S18 W os).abs:=aU (m:=229) (N:=4541) (q4 W os) (r4 W os)
theorem r2 (W:World) (os:OsState):topRun treeTable pw_on0273_01 W 11 (some (.ref 6)) 5004 (S2 W os).abs (restOf (bd.drop 12) bB cE ⟨34,0,34,9⟩ [topFrame ⟨0,0,0,0⟩])=some (S18 W os).abs:=aU (m:=234) (N:=4770) (q3 W os) (r3 W os)
theorem r1 (W:World) (os:OsState):topRun treeTable pw_on0273_01 W 11 (some (.ref 6)) 5326 (S1 W os).abs (restOf (bd.drop 4) bB cE ⟨6,0,9,24⟩ [topFrame ⟨0,0,0,0⟩])=some (S18 W os).abs:=aU (m:=322) (N:=5004) (q2 W os) (r2 W os)
theorem r0 (W:World) (os:OsState):topRun treeTable pw_on0273_01 W 11 (some (.ref 6)) 5603 (S0 W os).abs (restOf (bd.drop 0) bB cE ⟨0,0,0,0⟩ [topFrame ⟨0,0,0,0⟩])=some (S18 W os).abs:=aU (m:=277) (N:=5326) (q1 W os) (r1 W os)
theorem xQ:(fun (W:World) (os:OsState)=>Fast.tw14374325043358763698 Fast.tw14364793385576792824 pw_on0273_01 W 11 (some (.ref 6)) 1 1 ⟨Ha W.params,#[],{},187,os⟩ ⟨(Fast.tw1066825118222455980 bd bB).wrap (fun _=>doneF .next) deadEnd id id,cE,⟨0,0,0,0⟩,B0⟩)=fun W os=>some (Flow.next,(S0 W os).abs,cE,⟨0,0,0,0⟩):=by kernel_rfl
theorem x9:(fun (W:World) (os:OsState)=>Fast.tw15667345088766844465 Fast.tw14364793385576792824 pw_on0273_01 W 11 (some (.ref 6)) 12 ⟨boot_heap W.params,#[],boot_drawn,boot_toks,os⟩ (topStub pw_on0273_01))=fun W os=>some (⟨Ha W.params,#[],{},187,os⟩,⟨Fast.tw11892475500146522536 Fast.tw14364793385576792824 cE,cE,⟨0,0,0,0⟩,B0⟩):=by kernel_rfl
theorem xk (W:World) (os:OsState):topRun treeTable pw_on0273_01 W 11 (some (.ref 6)) 5616 ⟨boot_heap W.params,#[],boot_drawn,boot_toks,os⟩ (topStub pw_on0273_01)=some (S18 W os).abs:=by
  have hb:segRun treeTable pw_on0273_01 W 11 (some (.ref 6)) 1 1 ⟨Ha W.params,#[],{},187,os⟩ (blockOf bd bB cE ⟨0,0,0,0⟩ [topFrame ⟨0,0,0,0⟩])=some (Flow.next,(S0 W os).abs,cE,⟨0,0,0,0⟩):=by
    unfold blockOf
    rw [Fast.te14374325043358763698,Fast.te14364793385576792824,Fast.te1066825118222455980]
    exact congrFun (congrFun xQ W) os
  have ha:topGo treeTable pw_on0273_01 W 11 (some (.ref 6)) 12 ⟨boot_heap W.params,#[],boot_drawn,boot_toks,os⟩ (topStub pw_on0273_01)=some (⟨Ha W.params,#[],{},187,os⟩,⟨denote treeTable cE,cE,⟨0,0,0,0⟩,[topFrame ⟨0,0,0,0⟩]⟩):=by
    rw [Fast.te15667345088766844465,Fast.te11892475500146522536,Fast.te14364793385576792824]
    exact congrFun (congrFun x9 W) os
  exact go_top (n:=12) (N:=5604) ha (piece_block (n:=1) (N:=5603) hb (r0 W os))
theorem wx:∀ w:World,(fencedOpening treeTable pw_on0273_01 w 12000).map (fun s=>(s.heap,s.gens,s.drawn,s.toks))=some (boot_heap w.params,Array.mk [],boot_drawn,boot_toks):=
  boot_open (by kernel_rfl) (by kernel_rfl) (fun s=>by kernel_rfl)
theorem sE:(fun w:World=>((boot_heap w.params).isNs mainGlobals&&(Array.mk []:Array GenState).size==0,(boot_heap w.params).objs.size,Fast.tw8920871248978507458 (boot_heap w.params) mainGlobals "__annotations__"))=fun _=>(true,11,some (.ref 6)):=by kernel_rfl
theorem ut (w:World):((boot_heap w.params).isNs mainGlobals&&(Array.mk []:Array GenState).size==0,(boot_heap w.params).objs.size,(boot_heap w.params).nsMap mainGlobals "__annotations__")=(true,11,some (.ref 6)):=by
  rw [Fast.te8920871248978507458]
  exact congrFun sE w
end
end Mine.Y
namespace Mine.Y
section
open PySem.Challenge (pw_on0273_01 rw_on0273_01)
noncomputable def qv:Program:={ pw_on0273_01 with main:={ pw_on0273_01.main with body:=[d 77] } }
noncomputable def lo:List Str:=[.ofString "_wall",.ofString "GRAIN",.ofString "PostError",.ofString "PsError",.ofString "decimal_octets",.ofString "INTEGER",.ofString "number_octets",.ofString "READ_ONLY",.ofString "UNLIMITED",.ofString "Thing",.ofString "Text",.ofString "Row",.ofString "DictBody",.ofString "Span",.ofString "integer",.ofString "real",.ofString "boolean",.ofString "name",.ofString "operator_thing",.ofString "mark",.ofString "null",.ofString "of_string",.ofString "of_row",.ofString "of_packed",.ofString "of_dict",.ofString "of_save",.ofString "font_id",.ofString "is_number",.ofString "is_in_array",.ofString "body_of",.ofString "is_local",.ofString "access_of",.ofString "can_read",.ofString "has_access",.ofString "with_access",.ofString "span_of",.ofString "check_part",.ofString "part_of",.ofString "with_span",.ofString "octets_of_span",.ofString "things_of_span",.ofString "PRINT_NOTHING",.ofString "PRINT_DEPTH",.ofString "PRINT_WORDS",.ofString "print_escape",.ofString "print_string",.ofString "print_truth",.ofString "print_plain",.ofString "print_row",.ofString "written",.ofString "ITEM_COST",.ofString "ENTRY_COST",.ofString "MOST_COST",.ofString "Limits",.ofString "VmSave",.ofString "BodyMaker",.ofString "BodyChanger",.ofString "Memory",.ofString "memory_check_many",.ofString "memory_put_back",.ofString "_law_strings",.ofString "_law_names",.ofString "_law_deck",.ofString "_law_draw",.ofString "_law_string",.ofString "_law_row",.ofString "_law_thing",.ofString "_law_real",.ofString "_law_escaped",.ofString "_law_shown",.ofString "_law_told"]
noncomputable def s8 (s:Shared):Bool:=xlAt qv [] s&&recOk (RowW.records rw_on0273_01.row.toRowW) s
noncomputable abbrev sF (W:World) (os:OsState):Shared:=(S18 W os).abs
noncomputable def cx (W:World) (os:OsState):=Fast.tw4187177175401517315 qv lo (importedModules pw_on0273_01.main.body) s8 true (sF W os)
theorem wC:(fun (W:World) (os:OsState)=>(staticsOk (importedModules pw_on0273_01.main.body) (boot_heap W.params) (absHeap (jY W.params) 807 {})&&namesBound pw_on0273_01 (absHeap (jY W.params) 807 {})&&gensDone (sF W os)&&laidKept (boot_heap W.params) (absHeap (jY W.params) 807 {})))=fun _ _=>true:=by kernel_rfl
theorem vP:(fun (W:World) (os:OsState)=>(cx W os).1)=fun _ _=>(openGood qv lo).1:=by kernel_rfl
theorem u8:(fun (W:World) (os:OsState)=>(cx W os).2.1)=fun _ _=>(openGood qv lo).2.1:=by kernel_rfl
theorem tJ:(fun (W:World) (os:OsState)=>(cx W os).2.2.1)=fun _ _=>(openGood qv lo).2.2.1:=by kernel_rfl
theorem tV:(fun (W:World) (os:OsState)=>(cx W os).2.2.2.1)=fun _ _=>(openGood qv lo).2.2.2.1:=by kernel_rfl
theorem uP:(fun (W:World) (os:OsState)=>(cx W os).2.2.2.2.1)=fun _ _=>(openGood qv lo).2.2.2.2.1:=by kernel_rfl
theorem tT:(fun (W:World) (os:OsState)=>(cx W os).2.2.2.2.2.1)=fun _ _=>(openGood qv lo).2.2.2.2.2.1:=by kernel_rfl
theorem vy:(fun (W:World) (os:OsState)=>(cx W os).2.2.2.2.2.2.1)=fun _ _=>(openGood qv lo).2.2.2.2.2.2.1:=by kernel_rfl
theorem wm:(fun (W:World) (os:OsState)=>(cx W os).2.2.2.2.2.2.2.1)=fun _ _=>(openGood qv lo).2.2.2.2.2.2.2.1:=by kernel_rfl
theorem tG:(fun (W:World) (os:OsState)=>(cx W os).2.2.2.2.2.2.2.2)=fun _ _=>(openGood qv lo).2.2.2.2.2.2.2.2:=by kernel_rfl
end
end Mine.Y
namespace Mine
theorem fC {α:Type _} {p:α→Prop} {a:α} {l:List α} (h:p a∧∀ x∈l,p x):∀ x∈a::l,p x:=List.forall_mem_cons.mpr h
theorem bA {a b:Bool}:(a&&b)=true↔a=true∧b=true:=Bool.and_eq_true_iff
theorem qZ {α β:Type} {P1 P2:α→β→Prop} {G:Prop} (x:∃ a b,P1 a b∧P2 a b) (k:∀ a b,P1 a b→P2 a b→G):G:=x.elim fun a x=>x.elim fun b x=>k a b x.1 x.2
theorem tB {α β γ δ:Type} {P1 P2 P3 P4:α→β→γ→δ→Prop} {G:Prop} (x:∃ a b c d,P1 a b c d∧P2 a b c d∧P3 a b c d∧P4 a b c d) (k:∀ a b c d,P1 a b c d→P2 a b c d→P3 a b c d→P4 a b c d→G):G:=x.elim fun a x=>x.elim fun b x=>x.elim fun c x=>x.elim fun d x=>k a b c d x.1 x.2.1 x.2.2.1 x.2.2.2
theorem qK {α:Type} {P1 P2 P3:α→Prop} {G:Prop} (x:∃ a,P1 a∧P2 a∧P3 a) (k:∀ a,P1 a→P2 a→P3 a→G):G:=x.elim fun a x=>k a x.1 x.2.1 x.2.2
theorem tf {α:Type} {P1 P2 P3 P4 P5 P6:α→Prop} {G:Prop} (x:∃ a,P1 a∧P2 a∧P3 a∧P4 a∧P5 a∧P6 a) (k:∀ a,P1 a→P2 a→P3 a→P4 a→P5 a→P6 a→G):G:=x.elim fun a x=>k a x.1 x.2.1 x.2.2.1 x.2.2.2.1 x.2.2.2.2.1 x.2.2.2.2.2
theorem uk {α β γ δ ε ζ η:Type} {P1 P2 P3 P4 P5:α→β→γ→δ→ε→ζ→η→Prop} {G:Prop} (x:∃ a b c d e f g,P1 a b c d e f g∧P2 a b c d e f g∧P3 a b c d e f g∧P4 a b c d e f g∧P5 a b c d e f g) (k:∀ a b c d e f g,P1 a b c d e f g→P2 a b c d e f g→P3 a b c d e f g→P4 a b c d e f g→P5 a b c d e f g→G):G:=x.elim fun a x=>x.elim fun b x=>x.elim fun c x=>x.elim fun d x=>x.elim fun e x=>x.elim fun f x=>x.elim fun g x=>k a b c d e f g x.1 x.2.1 x.2.2.1 x.2.2.2.1 x.2.2.2.2
noncomputable def ch:List String:=["bytearray.__contains__","bytearray.__mod__","bytearray.__rmod__","_struct.pack_into.held","bytearray.find.held"]++Builtin.Bytes.decodersThatHold
noncomputable def qX:Code→Prop
  | .builtin id _=>ch.contains id=false
  | _=>True
structure j7 (Γ:Ctx):Prop where
  here:qX Γ.code
  below:∀ x∈Γ.below,qX x.1
noncomputable def aw {α:Type} (M:Model) (A:Around) (t:Sem α) (Q:α→Shared→Prop) (E:Value→Shared→Prop) (s:Shared):Prop:=
  ∀ Γ p,Γ.In A→j7 Γ→Sem.wp M Γ t (fun a _ s'=>Q a s') (fun e _ s'=>E e s') p s
noncomputable def aP (M:Model) (A:Around) (c:Code) (R:Result→Shared→Prop) (s:Shared):Prop:=
  ∀ Γ p,Γ.code=c→Γ.Below A→j7 Γ→wpCode M Γ R p s
section
variable {α β:Type} {M:Model} {A:Around} {E:Value→Shared→Prop} {s:Shared}
theorem aD {t:Sem α} {Q:α→Shared→Prop} (h:wpAny M A t Q E s):aw M A t Q E s:=fun Γ p hΓ _=>h Γ p hΓ
theorem wpC_pure {a:α} {Q:α→Shared→Prop} (h:Q a s):aw M A (pure a) Q E s:=fun _ _ _ _=>h
theorem aJ {t:Sem α} {Q Q':α→Shared→Prop} {E':Value→Shared→Prop} (h:aw M A t Q E s) (hQ:∀ a s,Q a s→Q' a s) (hE:∀ e s,E e s→E' e s):aw M A t Q' E' s:=
  fun Γ p hΓ hc=>Sem.wp_mono M Γ t (fun a _ s=>hQ a s) (fun e _ s=>hE e s) p s (h Γ p hΓ hc)
theorem au {m:Sem α} {f:α→Sem β} {Q:β→Shared→Prop} (h:aw M A m (fun a s'=>aw M A (f a) Q E s') E s):aw M A (m>>=f) Q E s:=fun Γ p hΓ hc=>by
  rw [Sem.wp_bind']
  exact Sem.wp_mono M Γ m (fun a p' s' h'=>h' Γ p' hΓ hc) (fun _ _ _ h'=>h') p s (h Γ p hΓ hc)
theorem ab {m:Sem α} {f:α→Sem β} {Q:β→Shared→Prop} (h:wpAny M A m (fun a s'=>aw M A (f a) Q E s') E s):aw M A (m>>=f) Q E s:=au (aD h)
theorem aL {vs:List Value} {m:Sem α} {Q:α→Shared→Prop} (h:aw M A m Q E s):aw M A (holding vs m) Q E s:=fun Γ p hΓ hc=>by rw [Sem.wp_holding]; exact h Γ p hΓ hc
theorem gy {vs:List Value} {m:Sem α} {Q:α→Shared→Prop} (h:aw M A m Q E s):aw M A (m.keep vs) Q E s:=fun Γ p hΓ hc=>by rw [Sem.wp_keep]; exact h Γ p hΓ hc
theorem ck {m:Sem α} {k:Value→Sem Unit} {Q:α→Shared→Prop} (h:aw M A m Q (fun _ _=>False) s):aw M A (m.onRaise k) Q E s:=fun Γ p hΓ hc=>by
  rw [Sem.wp_onRaise]
  exact Sem.wp_mono M Γ m (fun _ _ _ h'=>h') (fun _ _ _ h'=>h'.elim) p s (h Γ p hΓ hc)
theorem bq {A':Around} {t:Sem α} {Q:α→Shared→Prop} (h:aw M A' t Q E s) (hh:A.handled=A'.handled) (hd:A.depth≤A'.depth) (hf:A'.frames=none) (hg:A'.guards=none) (hu:A.units≤A'.units):aw M A t Q E s:=by
  intro Γ p hΓ hc
  refine h Γ p ⟨hΓ.1.trans hh,Nat.le_trans hΓ.2.1 hd,?_,?_,Nat.le_trans hΓ.2.2.2.2 hu⟩ hc
  · intro l e; rw [hf] at e; cases e
  · intro l e; rw [hg] at e; cases e
theorem eE {c:Code} {R R':Result→Shared→Prop} (h:aP M A c R s) (hR:∀ r s,R r s→R' r s):aP M A c R' s:=fun Γ p hc hΓ hk=>wpCode_mono hR (h Γ p hc hΓ hk)
theorem aR {c:Code} {R:Result→Shared→Prop}
    (h:aw M (A.under c) (M.den c) (fun fin s'=>match fin with | .done f=>R (.ok f) s' | .again c'=>c'.quiet=true∧qX c'∧aP M A c' R s') (fun e s'=>R (.error e) s') s):aP M A c R s:=fun Γ p hc hΓ hk=>by
  rw [wpCode_iff_wp,hc]
  refine Sem.wp_mono M Γ _ (fun fin p' s' h'=>?_) (fun _ _ _ h'=>h') p s (h Γ p (hc▸hΓ.in) hk)
  cases fin with
  | done f=>exact h'
  | again c'=>exact ⟨h'.1,h'.2.2 (Γ.goto c') p' rfl (hΓ.goto c') ⟨h'.2.1,hk.below⟩⟩
theorem bi {f:Value} {pos:List Value} {kw:List (Str×Value)} {Q:Value→Shared→Prop}
    (hc:aP M A (.call f ⟨pos,kw⟩) (fun r s'=>match r with | .ok (.ret v)=>Q v s' | .ok _=>False | .error e=>E e s') s):aw M A (call f pos kw) Q E s:=fun Γ p hΓ hk=>by
  have:=hc (Γ.enter (.call f ⟨pos,kw⟩) none p) p rfl (hΓ.enter _ none p (by intro x; cases x)) ⟨trivial,fun x hx=>by
    rcases List.mem_cons.mp hx with rfl | hx
    · exact hk.here
    · exact hk.below x hx⟩
  show Sem.wp M Γ (runValue _) _ _ p s
  rw [Sem.wp_runValue]
  exact this
end
section
variable {prog:Program} {w:World} {A:Around} {E:Value→Shared→Prop} {s:Shared}
theorem cQ {R:Result→Shared→Prop} {body:List Stmt} {env:Env} (h:aw (model prog w) (A.deeper env) (execs body env) (fun f s'=>R (.ok (.ret (match f with | .ret v=>v | _=>.none))) s') (fun _ _=>False) s) :
    aP (model prog w) A (.func body env) R s:=by
  refine aR ?_
  show aw _ (A.deeper env) (do point; match ← (execs body env).onRaise (leaving env) with | .ret v=>ret v | _=>ret .none) _ _ s
  refine ab (wpAny_point (au (ck (aJ h (fun f s' h'=>?_) fun _ _ h'=>h'))))
  cases f <;> exact wpC_pure h'
theorem bI {R:Result→Shared→Prop} {a:Addr} {args:Args} {o:Obj} {fd:FuncData} {body:List Stmt} (hroom:A.depth<recursionLimit)
    (ho:s.heap.get? a=some o) (hd':o.data=.func fd) (hco:fd.scope.isCoroutine=false) (hgen:fd.scope.isGenerator=false) (hbody:fd.body=.stmts body) (hcd:s.heap.CodeRec fd.code fd.qualname)
    (h:wpAny (model prog w) A.in1 (bindArgs fd args) (fun binds s₁=>
      wpAny (model prog w) A.in1 (newFunctionEnv fd.scope fd.globals fd.closure binds (fd.qualname ++ ".<locals>.") (some a) fd.code none fd.builtins)
        (fun env s₂=>s₂.heap.NoLimit∧aP (model prog w) A (.func body env) R s₂) (fun e s'=>R (.error e) s') s₁) (fun e s'=>R (.error e) s') s) :
    aP (model prog w) A (.call (.ref a) args) R s:=by
  refine aR ?_
  show aw _ A.in1 (callAny (.ref a) args) _ _ s
  simp only [callAny]
  refine ab (wpAny_load ho ?_)
  obtain ⟨c,oc,vs,tq,hc,hoc,hdc,hq⟩:=hcd
  simp only [hd',callFunction,hco,hgen,hbody,hc]
  rw [hc] at h
  refine ab (m:=field (.ref c) 1) (wpAny_field hoc hdc hq (ab (wpAny_pure ?_)))
  exact ab (wpAny_mono h (fun binds s₁ h₁=>ab (wpAny_mono h₁ (fun env s₂ h₂=>ab (wpAny_enterFrame h₂.1 hroom
    (wpC_pure ⟨rfl,trivial,h₂.2⟩))) fun _ _ h'=>h')) fun _ _ h'=>h')
theorem d5 {self:Value} {Q:Bool→Shared→Prop} (h:Q false s):aw (model prog w) A (Builtin.Bytes.exported self) Q E s:=fun Γ p _ hk=>by
  show Q (((Γ.code,p)::Γ.below).any _) s
  have all:∀ x∈(Γ.code,p)::Γ.below,qX x.1:=fun x hx=>by
    rcases List.mem_cons.mp hx with rfl | hx
    · exact hk.here
    · exact hk.below x hx
  have q:∀ (f:Code×Pos→Bool),(∀ x,qX x.1→f x=false)→((Γ.code,p)::Γ.below).any f=false:=fun f hf=>List.any_eq_false.mpr fun x hx=>by rw [hf x (all x hx)]; exact Bool.false_ne_true
  rw [q _ ?_]
  · exact h
  · rintro ⟨c,pos⟩ ok
    cases c with
    | builtin id args=>
      have ok':ch.contains id=false:=ok
      have hd:Builtin.Bytes.decodersThatHold.contains id=false:=by
        unfold ch at ok'
        simp only [List.contains_eq_mem,List.mem_append,decide_eq_false_iff_not,not_or] at ok' ⊢
        exact ok'.2
      have hn:∀ z,ch.contains z=true→¬ id=z:=by
        rintro z hz rfl
        rw [hz] at ok'
        cases ok'
      have n1:=hn "bytearray.__contains__" (by decide +kernel)
      have n2:=hn "bytearray.__mod__" (by decide +kernel)
      have n3:=hn "bytearray.__rmod__" (by decide +kernel)
      have n4:=hn "_struct.pack_into.held" (by decide +kernel)
      have n5:=hn "bytearray.find.held" (by decide +kernel)
      obtain ⟨l,kw⟩:=args
      delta Builtin.Bytes.exported.match_1
      refine (dif_neg n1).trans ((dif_neg n2).trans ((dif_neg n3).trans ((dif_neg n4).trans ((dif_neg n5).trans ?_))))
      cases l with
      | nil=>rfl
      | cons v l=>
        show (Builtin.Bytes.sameRef v self&&Builtin.Bytes.decodersThatHold.contains id)=false
        rw [hd,Bool.and_false]
    | _=>rfl
end
section
theorem mZ {M:Model} {A:Around} {Γ:Ctx} {t:Sem Fin} {R:Result→Shared→Prop} {s:Shared} (hin:Γ.In A) (hk:j7 Γ)
    (h:aw M A t (fun fin s'=>∃ f,fin=.done f∧R (.ok f) s') (fun e s'=>R (.error e) s') s) (p:Pos) :
    Sem.wp M Γ t (Sem.finPost M Γ R) (fun e _ s'=>R (.error e) s') p s:=by
  refine Sem.wp_mono M Γ t (fun fin p' s' h'=>?_) (fun _ _ _ h'=>h') p s (h Γ p hin hk)
  obtain ⟨f,rfl,hf⟩:=h'
  exact hf
theorem fK:j7 (⟨.builtin "claim.caller" {},none,none,[],none⟩:Ctx):=⟨by show ch.contains "claim.caller"=false; decide +kernel,fun _ h=>nomatch h⟩
theorem gf {prog:Program} {w:World} {t:Sem Fin} {s:Shared} {R:Result→Shared→Prop} (hreg:s.asleep)
    (h:aw (model prog w) callerA t (fun fin s'=>∃ f,fin=.done f∧(R (.ok f) s'∧leftWithCleanup s'.gens=false)) (fun e s'=>R (.error e) s'∧leftWithCleanup s'.gens=false) s) :
    ∃ n r s' s'',runN (denote table) prog w n s ⟨t,.builtin "claim.caller" {},default,[]⟩=.halted (outcomeOf r) s'∧
      schedN (denote table) prog w n (.single s ⟨t,.builtin "claim.caller" {},default,[]⟩)=.halted (outcomeOf r) s'∧s'.forget=s''.forget∧R r s'':=by
  obtain ⟨n,r,s₁,s₂,hs,hn,hfo,hR⟩:=wp_halts_full (M:=model prog w) (R:=R) hreg (mZ (R:=fun r s'=>R r s'∧leftWithCleanup s'.gens=false) caller_in fK h default)
  exact ⟨n,r,s₂,s₁,hn,hs,hfo,hR⟩
theorem lj {c:ClaimW} {tree:List Value→Sem Fin} {w:World} {s:Shared} {free:Addr→Prop} {gens:Prop} {kept:Heap→Prop} (hz:s.asleep) (hgens:s.gens=#[])
    (hspec:∀ args,c.pre args=true→WData.layableAll args=true→
      ∀ ord:List DictEntry→List DictEntry,(∀ l,(ord l).Perm l)→
      ∃ vs s₁,layAllW c.records (classAt s.heap) w.params ord args s=some (vs,s₁)∧
        aw (model c.prog w) callerA (tree vs) (fun fin s'=>∃ f,fin=.done f∧(c.Ends s args vs s₁ (.ok f) s'∧s'.os=s.os∧AllBare s'.gens∧kept s'.heap))
          (fun e s'=>c.Ends s args vs s₁ (.error e) s'∧s'.os=s.os∧AllBare s'.gens∧kept s'.heap) s₁) :
    c.CallFrom (fun vs=>⟨tree vs,.builtin "claim.caller" {},default,[]⟩) w free gens kept s:=by
  intro args hpre hlay ord hord
  refine qZ (hspec args hpre hlay ord hord) fun vs s₁ hlaid hcode=>?_
  have hal:=layAllW_rest _ _ _ hlaid
  refine tB (gf (prog:=c.prog) (w:=w) (t:=tree vs) (s:=s₁)
    (R:=fun r s'=>c.Ends s args vs s₁ r s'∧s'.os=s.os∧kept s'.heap)
    (Shared.asleep_of_life hal.2.2.2 hz)
    (aJ hcode (fun fin s' h=>h.elim fun f h=>⟨f,h.1,⟨h.2.1,h.2.2.1,h.2.2.2.2⟩,leftWithCleanup_false_of_bare h.2.2.2.1⟩) (fun e s' h=>⟨⟨h.1,h.2.1,h.2.2.2⟩,leftWithCleanup_false_of_bare h.2.2.1⟩))) fun k r s' s'' hrun hsched hfo hR=>?_
  have eh:=Shared.forget_eq hfo
  have hk:kept s'.heap:=by rw [eh.1]; exact hR.2.2
  refine ⟨vs,s₁,hlaid,k,_,s',hsched,?_,(fun _ i x hx=>by rw [hgens] at hx; simp at hx),hk,congrArg (fun l=>l.seen) ((runN_life _ _ _ hrun).trans hal.2.2.2),Shared.rest_eq (eh.2.2.2.1.trans hR.2.1)⟩
  refine (hR.1.congr eh.1).elim (fun h=>?_) fun h=>?_
  · exact h.elim fun v h=>.inl ⟨v,by rw [h.1]; rfl,h.2.1,h.2.2.1,h.2.2.2.1,fun b o y _=>h.2.2.2.2.1 b o y,h.2.2.2.2.2⟩
  · exact h.elim fun e h=>h.elim fun ob h=>h.elim fun cls h=>.inr ⟨e,ob,cls,by rw [h.1]; rfl,h.2.1,h.2.2.1,h.2.2.2.1,h.2.2.2.2.1,fun b o y _=>h.2.2.2.2.2 b o y⟩
end
noncomputable abbrev rg (q:Program) (loose:List Str) (XP:(Str→Option Value)→Heap→Prop) (YP:World→Heap→Prop) (r:RowW) (d:DefRec) (kwd:List (Str×Expr)):Prop:=
  ∀ (w:World) (s₀ s₁:Shared) (mg mb:Str→Option Value),Ground q loose r.records XP w s₀ mg mb s₁.heap→YP w s₁.heap→∀ (a:Addr) (o:Obj) (pm cd doc dV kV:Value),s₁.heap.get? a=some o→
    o.data=.func { docDef d.name d.params d.body d.scope pm cd doc with defaults:=dV,kwdefaults:=kV }→s₁.heap.CodeRec cd d.name→Dflts mg s₁.heap d.params kwd dV kV→mg d.name=some (.ref a)→s₁.gens=#[]→
    ∀ (args:List WData) (vals:List Value) (as:List Addr),r.claim.pre args=true→WData.layableAll args=true→ReadsAllW r.records (classAt s₀.heap) s₁.heap vals args as→WellAll w.params s₁.heap vals args→(∀ a∈as,(a==sysModules)=false)→
      aw (model r.prog w) callerA (PySem.call (.ref a) vals) (fun v s'=>GoodWG r.claim (classAt s₀.heap) (ExcName.means s₀.heap) args s₁ (.ok (.ret v)) s') (fun _ _=>False) s₁
theorem sC {r:OpenRow} {q:Program} {loose:List Str} {Xt:Shared→Bool} {XP:(Str→Option Value)→Heap→Prop} {α:Type} {Yf:Shared→α} {Ya:World→α} {YP:World→Heap→Prop} {d:DefRec} {kwd:List (Str×Expr)} {N:Nat}
    (left:LeftO r.prog q loose Xt Yf Ya N) (hY:∀ w s,Yf s=Ya w→YP w s.heap) (hYk:∀ w h h',YP w h→(∀ b o,h.get? b=some o→h'.get? b=some o)→YP w h')
    (hX:∀ s,Xt s=true→XP (s.heap.nsMap mainGlobals) s.heap) (hXk:∀ mg h h',XP mg h→(∀ b o,h.get? b=some o→h'.get? b=some o)→XP mg h')
    (hdef:defOf q r.name=some (d,kwd)) (hp:r.prog.theDef r.name=some (d.params,d.body,d.scope)) (hk:kwWritten? d.params.kwonlyargs d.params.kw_defaults=some kwd) (hRf:∀ s,Xt s=true→RecFacts r.records s.heap) (hwr:(!r.writes||r.records.isEmpty)=true)
    (k1:r.wellSaid=true) (ok:(chainsOk q&&opensWell r.prog&&(frees r.toRowW&&r.within.isEmpty))=true) (hb:r.prog.bare) (hw:r.toRowW.promised)
    (call:rg q loose XP YP r.toRowW d kwd):r.Holds:=by
  have ok:=bA.mp ok
  have hch:=bA.mp ok.1
  have k5:=bA.mp ok.2
  have hf5:=frees_parts k5.1
  refine ⟨k1,hw,⟨hb,hch.2,by show r.makers.map _=[]; rw [hf5.2.2.2.2]; rfl⟩,hw.witness,fun w=>⟨(left.behind hX hch.1 w).1,fun s' hs'=>?_⟩⟩
  refine qK ((left.behind (XP:=fun mg h=>XP mg h∧RecFacts r.records h) (fun s hs=>⟨hX s hs,hRf s hs⟩) hch.1 w).2 s' hs') fun s₀ hf hg0 h=>tf h fun s hT hz hgens hg G00 y=>?_
  have G0:Ground q loose [] XP w s (s.heap.nsMap mainGlobals) (s.heap.nsMap builtinsNs) s.heap:=⟨G00.T,G00.B,G00.D,G00.TE,G00.TD,G00.W,G00.X.1,G00.cls,G00.has,G00.apart,G00.once,G00.K⟩
  have RF:=G00.X.2
  have hgens:s.gens=#[]:=Array.eq_empty_of_size_eq_zero (beq_iff_eq.mp hgens)
  refine ⟨s₀,hf,hg0,s,hT,fun n hn=>?_,RF.1,RF.2.1,?_⟩
  · obtain rfl:n=r.name:=by split at hn <;> simp_all
    exact pinned_of_view hg G0 hdef hp hk
  have G:Ground q loose r.records XP w s _ _ s.heap:=RF.ground G0
  refine lj (c:=r.toRowW.claim) hz hgens fun args hpre hlay ord hord=>?_
  refine (Option.isSome_iff_exists.mp (layAllW_isSome (P:=w.params) (ord:=ord) G.has args r.args s (pre_splitW hpre).1)).elim fun q hlaid=>?_
  have keeps:=layAllW_keeps _ _ _ hlaid
  have hal:=layAllW_rest _ _ _ hlaid
  refine qK (reads_layAllW hord _ _ _ hlaid hlay q.2.heap (fun _ _ e=>e)) fun as hrd hin hold=>?_
  have L:Laid r.records w s q.2 args q.1 as:=⟨⟨ord,hord,hlaid⟩,hrd,hin,hold,keeps,hal.1.trans hgens,hal.2.2.1⟩
  have G₁:=G.keeps hXk keeps
  have hi:=ident_freeW hf5.2.1 hf5.2.2.1 hf5.2.2.2.1
  have hwi:r.toRowW.claim.within=[]:=List.isEmpty_iff.mp k5.2
  refine uk (G₁.fn hdef) fun a o pm cd doc dV kV h1 h2 h3 h4 h5=>?_
  have h:=call w s q.2 _ _ G₁ (hYk _ _ _ (hY w s y) keeps) a o pm cd doc dV kV h2 h3 h4 h5 (defOf_name hdef▸h1) L.gens args q.1 as hpre hlay L.reads L.well (L.low G.low)
  refine ⟨q.1,q.2,hlaid,?_⟩
  refine ab (wpAny_nsGet G₁.T.g ?_)
  rw [h1]
  refine au (aJ h (fun v s' g=>wpC_pure ⟨_,rfl,?_⟩) fun _ _ x=>x.elim)
  have z:=g.laid (c:=r.toRowW.claim) hf5.1 hwi hi L
  exact ⟨z.1,z.2.1,z.2.2,fun q=>⟨namesKept_of hT hg _ keeps g.2.1.old,noTable hwr q⟩⟩
namespace Y
section
open PySem.Challenge (pw_on0273_01 rw_on0273_01)
theorem wE:(fun (W:World) (os:OsState)=>sF W os)=fun (W:World) (os:OsState)=>⟨absHeap (jY W.params) 807 {},#[],{},1291,os⟩:=by kernel_rfl
theorem xS (W:World) (os:OsState):topRun treeTable pw_on0273_01 W 11 (some (.ref 6)) 5616 ⟨boot_heap W.params,#[],boot_drawn,boot_toks,os⟩ (topStub pw_on0273_01)=some ⟨absHeap (jY W.params) 807 {},#[],{},1291,os⟩:=
  (xk W os).trans (congrArg some (congrFun (congrFun wE W) os))
theorem tR (W:World) (os:OsState):openSeen qv lo (importedModules pw_on0273_01.main.body) s8 true (sF W os)=openGood qv lo:=by
  have e:openSeen qv lo (importedModules pw_on0273_01.main.body) s8 true (sF W os)=cx W os:=by
    unfold cx
    rw [Fast.te4187177175401517315]
  rw [e]
  exact Prod.ext (congrFun (congrFun vP W) os) (Prod.ext (congrFun (congrFun u8 W) os) (Prod.ext (congrFun (congrFun tJ W) os) (Prod.ext (congrFun (congrFun tV W) os) (Prod.ext (congrFun (congrFun uP W) os)
      (Prod.ext (congrFun (congrFun tT W) os) (Prod.ext (congrFun (congrFun vy W) os) (Prod.ext (congrFun (congrFun wm W) os) (congrFun (congrFun tG W) os))))))))
theorem leP:Nat.ble 5616 12000=true:=by kernel_rfl
theorem tz {α:Type} {Yf:Shared→α} {Ya:World→α} (hk:(fun (W:World) (os:OsState)=>Yf (sF W os))=fun W _=>Ya W) (W:World) :
    (fun os=>((staticsOk (importedModules pw_on0273_01.main.body) (boot_heap W.params) (absHeap (jY W.params) 807 {})&&namesBound pw_on0273_01 (absHeap (jY W.params) 807 {})&&gensDone ⟨absHeap (jY W.params) 807 {},#[],{},1291,os⟩&&laidKept (boot_heap W.params) (absHeap (jY W.params) 807 {})),
        openSeen qv lo (importedModules pw_on0273_01.main.body) s8 true ⟨absHeap (jY W.params) 807 {},#[],{},1291,os⟩,Yf ⟨absHeap (jY W.params) 807 {},#[],{},1291,os⟩))=fun _=>(true,openGood qv lo,Ya W):=by
  funext os
  have e:=(congrFun (congrFun wE W) os)
  have e:sF W os=⟨absHeap (jY W.params) 807 {},#[],{},1291,os⟩:=e
  rw [← e]
  exact looks_pair (congrFun (congrFun wC W) os) (looks_pair (tR W os) (congrFun (congrFun hk W) os))
theorem leftP {as:List Addr} {K:Params→Frag} (hk:(fun (W:World) (os:OsState)=>as.map (sF W os).heap.get?)=fun W _=>(K W.params).map fun p=>some p.2) :
    LeftO pw_on0273_01 qv lo s8 (fun s=>as.map s.heap.get?) (fun w=>(K w.params).map fun p=>some p.2) 12000:=
  LeftO.of_pieces (H₀:=boot_heap) (H₁:=fun P=>absHeap (jY P) 807 {}) (gs₀:=Array.mk []) (gs₁:=#[]) (d₀:=boot_drawn) (d₁:={}) (k₀:=boot_toks) (k₁:=1291) (m₀:=11) (ann:=some (.ref 6)) (M:=5616) wx ut xS leP (tz (Yf:=fun s=>as.map s.heap.get?) (Ya:=fun w=>(K w.params).map fun p=>some p.2) hk)
theorem wh:(Fast.tw11788848310118352699 pw_on0273_01.main)=true:=by kernel_rfl
theorem uF:(((Fast.tw9807087744658564304 pw_on0273_01.main.body).isEmpty||Fast.tw12862048085361865435 (Fast.tw9807087744658564304 pw_on0273_01.main.body) pw_on0273_01.main.body))=true:=by kernel_rfl
theorem vf:(Fast.tw8377067652309620493 pw_on0273_01)=true:=by kernel_rfl
theorem tF:((Fast.tw18344453789297297638 pw_on0273_01).all (fun n=>!Fast.tw14412699480532031325.contains n))=true:=by kernel_rfl
theorem tA:(Fast.tw8326940854005059898 { strict:=!(Fast.tw5923862056798008813 pw_on0273_01.main.body).all cThrough.contains,foot:=none,bare:=(["vars","dir","locals"]:List Str).filter (Fast.tw13343964577679436407 pw_on0273_01 pw_on0273_01.main.body) } pw_on0273_01.main.body)=true:=by kernel_rfl
theorem tI:(Fast.tw17119622794617984870 pw_on0273_01 pw_on0273_01.main.body fun _ n=>Fast.tw17868728402115742887 n)=true:=by kernel_rfl
theorem wD:(Fast.tw8179353310426384613 pw_on0273_01 rw_on0273_01.footing)=true:=by kernel_rfl
theorem vQ:(Fast.tw8326940854005059898 { strict:=true,foot:=some (Fast.tw797321630700447069 rw_on0273_01),writes:=rw_on0273_01.writes,may:=Fast.tw9572597257264208301 rw_on0273_01 } rw_on0273_01.footing)=true:=by kernel_rfl
theorem uD:(Fast.tw9558739934217749035 rw_on0273_01.about rw_on0273_01.above)=true:=by kernel_rfl
theorem u9:(Fast.tw16286561074155671207 rw_on0273_01)=true:=by kernel_rfl
theorem wO:((["type","isinstance","issubclass","getattr","hasattr"]:List Str).all (fun n=>rw_on0273_01.about != [n]))=true:=by kernel_rfl
theorem vB:((Fast.tw797321630700447069 rw_on0273_01).all (fun n=>!Fast.qNamed n||rw_on0273_01.about==[n]||!Fast.tw6984425678791042302 rw_on0273_01 n))=true:=by kernel_rfl
theorem uI:((!rw_on0273_01.writes||(pw_on0273_01.main.body.flatMap Fast.tw12879404354523853263).all fun n=>!Fast.tw6984425678791042302 rw_on0273_01 n))=true:=by kernel_rfl
theorem vO:((pw_on0273_01.main.body.flatMap Fast.tw12879404354523853263).all (fun n=>!Fast.tw6984425678791042302 rw_on0273_01 n||(Fast.tw482687673346738481 n pw_on0273_01.main.body).all fun mn=>mn.2 != ("attrgetter":Str)&&mn.2 != ("methodcaller":Str)))=true:=by kernel_rfl
theorem uM:(Fast.tw17119622794617984870 pw_on0273_01 rw_on0273_01.footing (fun sc n=>(!(["type","isinstance","issubclass","getattr","hasattr"]:List Str).contains n||sc.names.lookup n==some .globalImplicit)&&(Fast.tw9572597257264208301 rw_on0273_01 != some n||sc.kind==.module||sc.names.lookup n==some .globalImplicit)))=true:=by kernel_rfl
theorem uV:(Fast.tw17119622794617984870 pw_on0273_01 rw_on0273_01.above (fun _ n=>!(Fast.tw10792542408131684335 rw_on0273_01).contains n))=true:=by kernel_rfl
theorem vN:(Fast.tw17119622794617984870 pw_on0273_01 rw_on0273_01.footing fun sc n=>sc.kind==.module||sc.names.lookup n != some .globalExplicit)=true:=by kernel_rfl
theorem saidP:rw_on0273_01.wellSaid=true:=by
  unfold OpenLaw.wellSaid OpenRow.wellSaid OpenRow.partSaid looksOpen
  rw [show rw_on0273_01.row.prog=pw_on0273_01 from rfl,show rw_on0273_01.prog=pw_on0273_01 from rfl]
  rw [Fast.te11788848310118352699,Fast.te9807087744658564304,Fast.te12862048085361865435,Fast.te8377067652309620493,Fast.te18344453789297297638,Fast.te14412699480532031325,Fast.te8326940854005059898,Fast.te5923862056798008813,Fast.te13343964577679436407,Fast.te17119622794617984870,Fast.te17868728402115742887,Fast.te10501279942588096481,Fast.te8179353310426384613,Fast.te9558739934217749035,Fast.te16286561074155671207,Fast.te6984425678791042302,Fast.te482687673346738481,Fast.te10792542408131684335,Fast.te797321630700447069,Fast.te9572597257264208301,Fast.te12879404354523853263,Fast.named_eq]
  repeat' with_reducible refine look_both ?_ ?_
  all_goals first | (with_reducible exact wh) | (with_reducible exact uF) | (with_reducible exact vf) | (with_reducible exact tF) | (with_reducible exact tA) | (with_reducible exact tI) | (with_reducible exact wD) | (with_reducible exact vQ) | (with_reducible exact uD) | (with_reducible exact u9) | (with_reducible exact wO) | (with_reducible exact vB) | (with_reducible exact uI) | (with_reducible exact vO) | (with_reducible exact uM) | (with_reducible exact uV) | (with_reducible exact vN) | kernel_rfl
theorem okP:(chainsOk qv&&opensWell rw_on0273_01.row.prog&&(frees rw_on0273_01.row.toRowW&&rw_on0273_01.row.within.isEmpty))=true:=by kernel_rfl
theorem uz:rw_on0273_01.row.prog.bare:=⟨rfl,rfl,rfl,rfl,rfl,by decide +kernel⟩
theorem headP {H:Hook} {d:DefRec} {kwd:List (Str×Expr)} (left:LeftO pw_on0273_01 qv lo s8 H.obs H.val 12000)
    (hdef:defOf qv rw_on0273_01.row.name=some (d,kwd)) (hp:rw_on0273_01.row.prog.theDef rw_on0273_01.row.name=some (d.params,d.body,d.scope)) (hk:kwWritten? d.params.kwonlyargs d.params.kw_defaults=some kwd)
    (k1:rw_on0273_01.row.wellSaid=true) (hw:rw_on0273_01.row.toRowW.promised) (call:rg qv lo (XL qv []) H.says rw_on0273_01.row.toRowW d kwd):rw_on0273_01.row.Holds:=
  sC (r:=rw_on0273_01.row) (Xt:=fun s=>xlAt qv [] s&&recOk (RowW.records rw_on0273_01.row.toRowW) s) left H.of H.keeps (fun s e=>xl_of s (bA.mp e).1) XL.keeps hdef hp hk (fun s e=>recFacts_of (bA.mp e).2) rfl k1 okP uz hw call
end
end Y
end Mine
namespace Mine
noncomputable def Y.og (l:List Obj):Nat→Obj:=List.rec (motive:=fun _=>Nat→Obj) (fun _=>default) (fun o _ ih n=>Nat.rec (motive:=fun _=>Obj) o (fun n _=>ih n) n) l
noncomputable def Y.oc (l:List (Nat×Obj)):Nat→Obj:=List.rec (motive:=fun _=>Nat→Obj) (fun _=>default) (fun o _ ih n=>Nat.rec (motive:=fun _=>Obj) o.2 (fun n _=>ih n) n) l
open Y in
noncomputable def hd.heap_1 (P:Params):Frag:=(nat_lit 1,og (La P) 1)::(nat_lit 2,oc (c1 P) 0)::(nat_lit 3,oc (c18 P) 0)::(nat_lit 15,og (n1 P) 0)::(nat_lit 17,og (n1 P) 2)::(nat_lit 18,og (n1 P) 3)::(nat_lit 20,og (n1 P) 5)::(nat_lit 21,og (n1 P) 6)::(nat_lit 22,og (n1 P) 7)::(nat_lit 29,og (n1 P) 14)::(nat_lit 30,og (n1 P) 15)::(nat_lit 32,og (n1 P) 17)::(nat_lit 33,og (n1 P) 18)::(nat_lit 35,og (n1 P) 20)::(nat_lit 36,og (n1 P) 21)::(nat_lit 37,og (n1 P) 22)::(nat_lit 38,og (n1 P) 23)::(nat_lit 39,oc (c2 P) 2)::(nat_lit 40,og (n1 P) 25)::(nat_lit 43,og (n2 P) 0)::(nat_lit 50,og (n2 P) 7)::(nat_lit 51,og (n2 P) 8)::(nat_lit 52,og (n2 P) 9)::(nat_lit 55,og (n2 P) 12)::(nat_lit 57,og (n2 P) 14)::(nat_lit 58,og (n2 P) 15)::(nat_lit 60,og (n2 P) 17)::(nat_lit 61,og (n2 P) 18)::(nat_lit 62,og (n2 P) 19)::(nat_lit 64,og (n2 P) 21)::(nat_lit 65,og (n2 P) 22)::(nat_lit 67,og (n2 P) 24)::(nat_lit 68,og (n2 P) 25)::(nat_lit 76,og (n3 P) 7)::(nat_lit 77,og (n3 P) 8)::(nat_lit 79,og (n3 P) 10)::(nat_lit 80,og (n3 P) 11)::(nat_lit 82,og (n3 P) 13)::(nat_lit 83,og (n3 P) 14)::(nat_lit 84,og (n3 P) 15)::(nat_lit 85,og (n3 P) 16)::(nat_lit 86,og (n3 P) 17)::(nat_lit 87,og (n3 P) 18)::(nat_lit 88,og (n3 P) 19)::(nat_lit 98,og (n4 P) 7)::(nat_lit 100,og (n4 P) 9)::(nat_lit 101,og (n4 P) 10)::(nat_lit 103,og (n4 P) 12)::(nat_lit 104,og (n4 P) 13)::(nat_lit 105,og (n4 P) 14)::(nat_lit 106,og (n4 P) 15)::(nat_lit 107,og (n4 P) 16)::(nat_lit 108,og (n4 P) 17)::(nat_lit 109,og (n4 P) 18)::(nat_lit 119,og (n5 P) 7)::(nat_lit 121,og (n5 P) 9)::(nat_lit 122,og (n5 P) 10)::(nat_lit 124,og (n5 P) 12)::(nat_lit 125,og (n5 P) 13)::(nat_lit 126,og (n5 P) 14)::(nat_lit 127,og (n5 P) 15)::(nat_lit 128,og (n5 P) 16)::(nat_lit 129,og (n5 P) 17)::(nat_lit 130,og (n5 P) 18)::(nat_lit 140,og (n6 P) 7)::(nat_lit 142,og (n6 P) 9)::(nat_lit 143,og (n6 P) 10)::(nat_lit 145,og (n6 P) 12)::(nat_lit 146,og (n6 P) 13)::(nat_lit 147,og (n6 P) 14)::(nat_lit 149,og (n6 P) 16)::(nat_lit 150,og (n6 P) 17)::(nat_lit 152,og (n6 P) 19)::(nat_lit 153,og (n6 P) 20)::(nat_lit 154,og (n6 P) 21)::(nat_lit 157,og (n6 P) 24)::(nat_lit 158,og (n6 P) 25)::(nat_lit 159,og (n6 P) 26)::(nat_lit 160,og (n6 P) 27)::(nat_lit 161,og (n6 P) 28)::(nat_lit 162,og (n6 P) 29)::(nat_lit 163,og (n6 P) 30)::(nat_lit 173,og (n7 P) 7)::(nat_lit 175,og (n7 P) 9)::(nat_lit 176,og (n7 P) 10)::(nat_lit 178,og (n7 P) 12)::(nat_lit 179,og (n7 P) 13)::(nat_lit 180,og (n7 P) 14)::(nat_lit 181,og (n7 P) 15)::(nat_lit 182,og (n7 P) 16)::(nat_lit 183,og (n7 P) 17)::(nat_lit 184,og (n7 P) 18)::(nat_lit 187,og (n7 P) 21)::(nat_lit 189,og (n7 P) 23)::(nat_lit 190,og (n7 P) 24)::(nat_lit 192,og (n7 P) 26)::(nat_lit 193,og (n7 P) 27)::(nat_lit 194,og (n7 P) 28)::(nat_lit 196,og (n7 P) 30)::(nat_lit 197,og (n7 P) 31)::(nat_lit 199,og (n7 P) 33)::(nat_lit 200,og (n7 P) 34)::(nat_lit 201,og (n7 P) 35)::(nat_lit 203,og (n7 P) 37)::(nat_lit 204,og (n7 P) 38)::(nat_lit 206,og (n7 P) 40)::(nat_lit 207,og (n7 P) 41)::(nat_lit 208,og (n7 P) 42)::(nat_lit 209,og (n7 P) 43)::(nat_lit 211,og (n7 P) 45)::(nat_lit 212,og (n7 P) 46)::(nat_lit 214,og (n7 P) 48)::(nat_lit 215,og (n7 P) 49)::(nat_lit 216,og (n7 P) 50)::(nat_lit 218,og (n7 P) 52)::(nat_lit 219,og (n7 P) 53)::(nat_lit 221,og (n7 P) 55)::(nat_lit 222,og (n7 P) 56)::(nat_lit 223,og (n8 P) 0)::(nat_lit 225,og (n8 P) 2)::(nat_lit 226,og (n8 P) 3)::(nat_lit 228,og (n8 P) 5)::(nat_lit 229,og (n8 P) 6)::(nat_lit 230,og (n8 P) 7)::(nat_lit 232,og (n8 P) 9)::(nat_lit 233,og (n8 P) 10)::(nat_lit 235,og (n8 P) 12)::(nat_lit 236,og (n8 P) 13)::(nat_lit 237,og (n8 P) 14)::(nat_lit 238,og (n8 P) 15)::(nat_lit 240,og (n8 P) 17)::(nat_lit 241,og (n8 P) 18)::(nat_lit 243,og (n8 P) 20)::(nat_lit 244,og (n8 P) 21)::(nat_lit 245,og (n8 P) 22)::(nat_lit 246,og (n8 P) 23)::(nat_lit 248,og (n8 P) 25)::(nat_lit 249,og (n8 P) 26)::(nat_lit 251,og (n8 P) 28)::(nat_lit 252,og (n8 P) 29)::(nat_lit 253,og (n8 P) 30)::(nat_lit 254,og (n8 P) 31)::(nat_lit 256,og (n8 P) 33)::(nat_lit 257,og (n8 P) 34)::(nat_lit 259,og (n8 P) 36)::(nat_lit 260,og (n8 P) 37)::(nat_lit 261,og (n8 P) 38)::(nat_lit 263,og (n8 P) 40)::(nat_lit 264,og (n8 P) 41)::(nat_lit 266,og (n8 P) 43)::(nat_lit 267,og (n8 P) 44)::(nat_lit 268,og (n8 P) 45)::(nat_lit 270,og (n8 P) 47)::(nat_lit 271,og (n8 P) 48)::(nat_lit 273,og (n8 P) 50)::(nat_lit 274,og (n8 P) 51)::(nat_lit 275,og (n8 P) 52)::(nat_lit 277,og (n8 P) 54)::(nat_lit 278,og (n8 P) 55)::(nat_lit 280,og (n8 P) 57)::(nat_lit 281,og (n8 P) 58)::(nat_lit 282,og (n8 P) 59)::(nat_lit 284,og (n8 P) 61)::(nat_lit 285,og (n8 P) 62)::(nat_lit 287,og (n8 P) 64)::(nat_lit 288,og (n8 P) 65)::(nat_lit 289,og (n8 P) 66)::(nat_lit 291,og (n8 P) 68)::(nat_lit 292,og (n8 P) 69)::(nat_lit 294,og (n8 P) 71)::(nat_lit 295,og (n8 P) 72)::(nat_lit 296,og (n8 P) 73)::(nat_lit 298,og (n8 P) 75)::(nat_lit 299,og (n8 P) 76)::(nat_lit 301,og (n8 P) 78)::(nat_lit 302,og (n8 P) 79)::(nat_lit 303,og (n8 P) 80)::(nat_lit 305,og (n8 P) 82)::(nat_lit 306,og (n8 P) 83)::(nat_lit 308,og (n8 P) 85)::(nat_lit 309,og (n8 P) 86)::(nat_lit 310,og (n8 P) 87)::(nat_lit 312,og (n8 P) 89)::(nat_lit 313,og (n8 P) 90)::(nat_lit 315,og (n8 P) 92)::(nat_lit 316,og (n8 P) 93)::(nat_lit 317,og (n9 P) 0)::(nat_lit 319,og (n9 P) 2)::(nat_lit 320,og (n9 P) 3)::(nat_lit 322,og (n9 P) 5)::(nat_lit 323,og (n9 P) 6)::(nat_lit 324,og (n9 P) 7)::(nat_lit 326,og (n9 P) 9)::(nat_lit 327,og (n9 P) 10)::(nat_lit 329,og (n9 P) 12)::(nat_lit 330,og (n9 P) 13)::(nat_lit 331,og (n9 P) 14)::(nat_lit 333,og (n9 P) 16)::(nat_lit 334,og (n9 P) 17)::(nat_lit 336,og (n9 P) 19)::(nat_lit 337,og (n9 P) 20)::(nat_lit 338,og (n9 P) 21)::(nat_lit 340,og (n9 P) 23)::(nat_lit 341,og (n9 P) 24)::(nat_lit 343,og (n9 P) 26)::(nat_lit 344,og (n9 P) 27)::(nat_lit 345,og (n9 P) 28)::(nat_lit 347,og (n9 P) 30)::(nat_lit 348,og (n9 P) 31)::(nat_lit 350,og (n9 P) 33)::(nat_lit 351,og (n9 P) 34)::(nat_lit 352,og (n9 P) 35)::(nat_lit 354,og (n9 P) 37)::(nat_lit 355,og (n9 P) 38)::(nat_lit 357,og (n9 P) 40)::(nat_lit 358,og (n9 P) 41)::(nat_lit 359,og (n9 P) 42)::(nat_lit 361,og (n9 P) 44)::(nat_lit 362,og (n9 P) 45)::(nat_lit 364,og (n9 P) 47)::(nat_lit 365,og (n9 P) 48)::(nat_lit 366,og (n9 P) 49)::(nat_lit 368,og (n9 P) 51)::(nat_lit 369,og (n9 P) 52)::(nat_lit 371,og (n9 P) 54)::(nat_lit 372,og (n9 P) 55)::(nat_lit 373,og (n9 P) 56)::(nat_lit 375,og (n9 P) 58)::(nat_lit 376,og (n9 P) 59)::(nat_lit 378,og (n9 P) 61)::(nat_lit 379,og (n9 P) 62)::(nat_lit 380,og (n10 P) 0)::(nat_lit 381,og (dm P) 0)::(nat_lit 383,og (dm P) 2)::(nat_lit 384,og (dm P) 3)::(nat_lit 386,og (dm P) 5)::(nat_lit 387,og (dm P) 6)::(nat_lit 388,og (dm P) 7)::(nat_lit 391,og (dm P) 10)::(nat_lit 392,og (dm P) 11)::(nat_lit 393,og (dm P) 12)::(nat_lit 395,og (dm P) 14)::(nat_lit 396,og (dm P) 15)::(nat_lit 398,og (dm P) 17)::(nat_lit 399,og (dm P) 18)::(nat_lit 400,og (dm P) 19)::(nat_lit 402,og (dm P) 21)::(nat_lit 403,og (dm P) 22)::(nat_lit 405,og (dm P) 24)::(nat_lit 406,og (dm P) 25)::(nat_lit 407,og (dm P) 26)::(nat_lit 410,og (dm P) 29)::(nat_lit 411,og (dm P) 30)::(nat_lit 412,og (dm P) 31)::(nat_lit 413,og (dm P) 32)::(nat_lit 415,og (dm P) 34)::(nat_lit 416,og (dm P) 35)::(nat_lit 418,og (dm P) 37)::(nat_lit 419,og (dm P) 38)::(nat_lit 427,og (lx P) 7)::(nat_lit 428,og (lx P) 8)::(nat_lit 430,og (lx P) 10)::(nat_lit 431,og (lx P) 11)::(nat_lit 433,og (lx P) 13)::(nat_lit 434,og (lx P) 14)::(nat_lit 435,og (lx P) 15)::(nat_lit 436,og (lx P) 16)::(nat_lit 437,og (lx P) 17)::(nat_lit 438,og (lx P) 18)::(nat_lit 439,og (lx P) 19)::(nat_lit 449,og (n13 P) 7)::(nat_lit 451,og (n13 P) 9)::(nat_lit 452,og (n13 P) 10)::(nat_lit 454,og (n13 P) 12)::(nat_lit 455,og (n13 P) 13)::(nat_lit 456,og (n13 P) 14)::(nat_lit 457,og (n13 P) 15)::(nat_lit 458,og (n13 P) 16)::(nat_lit 459,og (n13 P) 17)::(nat_lit 460,og (n13 P) 18)::(nat_lit 470,og (bE P) 7)::(nat_lit 472,og (bE P) 9)::(nat_lit 473,og (bE P) 10)::(nat_lit 475,og (bE P) 12)::(nat_lit 476,og (bE P) 13)::(nat_lit 477,og (bE P) 14)::(nat_lit 479,og (bE P) 16)::(nat_lit 480,og (bE P) 17)::(nat_lit 482,og (bE P) 19)::(nat_lit 483,og (bE P) 20)::(nat_lit 484,og (bE P) 21)::(nat_lit 485,og (bE P) 22)::(nat_lit 487,og (bE P) 24)::(nat_lit 488,og (bE P) 25)::(nat_lit 490,og (bE P) 27)::(nat_lit 491,og (bE P) 28)::(nat_lit 492,og (bE P) 29)::(nat_lit 494,og (bE P) 31)::(nat_lit 495,og (bE P) 32)::(nat_lit 497,og (bE P) 34)::(nat_lit 498,og (bE P) 35)::(nat_lit 499,og (bE P) 36)::(nat_lit 501,og (bE P) 38)::(nat_lit 502,og (bE P) 39)::(nat_lit 504,og (bE P) 41)::(nat_lit 505,og (bE P) 42)::(nat_lit 506,og (bE P) 43)::(nat_lit 508,og (bE P) 45)::(nat_lit 509,og (bE P) 46)::(nat_lit 511,og (bE P) 48)::(nat_lit 512,og (bE P) 49)::(nat_lit 513,og (bE P) 50)::(nat_lit 515,og (bE P) 52)::(nat_lit 516,og (bE P) 53)::(nat_lit 518,og (bE P) 55)::(nat_lit 519,og (bE P) 56)::(nat_lit 520,og (bE P) 57)::(nat_lit 522,og (bE P) 59)::(nat_lit 523,og (bE P) 60)::(nat_lit 525,og (bE P) 62)::(nat_lit 526,og (bE P) 63)::(nat_lit 527,og (bE P) 64)::(nat_lit 529,og (bE P) 66)::(nat_lit 530,og (bE P) 67)::(nat_lit 532,og (bE P) 69)::(nat_lit 533,og (bE P) 70)::(nat_lit 534,og (bE P) 71)::(nat_lit 535,og (bE P) 72)::(nat_lit 536,oc (c15 P) 2)::(nat_lit 537,og (bE P) 74)::(nat_lit 538,og (bE P) 75)::(nat_lit 541,og (bz P) 0)::(nat_lit 548,og (bz P) 7)::(nat_lit 550,og (bz P) 9)::(nat_lit 551,og (bz P) 10)::(nat_lit 553,og (bz P) 12)::(nat_lit 554,og (bz P) 13)::(nat_lit 555,og (bz P) 14)::(nat_lit 557,og (bz P) 16)::(nat_lit 558,og (bz P) 17)::(nat_lit 560,og (bz P) 19)::(nat_lit 561,og (bz P) 20)::(nat_lit 562,og (bz P) 21)::(nat_lit 564,og (bz P) 23)::(nat_lit 565,og (bz P) 24)::(nat_lit 567,og (bz P) 26)::(nat_lit 568,og (bz P) 27)::(nat_lit 569,og (bz P) 28)::(nat_lit 571,og (bz P) 30)::(nat_lit 572,og (bz P) 31)::(nat_lit 574,og (bz P) 33)::(nat_lit 575,og (bz P) 34)::(nat_lit 576,og (bz P) 35)::(nat_lit 578,og (bz P) 37)::(nat_lit 579,og (bz P) 38)::(nat_lit 581,og (bz P) 40)::(nat_lit 582,og (bz P) 41)::(nat_lit 583,og (bz P) 42)::(nat_lit 585,og (bz P) 44)::(nat_lit 586,og (bz P) 45)::(nat_lit 588,og (bz P) 47)::(nat_lit 589,og (bz P) 48)::(nat_lit 590,og (bz P) 49)::(nat_lit 592,og (bz P) 51)::(nat_lit 593,og (bz P) 52)::(nat_lit 595,og (bz P) 54)::(nat_lit 596,og (bz P) 55)::(nat_lit 597,og (bz P) 56)::(nat_lit 599,og (bz P) 58)::(nat_lit 600,og (bz P) 59)::(nat_lit 602,og (bz P) 61)::(nat_lit 603,og (bz P) 62)::(nat_lit 604,og (bz P) 63)::(nat_lit 606,og (bz P) 65)::(nat_lit 607,og (bz P) 66)::(nat_lit 609,og (bz P) 68)::(nat_lit 610,og (bz P) 69)::(nat_lit 611,og (bz P) 70)::(nat_lit 613,og (bz P) 72)::(nat_lit 614,og (bz P) 73)::(nat_lit 616,og (bz P) 75)::(nat_lit 617,og (bz P) 76)::(nat_lit 618,og (bz P) 77)::(nat_lit 619,og (bz P) 78)::(nat_lit 620,oc (c16 P) 2)::(nat_lit 623,og (aY P) 0)::(nat_lit 630,og (aY P) 7)::(nat_lit 631,og (aY P) 8)::(nat_lit 633,og (aY P) 10)::(nat_lit 634,og (aY P) 11)::(nat_lit 636,og (aY P) 13)::(nat_lit 637,og (aY P) 14)::(nat_lit 638,og (aY P) 15)::(nat_lit 640,og (aY P) 17)::(nat_lit 641,og (aY P) 18)::(nat_lit 643,og (aY P) 20)::(nat_lit 644,og (aY P) 21)::(nat_lit 645,og (aY P) 22)::(nat_lit 647,og (aY P) 24)::(nat_lit 648,og (aY P) 25)::(nat_lit 650,og (aY P) 27)::(nat_lit 651,og (aY P) 28)::(nat_lit 652,og (aY P) 29)::(nat_lit 654,og (aY P) 31)::(nat_lit 655,og (aY P) 32)::(nat_lit 657,og (aY P) 34)::(nat_lit 658,og (aY P) 35)::(nat_lit 659,og (aY P) 36)::(nat_lit 661,og (aY P) 38)::(nat_lit 662,og (aY P) 39)::(nat_lit 664,og (aY P) 41)::(nat_lit 665,og (aY P) 42)::(nat_lit 666,og (aY P) 43)::(nat_lit 668,og (aY P) 45)::(nat_lit 669,og (aY P) 46)::(nat_lit 671,og (aY P) 48)::(nat_lit 672,og (aY P) 49)::(nat_lit 673,og (aY P) 50)::(nat_lit 675,og (aY P) 52)::(nat_lit 676,og (aY P) 53)::(nat_lit 678,og (aY P) 55)::(nat_lit 679,og (aY P) 56)::(nat_lit 680,og (aY P) 57)::(nat_lit 682,og (aY P) 59)::(nat_lit 683,og (aY P) 60)::(nat_lit 685,og (aY P) 62)::(nat_lit 686,og (aY P) 63)::(nat_lit 687,og (aY P) 64)::(nat_lit 689,og (aY P) 66)::(nat_lit 690,og (aY P) 67)::(nat_lit 692,og (aY P) 69)::(nat_lit 693,og (aY P) 70)::(nat_lit 694,og (aY P) 71)::(nat_lit 696,og (aY P) 73)::(nat_lit 697,og (aY P) 74)::(nat_lit 699,og (aY P) 76)::(nat_lit 700,og (aY P) 77)::(nat_lit 701,og (aY P) 78)::(nat_lit 702,og (aY P) 79)::(nat_lit 704,og (aY P) 81)::(nat_lit 705,og (aY P) 82)::(nat_lit 707,og (aY P) 84)::(nat_lit 708,og (aY P) 85)::(nat_lit 709,og (aY P) 86)::(nat_lit 711,og (aY P) 88)::(nat_lit 712,og (aY P) 89)::(nat_lit 714,og (aY P) 91)::(nat_lit 715,og (aY P) 92)::(nat_lit 716,og (aY P) 93)::(nat_lit 717,og (aY P) 94)::(nat_lit 718,og (aY P) 95)::(nat_lit 721,og (bk P) 0)::(nat_lit 723,og (bk P) 2)::(nat_lit 724,og (bk P) 3)::(nat_lit 726,og (bk P) 5)::(nat_lit 727,og (bk P) 6)::(nat_lit 728,og (bk P) 7)::(nat_lit 730,og (bk P) 9)::(nat_lit 731,og (bk P) 10)::(nat_lit 733,og (bk P) 12)::(nat_lit 734,og (bk P) 13)::(nat_lit 735,og (bk P) 14)::(nat_lit 737,og (bk P) 16)::(nat_lit 738,og (bk P) 17)::(nat_lit 740,og (bk P) 19)::(nat_lit 741,og (bk P) 20)::(nat_lit 742,og (bk P) 21)::(nat_lit 744,og (bk P) 23)::(nat_lit 745,og (bk P) 24)::(nat_lit 747,og (bk P) 26)::(nat_lit 748,og (bk P) 27)::(nat_lit 749,og (bk P) 28)::(nat_lit 752,og (bk P) 31)::(nat_lit 753,og (bk P) 32)::(nat_lit 754,og (bk P) 33)::(nat_lit 756,og (bk P) 35)::(nat_lit 757,og (bk P) 36)::(nat_lit 759,og (bk P) 38)::(nat_lit 760,og (bk P) 39)::(nat_lit 761,og (bk P) 40)::(nat_lit 763,og (bk P) 42)::(nat_lit 764,og (bk P) 43)::(nat_lit 766,og (bk P) 45)::(nat_lit 767,og (bk P) 46)::(nat_lit 768,og (bk P) 47)::(nat_lit 771,og (bk P) 50)::(nat_lit 772,og (bk P) 51)::(nat_lit 773,og (bk P) 52)::(nat_lit 776,og (bk P) 55)::(nat_lit 777,og (bk P) 56)::(nat_lit 778,og (bk P) 57)::(nat_lit 781,og (bk P) 60)::(nat_lit 782,og (bk P) 61)::(nat_lit 783,og (bk P) 62)::(nat_lit 785,og (bk P) 64)::(nat_lit 786,og (bk P) 65)::(nat_lit 788,og (bk P) 67)::(nat_lit 789,og (bk P) 68)::(nat_lit 790,og (bk P) 69)::(nat_lit 793,og (bk P) 72)::(nat_lit 794,og (bk P) 73)::(nat_lit 795,og (bk P) 74)::(nat_lit 797,og (bk P) 76)::(nat_lit 798,og (bk P) 77)::(nat_lit 800,og (bk P) 79)::(nat_lit 801,og (bk P) 80)::(nat_lit 802,og (wT P) 0)::(nat_lit 805,og (wT P) 3)::(nat_lit 806,og (wT P) 4) ::  []
end Mine
namespace Mine
local macro_rules | `(tactic| walk_at $s:str) => `(tactic| k_extra $s)
local macro_rules | `(tactic| k_enter) => `(tactic| k_extra "k k_enter")
local macro_rules | `(tactic| passes_own) => `(tactic| k_extra "k passes_own")
local macro_rules | `(tactic| k_steps) => `(tactic| k_extra "k k_steps")
local macro_rules | `(tactic| k_room) => `(tactic| k_extra "k k_room")
local macro_rules | `(tactic| k_units) => `(tactic| k_extra "k k_units")
local macro_rules | `(tactic| k_all) => `(tactic| k_extra "k k_all")
local macro_rules | `(tactic| k_mem) => `(tactic| k_extra "k k_mem")
section
inductive LX | v (n:Nat) | k (n:Nat) | a (x y:LX) | m (n:Nat) (x:LX)
inductive LC | z | c (a:Nat) (l:LC)
inductive LL | z | c (x y:LX) (l:LL) | m (k:Nat) (x y:LX) (l:LL)
inductive IX | v (n:Nat) | k (i:Int) | a (x y:IX) | s (x y:IX) | m (i:Int) (x:IX) | w (x:IX) (i:Int) | g (x:IX) | u (x:LX)
inductive IC | z | c (a:Int) (l:IC)
inductive IL | z | c (x y:IX) (l:IL) | m (k:Nat) (x y:IX) (l:IL) | u (x y:LX) (l:IL) | o (k:Nat) (x y:LX) (l:IL)
noncomputable def LC.at:LC→Nat→Nat:=LC.rec (fun z_=>0) (fun a _ r n=>Nat.rec a (fun n _=>r n) n)
noncomputable def IC.at:IC→Nat→Int:=IC.rec (fun z_=>0) (fun a _ r n=>Nat.rec a (fun n _=>r n) n)
noncomputable def LX.d (c:LC):LX→Nat | .v n=>c.at n | .k n=>n | .a x y=>x.d c+y.d c | .m n x=>n*x.d c
noncomputable def IX.d (c:LC) (e:IC):IX→Int | .v n=>e.at n | .k i=>i | .a x y=>x.d c e+y.d c e | .s x y=>x.d c e - y.d c e | .m i x=>i*x.d c e | .w x i=>x.d c e*i | .g x=>- x.d c e | .u x=>((x.d c:Nat):Int)
noncomputable def qR:List Int→List Int→List Int | [],l=>l | a::k,l=>List.rec (a::k) (fun b l _=>(a+b)::qR k l) l
noncomputable def qJ (i:Int):List Int→List Int | []=>[] | a::k=>i*a::qJ i k
noncomputable def vL:Nat→List Int | 0=>[1] | n+1=>0::vL n
noncomputable def LX.p:LX→List Int | .v n=>0::vL n | .k n=>[(n:Int)] | .a x y=>qR x.p y.p | .m n x=>qJ n x.p
structure IP where
  c:List Int
  e:List Int
noncomputable def IP.a (p q:IP):IP:=⟨qR p.c q.c,qR p.e q.e⟩
noncomputable def IP.m (i:Int) (p:IP):IP:=⟨qJ i p.c,qJ i p.e⟩
noncomputable def IX.p:IX→IP | .v n=>⟨[],vL n⟩ | .k i=>⟨[i],[]⟩ | .a x y=>x.p.a y.p | .s x y=>x.p.a (y.p.m (-1)) | .m i x=>x.p.m i | .w x i=>x.p.m i | .g x=>x.p.m (-1) | .u x=>⟨x.p,[]⟩
noncomputable def tO (q:Int→Bool):List Int→Bool | []=>true | a::k=>q a&&tO q k
noncomputable def IP.st (D:IP) (k:Int) (x y:IX):IP:=D.a ((y.p.a (x.p.m (-1))).m k)
noncomputable def IL.p:IL→IP→Bool | .z,D=>tO (fun a=>decide (a≤0)) D.c&&tO (fun a=>decide (a=0)) D.e | .c x y l,D=>l.p (D.st 1 x y) | .m k x y l,D=>l.p (D.st k x y) | .u x y l,D=>l.p (D.st 1 (.u x) (.u y)) | .o k x y l,D=>l.p (D.st k (.u x) (.u y))
noncomputable def IL.d (c:LC) (e:IC) (g:Prop):IL→Prop | .z=>g | .c x y l=>x.d c e≤y.d c e→l.d c e g | .m _ x y l=>x.d c e≤y.d c e→l.d c e g | .u x y l=>x.d c≤y.d c→l.d c e g | .o _ x y l=>x.d c≤y.d c→l.d c e g
noncomputable def LL.i:LL→IL | .z=>.z | .c x y l=>.u x y l.i | .m k x y l=>.o k x y l.i
noncomputable def sm (f:Nat→Int):List Int→Int | []=>0 | k::ks=>k*f 0+sm (fun n=>f (n+1)) ks
theorem ad4 (a b c d:Int):a+b+(c+d)=a+c+(b+d):=by rw [Int.add_assoc,Int.add_left_comm b,← Int.add_assoc]
theorem oW:∀ (a b:List Int) (f:Nat→Int),sm f (qR a b)=sm f a+sm f b
  | [],_,_=>(Int.zero_add _).symm
  | _::_,[],_=>(Int.add_zero _).symm
  | a::k,b::l,f=>by
    show (a+b)*f 0+sm _ (qR k l)=(a*f 0+sm _ k)+(b*f 0+sm _ l)
    rw [oW k l,Int.add_mul,ad4]
theorem pH (i:Int):∀ (a:List Int) (f:Nat→Int),sm f (qJ i a)=i*sm f a
  | [],_=>(Int.mul_zero _).symm
  | a::k,f=>by
    show i*a*f 0+sm _ (qJ i k)=i*(a*f 0+sm _ k)
    rw [pH i k,Int.mul_add,Int.mul_assoc]
theorem sq:∀ (n:Nat) (f:Nat→Int),sm f (vL n)=f n
  | 0,f=>(Int.add_zero _).trans (Int.one_mul _)
  | n+1,f=>by
    show 0*f 0+sm _ (vL n)=f (n+1)
    rw [sq n,Int.zero_mul,Int.zero_add]
theorem ve:∀ (a:List Int) (f:Nat→Int),(∀ n,0≤f n)→tO (fun a=>decide (a≤0)) a=true→sm f a≤0
  | [],_,_,_=>Int.le_refl _
  | a::k,f,p,h=>Int.add_nonpos (Int.mul_nonpos_of_nonpos_of_nonneg (of_decide_eq_true (bA.mp h).1) (p 0)) (ve k _ (fun n=>p (n+1)) (bA.mp h).2)
theorem uu:∀ (a:List Int) (f:Nat→Int),tO (fun a=>decide (a=0)) a=true→sm f a=0
  | [],_,_=>rfl
  | a::k,f,h=>by
    show a*f 0+sm _ k=0
    rw [uu k _ (bA.mp h).2,of_decide_eq_true (bA.mp h).1,Int.zero_mul]; rfl
noncomputable def cf (c:LC) (n:Nat):Int:=Nat.rec 1 (fun n _=>(c.at n:Int)) n
noncomputable def IP.val (c:LC) (e:IC) (p:IP):Int:=sm (cf c) p.c+sm e.at p.e
theorem IP.val_a (c:LC) (e:IC) (p q:IP):(p.a q).val c e=p.val c e+q.val c e:=by
  show sm _ (qR _ _)+sm _ (qR _ _)=_
  rw [oW,oW,ad4]; rfl
theorem IP.val_m (c:LC) (e:IC) (i:Int) (p:IP):(p.m i).val c e=i*p.val c e:=by
  show sm _ (qJ _ _)+sm _ (qJ _ _)=_
  rw [pH,pH,← Int.mul_add]; rfl
theorem LX.p_d (c:LC):∀ x:LX,sm (cf c) x.p=((x.d c:Nat):Int)
  | .v n=>(congrArg (0*1+·) (sq n _)).trans (Int.zero_add _)
  | .k n=>(Int.add_zero _).trans (Int.mul_one _)
  | .a x y=>(oW _ _ _).trans (congr (congrArg HAdd.hAdd (LX.p_d c x)) (LX.p_d c y))
  | .m n x=>(pH _ _ _).trans (congrArg ((n:Int)*·) (LX.p_d c x))
theorem IX.p_d (c:LC) (e:IC):∀ x:IX,x.p.val c e=x.d c e
  | .v n=>(Int.zero_add _).trans (sq n _)
  | .k i=>(Int.add_zero _).trans ((Int.add_zero _).trans (Int.mul_one _))
  | .a x y=>(IP.val_a _ _ _ _).trans (congr (congrArg HAdd.hAdd (IX.p_d c e x)) (IX.p_d c e y))
  | .s x y=>((IP.val_a _ _ _ _).trans (congr (congrArg HAdd.hAdd (IX.p_d c e x)) (((IP.val_m _ _ _ _).trans (Int.neg_one_mul _)).trans (congrArg Neg.neg (IX.p_d c e y))))).trans Int.sub_eq_add_neg.symm
  | .m i x=>(IP.val_m _ _ _ _).trans (congrArg (i*·) (IX.p_d c e x))
  | .w x i=>((IP.val_m _ _ _ _).trans (Int.mul_comm _ _)).trans (congrArg (·*i) (IX.p_d c e x))
  | .g x=>((IP.val_m _ _ _ _).trans (Int.neg_one_mul _)).trans (congrArg Neg.neg (IX.p_d c e x))
  | .u x=>(Int.add_zero _).trans (LX.p_d c x)
theorem IP.st_val (c:LC) (e:IC) (D:IP) (k:Int) (x y:IX):(D.st k x y).val c e=D.val c e+k*(y.d c e - x.d c e):=by
  show (D.a ((y.p.a (x.p.m (-1))).m k)).val c e=_
  rw [IP.val_a,IP.val_m,IP.val_a,IP.val_m,IX.p_d,IX.p_d,Int.neg_one_mul]; rfl
theorem IP.st_le {c:LC} {e:IC} {D:IP} {k:Nat} {x y:IX} (h:x.d c e≤y.d c e) (q:(D.st k x y).val c e≤0):D.val c e≤0:=
  Int.le_trans (Int.le_add_of_nonneg_right (Int.mul_nonneg (Int.natCast_nonneg k) (Int.sub_nonneg.mpr h))) (IP.st_val c e D k x y▸q)
theorem IL.p_d (c:LC) (e:IC) {g:Prop}:∀ (l:IL) (D:IP),l.p D=true→(D.val c e≤0→g)→l.d c e g
  | .z,D,h,k=>k (Int.le_trans (Int.le_of_eq ((congrArg (sm (cf c) D.c+·) (uu D.e e.at (bA.mp h).2)).trans (Int.add_zero _))) (ve D.c _ (fun n=>Nat.rec (Int.zero_le_ofNat 1) (fun n _=>Int.natCast_nonneg _) n) (bA.mp h).1))
  | .c _ _ l,_,h,k=>fun u=>IL.p_d c e l _ h fun q=>k (IP.st_le (k:=1) u q)
  | .m _ _ _ l,_,h,k=>fun u=>IL.p_d c e l _ h fun q=>k (IP.st_le u q)
  | .u _ _ l,_,h,k=>fun u=>IL.p_d c e l _ h fun q=>k (IP.st_le (k:=1) (x:=.u _) (y:=.u _) (Int.ofNat_le.mpr u) q)
  | .o _ _ _ l,_,h,k=>fun u=>IL.p_d c e l _ h fun q=>k (IP.st_le (x:=.u _) (y:=.u _) (Int.ofNat_le.mpr u) q)
theorem IP.g0 {c:LC} {e:IC} {K:Nat} {x y:IX} (q:(IP.st ⟨[-(K:Int)],[]⟩ (K+1) y x).val c e≤0):x.d c e≤y.d c e:=by
  rw [IP.st_val,show IP.val c e ⟨[-(K:Int)],[]⟩=-(K:Int) from (Int.add_zero _).trans ((Int.add_zero _).trans (Int.mul_one _)),Int.add_mul,Int.one_mul] at q
  refine Int.not_lt.mp fun h=>?_
  have h2:=Int.mul_le_mul_of_nonneg_left (Int.sub_pos_of_lt h) (Int.natCast_nonneg K)
  omega
theorem wX (K:Nat) (c:LC) (e:IC) (l:IL) (x y:IX) (h:l.p (IP.st ⟨[-(K:Int)],[]⟩ (K+1) y x)=true):l.d c e (x.d c e≤y.d c e):=IL.p_d c e l _ h IP.g0
theorem ax (c:LC) (e:IC) (l:IL) (x y:IX) (h:l.p (IP.st ⟨[0],[]⟩ 1 y x)=true):l.d c e (x.d c e≤y.d c e):=IL.p_d c e l _ h (IP.g0 (K:=0))
theorem kN (c:LC) (e:IC) (l:IL) (x y:LX) (h:l.p (IP.st ⟨[0],[]⟩ 1 (.u y) (.u x))=true):l.d c e (x.d c≤y.d c):=IL.p_d c e l _ h fun q=>Int.ofNat_le.mp (IP.g0 (K:=0) (x:=.u x) (y:=.u y) q)
theorem lin (c:LC) (l:LL) (x y:LX) (h:l.i.p (IP.st ⟨[0],[]⟩ 1 (.u y) (.u x))=true):l.i.d c .z (x.d c≤y.d c):=kN c .z l.i x y h
theorem rp (K:Nat) (c:LC) (l:LL) (x y:LX) (h:l.i.p (IP.st ⟨[-(K:Int)],[]⟩ (K+1) (.u y) (.u x))=true):l.i.d c .z (x.d c≤y.d c):=IL.p_d c .z l.i _ h fun q=>Int.ofNat_le.mp (IP.g0 (x:=.u x) (y:=.u y) q)
theorem ly (c:LC) (e:IC) (l:IL) (h:l.p ⟨[1],[]⟩=true):l.d c e False:=IL.p_d c e l _ h fun q=>absurd q (by rw [show IP.val c e ⟨[1],[]⟩=1 from rfl]; decide)
theorem pX (c:LC) (l:LL) (h:l.i.p ⟨[1],[]⟩=true):l.i.d c .z False:=ly c .z l.i h
theorem cb {a b:Nat} (h:a=b):a≤b:=Nat.le_of_eq h
theorem cr {a b:Nat} (h:a=b):b≤a:=Nat.le_of_eq h.symm
theorem oh {a b:Int} (h:a=b):a≤b:=Int.le_of_eq h
theorem wR {a b:Int} (h:a=b):b≤a:=Int.le_of_eq h.symm
theorem f5 (a b:Nat):a≤(a - b)+b:=Nat.sub_le_iff_le_add.mp (Nat.le_refl _)
theorem eC {a b:Nat} (h:b≤a):(a - b)+b≤a:=Nat.le_of_eq (Nat.sub_add_cancel h)
theorem xp (a:Nat) {n:Nat} (h:Nat.blt 0 n=true):a % n+1≤n:=Nat.mod_lt a (Nat.le_of_ble_eq_true h)
theorem wS {n:Nat} (h:Nat.blt 0 n=true):(0:Int)<n:=Int.ofNat_lt.mpr (Nat.le_of_ble_eq_true h)
theorem id1 (a:Int) {n:Nat} (h:Nat.blt 0 n=true):(n:Int)*(a / (n:Int))≤a:=Int.mul_ediv_self_le (Int.ne_of_gt (wS h))
theorem id2 (a:Int) {n:Nat} (h:Nat.blt 0 n=true):a+1≤(n:Int)*(a / (n:Int))+n:=Int.lt_mul_ediv_self_add (wS h)
theorem xa (a:Int) {n:Nat} (h:Nat.blt 0 n=true):0≤a % (n:Int):=Int.emod_nonneg a (Int.ne_of_gt (wS h))
theorem xu (a:Int) {n:Nat} (h:Nat.blt 0 n=true):a % (n:Int)+1≤n:=Int.emod_lt_of_pos a (wS h)
theorem rD {a:Int} (h:0≤a):(a.toNat:Int)≤a:=Int.le_of_eq (Int.toNat_of_nonneg h)
theorem qE (e:Int):(e.natAbs:Int)=e∨(e.natAbs:Int)=-e:=(Int.natAbs_eq e).elim (fun q=>.inl q.symm) fun q=>.inr (((congrArg Neg.neg q).trans (Int.neg_neg _)).symm)
theorem eH {e:Int} {b:Nat} (h:e≤(b:Int)) (k:-e≤(b:Int)):e.natAbs≤b:=(qE e).elim (fun q=>Int.ofNat_le.mp (q▸h)) fun q=>Int.ofNat_le.mp (q▸k)
theorem we {e:Int} {b:Nat} (h:e<(b:Int)) (k:-e<(b:Int)):e.natAbs<b:=(qE e).elim (fun q=>Int.ofNat_lt.mp (q▸h)) fun q=>Int.ofNat_lt.mp (q▸k)
noncomputable def xj (x:Int):Nat→Int→Prop | 0,i=>x=i | n+1,i=>x=i∨xj x n (i+1)
theorem mA {x:Int}:∀ (n:Nat) (i:Int),i≤x→x<i+((n+1:Nat):Int)→xj x n i
  | 0,i,h,k=>Int.le_antisymm (Int.le_of_lt_add_one k) h
  | n+1,i,h,k=>(Int.lt_or_eq_of_le h).elim (fun q=>.inr (mA n (i+1) q (by rw [Int.add_assoc,Int.add_comm 1]; exact k))) fun q=>.inl q.symm
theorem ors_of (n:Nat) {x:Int} (h:0≤x∧x<((n+1:Nat):Int)):xj x n 0:=mA n 0 h.1 (by rw [Int.zero_add]; exact h.2)
noncomputable def orN (x:Nat):Nat→Nat→Prop | 0,i=>x=i | n+1,i=>x=i∨orN x n (i+1)
theorem orN_of {x:Nat}:∀ (n i:Nat),i≤x→x≤i+n→orN x n i
  | 0,_,h,k=>Nat.le_antisymm k h
  | n+1,i,h,k=>(Nat.lt_or_eq_of_le h).elim (fun q=>.inr (orN_of n (i+1) q (by rw [Nat.add_assoc,Nat.add_comm 1]; exact k))) fun q=>.inl q.symm
theorem rj {α β γ δ ε ζ η:Type} {P1 P2 P3 P4 P5 P6 P7 P8 P9 P10 P11:α→β→γ→δ→ε→ζ→η→Prop} {G:Prop} (x:∃ a b c d e f g,P1 a b c d e f g∧P2 a b c d e f g∧P3 a b c d e f g∧P4 a b c d e f g∧P5 a b c d e f g∧P6 a b c d e f g∧P7 a b c d e f g∧P8 a b c d e f g∧P9 a b c d e f g∧P10 a b c d e f g∧P11 a b c d e f g) (k:∀ a b c d e f g,P1 a b c d e f g→P2 a b c d e f g→P3 a b c d e f g→P4 a b c d e f g→P5 a b c d e f g→P6 a b c d e f g→P7 a b c d e f g→P8 a b c d e f g→P9 a b c d e f g→P10 a b c d e f g→P11 a b c d e f g→G):G:=x.elim fun a x=>x.elim fun b x=>x.elim fun c x=>x.elim fun d x=>x.elim fun e x=>x.elim fun f x=>x.elim fun g x=>k a b c d e f g x.1 x.2.1 x.2.2.1 x.2.2.2.1 x.2.2.2.2.1 x.2.2.2.2.2.1 x.2.2.2.2.2.2.1 x.2.2.2.2.2.2.2.1 x.2.2.2.2.2.2.2.2.1 x.2.2.2.2.2.2.2.2.2.1 x.2.2.2.2.2.2.2.2.2.2
theorem tQ {α β γ δ ε ζ η θ:Type} {P1 P2 P3 P4 P5 P6 P7 P8 P9:α→β→γ→δ→ε→ζ→η→θ→Prop} {G:Prop} (x:∃ a b c d e f g h,P1 a b c d e f g h∧P2 a b c d e f g h∧P3 a b c d e f g h∧P4 a b c d e f g h∧P5 a b c d e f g h∧P6 a b c d e f g h∧P7 a b c d e f g h∧P8 a b c d e f g h∧P9 a b c d e f g h) (k:∀ a b c d e f g h,P1 a b c d e f g h→P2 a b c d e f g h→P3 a b c d e f g h→P4 a b c d e f g h→P5 a b c d e f g h→P6 a b c d e f g h→P7 a b c d e f g h→P8 a b c d e f g h→P9 a b c d e f g h→G):G:=x.elim fun a x=>x.elim fun b x=>x.elim fun c x=>x.elim fun d x=>x.elim fun e x=>x.elim fun f x=>x.elim fun g x=>x.elim fun h x=>k a b c d e f g h x.1 x.2.1 x.2.2.1 x.2.2.2.1 x.2.2.2.2.1 x.2.2.2.2.2.1 x.2.2.2.2.2.2.1 x.2.2.2.2.2.2.2.1 x.2.2.2.2.2.2.2.2
structure Mk (n:Nat):Prop
end
section
section
variable {α β:Type} {M:Model} {A:Around} {E:Value→Shared→Prop} {s:Shared}
theorem bx {c:Bool} {a b:Sem α} {Q:α→Shared→Prop} (hc:c=false) (h:aw M A b Q E s):aw M A (if c=true then a else b) Q E s:=by subst hc; exact h
end
section
variable {prog:Program} {w:World} {A:Around} {E:Value→Shared→Prop} {s:Shared}
theorem bQ {R:Result→Shared→Prop} {id:String} {args:Args} {b:Builtin} (hb:entryFor table id=some b)
    (h:aw (model prog w) (A.under (.builtin id args)) (b args) (fun fin s'=>match fin with | .done f=>R (.ok f) s' | .again c'=>c'.quiet=true∧qX c'∧aP (model prog w) A c' R s') (fun e s'=>R (.error e) s') s) :
    aP (model prog w) A (.builtin id args) R s:=by
  refine aR ?_
  show aw _ _ (match entryFor table id with | some b=>b args | none=>unsupported ((withoutEnding? id "#data").getD id)) _ _ s
  rw [hb]; exact h
end
section
open Builtin
theorem oJ {b:Array UInt8} {t:Tok} {id:String}:Bytes.takeBufferQuiet? id (.bytes b t) 0=pure (some (b,none)):=by
  unfold Bytes.takeBufferQuiet? Bytes.takeBuffer?
  rw [KBy.special_eq KBy.look_buffer,KBy.own_buffer]
  have e:∀ f,Bytes.buffer? id (.bytes b t) f=pure (some b):=by
    intro f
    unfold Bytes.buffer?
    rw [KBy.special_eq KBy.look_buffer,KBy.own_buffer,KBy.own_release]
    kernel_rfl
  rw [e]
  kernel_rfl
theorem d4:Slot "bytes" "join" "bytes.join":=
  .of (owner:="bytes") (n:="join") (by rw [typeLookup_type,builtinLookup_eq_fast]; kernel_rfl) (by decide +kernel) (by decide +kernel) (by decide +kernel)
    (by first | exact .inl (by decide +kernel) | exact .inr (by decide +kernel)) (by rw [isSubtype_type]; kernel_rfl)
theorem gU:entryFor table "bytes.join"=some Builtin.«bytes.join»:=by first | exact entryFor_of_fast (by kernel_rfl) | exact entryFor_of_tree (by kernel_rfl)
theorem jZ (a b:Value):argsOk "bytes.join" ⟨[a,b],[]⟩:=by unfold argsOk; kernel_rfl
theorem kc:typeOf (.builtin "bytes.join")=pure (.type "method_descriptor"):=by with_unfolding_all rfl
inductive aB:List Value→List (Array UInt8)→Prop
  | nil:aB [] []
  | cons (b:Array UInt8) (t:Tok) {vs bs}:aB vs bs→aB (.bytes b t::vs) (b::bs)
theorem aB.length {vs:List Value} {bs:List (Array UInt8)} (h:aB vs bs):vs.length=bs.length:=by
  induction h with
  | nil=>rfl
  | cons b t _ ih=>simp [ih]
theorem aB.get {vs:List Value} {bs:List (Array UInt8)} (h:aB vs bs):∀ {i:Nat} {b:Array UInt8},bs[i]?=some b→∃ t,vs[i]?=some (.bytes b t):=by
  induction h with
  | nil=>intro i b e; simp at e
  | cons b t _ ih=>
    intro i b' e
    cases i with
    | zero=>simp at e; subst e; exact ⟨t,by simp⟩
    | succ i=>simp at e; simpa using ih e
noncomputable def ah (bs:List (Array UInt8)):Nat:=(bs.map (·.size)).sum
theorem pK:∀ (bs:List (Array UInt8)) (n:Nat),(bs.toArray.foldl (fun x1 x2=>x1+x2.size) n)=n+ah bs:=by
  intro bs n
  rw [List.foldl_toArray]
  induction bs generalizing n with
  | nil=>simp [ah]
  | cons b r ih=>rw [List.foldl_cons,ih]; simp [ah]; exact Nat.le_antisymm (lin (.c _ (.c _ (.c _ .z))) .z (.a (.a (.v 0) (.v 1)) (.v 2)) (.a (.v 0) (.a (.v 1) (.v 2))) rfl ) (lin (.c _ (.c _ (.c _ .z))) .z (.a (.v 0) (.a (.v 1) (.v 2))) (.a (.a (.v 0) (.v 1)) (.v 2)) rfl )
theorem ek (sep:Array UInt8):∀ (l:List (Array UInt8)) (k:Nat) (o:Array UInt8),((l.zipIdx k).foldl (fun out (p,i)=>(if i > 0 then out++sep else out)++p) o).size≤o.size+sep.size*l.length+ah l
  | [],k,o=>by simp [ah]
  | b::r,k,o=>by
    rw [List.zipIdx_cons,List.foldl_cons]
    refine Nat.le_trans (ek sep r (k+1) _) ?_
    have e:sep.size*(b::r).length=sep.size*r.length+sep.size:=by rw [List.length_cons,Nat.mul_succ]
    have e2:ah (b::r)=b.size+ah r:=by simp [ah]
    rw [e,e2]
    dsimp only
    split <;> simp only [Array.size_append] <;> (first | exact lin (.c _ (.c _ (.c _ (.c _ (.c _ .z))))) .z (.a (.a (.a (.a (.v 4) (.v 1)) (.v 2)) (.v 0)) (.v 3)) (.a (.a (.v 4) (.a (.v 0) (.v 1))) (.a (.v 2) (.v 3))) rfl  | exact lin (.c _ (.c _ (.c _ (.c _ (.c _ .z))))) .z (.a (.a (.a (.v 4) (.v 2)) (.v 0)) (.v 3)) (.a (.a (.v 4) (.a (.v 0) (.v 1))) (.a (.v 2) (.v 3))) rfl )
theorem dk (sep:Array UInt8) (bs:List (Array UInt8)):(Bytes.joined sep bs).size≤sep.size*bs.length+ah bs:=by
  have:=ek sep bs 0 #[]
  simpa [Bytes.joined] using this
section
variable {prog:Program} {w:World} {A:Around} {E:Value→Shared→Prop} {s:Shared} {Q:Value→Shared→Prop}
theorem hH {keep:List Value} {M:Model} {A:Around} {E:Value→Shared→Prop} {Q:Unit→Shared→Prop}:∀ {taken:List (Value×Option Value)} {s:Shared},(∀ p∈taken,p.2=none)→Q () s→wpAny M A (Bytes.joinLetGo taken keep) Q E s
  | [],s,_,h=>by unfold Bytes.joinLetGo; exact wpAny_pure h
  | (x,w)::r,s,hn,h=>by
    have e:w=none:=hn _ (.head _)
    subst e
    unfold Bytes.joinLetGo
    dsimp only
    refine wpAny_bind (wpAny_letGo ?_)
    exact hH (fun p hp=>hn p (.tail _ hp)) h
theorem wH {α:Type} {W:Array Value} (h:∀ x,W≠#[x]) (f:Value→α) (g:Array Value→α):Bytes.joinM.match_1 (fun z_=>α) W f g=g W:=by
  rcases W with ⟨l⟩
  cases l with
  | nil=>rfl
  | cons x r=>
    cases r with
    | nil=>exact absurd rfl (h x)
    | cons y r=>rfl
theorem qj {B:List (Array UInt8)} {s s':Shared} {j:Nat} {rest:List Nat} {st:Array (Array UInt8)×List (Value×Option Value)} {G:Shared→Prop}
    (h:s'=s∧∃ i,j::rest=List.range' i (B.length - i)∧i≤B.length∧st.1=(B.take i).toArray∧∀ p∈st.2,p.2=none∧p.1.onHeap=false)
    (k:j<B.length→rest=List.range' (j+1) (B.length - (j+1))→st.1=(B.take j).toArray→(∀ p∈st.2,p.2=none∧p.1.onHeap=false)→G s):G s':=by
  obtain ⟨rfl,i,hr,hi,hp,ht⟩:=h
  have hiB:i<B.length:=by
    rcases Nat.lt_or_ge i B.length with q | q
    · exact q
    · rw [show B.length - i=0 by omega] at hr; cases hr
  rw [show B.length - i=(B.length - (i+1))+1 by exact Nat.le_antisymm (lin (.c _ (.c _ (.c _ (.c _ .z)))) (.c (.a (.v 2) (.v 0)) (.v 1) (.c (.v 1) (.a (.v 3) (.a (.v 0) (.k 1))) .z)) (.v 2) (.a (.v 3) (.k 1)) rfl (eC (lin (.c _ (.c _ .z)) (.c (.v 0) (.v 1) .z) (.v 0) (.v 1) rfl hi)) (f5 _ _)) (lin (.c _ (.c _ (.c _ (.c _ .z)))) (.c (.v 1) (.a (.v 2) (.v 0)) (.c (.a (.v 3) (.a (.v 0) (.k 1))) (.v 1) .z)) (.a (.v 3) (.k 1)) (.v 2) rfl (f5 _ _) (eC (lin (.c _ (.c _ .z)) (.c (.a (.v 0) (.k 1)) (.v 1) .z) (.a (.v 0) (.k 1)) (.v 1) rfl hiB))),List.range'_succ] at hr
  injection hr with h1 h2
  subst h1
  exact k hiB h2 hp ht
theorem sy {B:List (Array UInt8)} {s s':Shared} {st:Array (Array UInt8)×List (Value×Option Value)} {G:Shared→Prop}
    (h:s'=s∧∃ i,[]=List.range' i (B.length - i)∧i≤B.length∧st.1=(B.take i).toArray∧∀ p∈st.2,p.2=none∧p.1.onHeap=false)
    (k:(∀ p∈st.2,p.2=none∧p.1.onHeap=false)→st.1=B.toArray→G s):G s':=by
  obtain ⟨rfl,i,hr,hi,hp,ht⟩:=h
  have hil:i=B.length:=by
    rcases Nat.lt_or_ge i B.length with q | q
    · rw [show B.length - i=(B.length - (i+1))+1 by exact Nat.le_antisymm (lin (.c _ (.c _ (.c _ (.c _ .z)))) (.c (.a (.v 2) (.v 0)) (.v 1) (.c (.v 1) (.a (.v 3) (.a (.v 0) (.k 1))) .z)) (.v 2) (.a (.v 3) (.k 1)) rfl (eC (lin (.c _ (.c _ .z)) (.c (.v 0) (.v 1) .z) (.v 0) (.v 1) rfl hi)) (f5 _ _)) (lin (.c _ (.c _ (.c _ (.c _ .z)))) (.c (.v 1) (.a (.v 2) (.v 0)) (.c (.a (.v 3) (.a (.v 0) (.k 1))) (.v 1) .z)) (.a (.v 3) (.k 1)) (.v 2) rfl (f5 _ _) (eC (lin (.c _ (.c _ .z)) (.c (.a (.v 0) (.k 1)) (.v 1) .z) (.a (.v 0) (.k 1)) (.v 1) rfl q))),List.range'_succ] at hr; cases hr
    · exact Nat.le_antisymm (lin (.c _ (.c _ .z)) (.c (.v 0) (.v 1) .z) (.v 0) (.v 1) rfl hi) (lin (.c _ (.c _ .z)) (.c (.v 1) (.v 0) .z) (.v 1) (.v 0) rfl q)
  subst hil
  rw [List.take_length] at hp
  exact k ht hp
theorem gN {l:Addr} {sep:Array UInt8} {ts:Tok} {vs:List Value} {bs:List (Array UInt8)} (hb:aB vs bs) (hz:sep.size*bs.length+ah bs≤16777216) :
    MeetsIn prog w (Builtin.«bytes.join» ⟨[.bytes sep ts,.ref l],[]⟩) (fun _ R s=>s.heap.IsList l vs.toArray∧∀ t k,R (.ok (.ret (.bytes (Bytes.joined sep bs) t))) { s with toks:=k }):=by
  intro A R s ⟨hl,hR⟩
  have hT:s.TypeIs (.ref l) "list":=hl.typeIs
  obtain ⟨ol,hol,hoc,nl,hod⟩:=id hl
  have hgo:∀ {Q':Option (Array Value)→Shared→Prop} {A':Around} {E':Value→Shared→Prop} {s':Shared},s'.heap=s.heap→Q' (some vs.toArray) s'→wpAny (model prog w) A' (seqItems? (.ref l)) Q' E' s':=by
    intro Q' A' E' s' he h
    unfold seqItems?
    refine wpAny_bind (wpAny_load (he▸hol) ?_)
    rw [hod]
    exact wpAny_pure h
  show wpAny _ _ (Bytes.joinM .bytes ⟨[.bytes sep ts,.ref l],[]⟩) _ _ s
  unfold Bytes.joinM
  refine wpAny_bind (wpAny_of_eq (a:=(.bytes sep ts,.ref l)) rfl ?_)
  refine bm_if_true rfl ?_
  refine wpAny_bind ?_
  unfold Bytes.joinItems
  refine wpAny_bind (wpAny_typeOf hT ?_)
  refine bm_if_true rfl ?_
  refine wpAny_pure ?_
  refine wpAny_bind (hgo rfl ?_)
  refine bm_if_true rfl ?_
  have hlen:=hb.length
  have hgd:∀ i b,bs[i]?=some b→∃ t,∀ d,vs.toArray.getD i d=Value.bytes b t:=by
    intro i b e
    obtain ⟨t,ht⟩:=hb.get e
    exact ⟨t,fun d=>by rw [Array.getD_eq_getD_getElem?,List.getElem?_toArray,ht]; rfl⟩
  have hsz:vs.toArray.size=bs.length:=by simpa using hlen
  have one:∀ (b:Array UInt8),Bytes.joined sep [b]=b:=fun b=>by simp [Bytes.joined]
  have hb':=hb
  generalize hW:vs.toArray=W at hgo hgd hsz ⊢
  clear hl hol hod hlen hT
  by_cases h1:∃ x,W=#[x]
  · obtain ⟨x,rfl⟩:=h1
    have hv:vs=[x]:=by simpa using congrArg Array.toList hW
    subst hv
    cases hb with
    | cons b t hb=>
    cases hb with
    | nil=>
      refine wpAny_bind (wpAny_typeOf (typeIs_bytes s b t) ?_)
      refine bm_if_true rfl ?_
      refine wpAny_bind (wpAny_rule ?_)
      refine wpAny_pure ?_
      rw [one] at hR
      exact hR t s.toks
  · rw [wH fun x e=>h1 ⟨x,e⟩]
    clear hW hb' hb h1
    generalize hB:bs=B at hgd hsz hR hz ⊢
    refine wpAny_bind ?_
    simp only [Std.Legacy.Range.forIn_eq_forIn_range']
    refine wpAny_forIn_list _ (fun rest st s'=>s'=s∧∃ i,rest=List.range' i (B.length - i)∧i≤B.length∧st.1=(B.take i).toArray∧∀ p∈st.2,p.2=none∧p.1.onHeap=false) _ ?turn ?fin _ _ ?start
    case start=>exact ⟨rfl,0,by simp [Std.Legacy.Range.size,← hsz],Nat.zero_le _,by simp,fun _ h=>nomatch h⟩
    case turn=>
      refine fun j rest st s' h=>qj (G:=fun s'=>wpAny _ _ _ _ _ s') h fun hiB hr hp ht=>?_
      subst hr
      obtain ⟨tx,hxd⟩:=hgd _ _ (List.getElem?_eq_getElem hiB)
      refine wpAny_bind (hgo rfl ?_)
      refine bm_if_false (by rw [Bool.or_eq_false_iff]; exact ⟨rfl,List.any_eq_false.mpr fun p hp=>by rw [(ht p hp).2]; exact Bool.false_ne_true⟩) ?_
      rw [hxd]
      refine wpAny_bind (wpAny_holding (wpAny_of_eq oJ ?_))
      refine wpAny_bind (hgo rfl ?_)
      refine bm_if_false (by simp) ?_
      refine wpAny_pure ⟨rfl,j+1,rfl,hiB,?_,?_⟩
      · dsimp only
        rw [hp,List.push_toArray,List.take_add_one,List.getElem?_eq_getElem hiB]; rfl
      · dsimp only
        intro p hp'
        rcases List.mem_append.mp hp' with q | q
        · exact ht p q
        · rw [List.mem_singleton.mp q]; exact ⟨rfl,rfl⟩
    case fin=>
      refine fun st s' h=>sy (G:=fun s'=>wpAny _ _ _ _ _ s') h fun ht hp=>?_
      refine wpAny_bind (wpAny_of_eq (a:=sep) rfl ?_)
      refine bm_if_false (KBy.tooLong_not (by rw [hp,pK]; refine Nat.le_trans (Nat.add_le_add_right (Nat.mul_le_mul_left _ (Nat.sub_le _ _)) _) ?_; simpa using hz)) ?_
      refine wpAny_bind (wpAny_mkBytes ?_ ?_)
      · refine wpAny_bind (wpAny_holding (wpAny_point ?_))
        refine wpAny_bind (hH (fun p hp=>(ht p hp).1) ?_)
        exact wpAny_pure (by rw [hp]; exact hR _ _)
      · rw [hp,sizeLine_eq]; exact Nat.le_trans (dk _ _) hz
end
end
section
open Builtin
theorem io:mroOf (.type "bytearray")=pure [.type "bytearray",.type "object"]:=by rw [mroOf_type]; kernel_rfl
theorem rI:typeLookup (.type "bytearray") "__new__"=pure (some (.builtin "bytearray.__new__")):=by rw [typeLookup_type,builtinLookup_eq_fast]; kernel_rfl
theorem d0:Slot "bytearray" "__init__" "bytearray.__init__":=
  .of (owner:="bytearray") (n:="__init__") (by rw [typeLookup_type,builtinLookup_eq_fast]; kernel_rfl) (by decide +kernel) (by decide +kernel) (by decide +kernel)
    (by first | exact .inl (by decide +kernel) | exact .inr (by decide +kernel)) (by rw [isSubtype_type]; kernel_rfl)
theorem eK:isSubtype (.type "bytearray") (.type "bytearray")=pure true:=by rw [isSubtype_type]; kernel_rfl
theorem dD:TypeCalled "bytearray" "bytearray.__new__" "bytearray.__init__":=
  ⟨by decide +kernel,by decide +kernel,⟨_,_,io⟩,madeBy_type io rI (by decide +kernel),by decide +kernel,eK,d0⟩
theorem gS (a:Value):checkTypeCall "bytearray" ⟨[a],[]⟩=pure ():=by kernel_rfl
theorem iG (a:Value):checkBuiltinCall "bytearray.__new__" ⟨[.type "bytearray",a],[]⟩=pure ():=by kernel_rfl
theorem gc:entryFor table "bytearray.__new__"=some Builtin.«list.__new__»:=entryFor_alias (id':="list.__new__") (by kernel_rfl) rfl (by decide +kernel) (by kernel_rfl)
theorem cX:plainId "bytearray.__new__"=true:=by decide +kernel
theorem nU:("bytearray.__new__".splitOn ".__new__").headD "" = "bytearray":=by simp +decide [String.splitOn,String.splitOnAux]
theorem ff:entryFor table "bytearray.__init__"=some Builtin.«bytearray.__init__»:=by first | exact entryFor_of_fast (by kernel_rfl) | exact entryFor_of_tree (by kernel_rfl)
theorem fh:plainId "bytearray.__init__"=true:=by decide +kernel
theorem fL (a b:Value):argsOk "bytearray.__init__" ⟨[a,b],[]⟩:=by unfold argsOk; kernel_rfl
theorem jb:typeLookup (.type "bytearray") "__release_buffer__"=pure (some (.builtin "bytearray.__release_buffer__")):=by rw [typeLookup_type,builtinLookup_eq_fast]; kernel_rfl
theorem dw:typeLookup (.type "bytearray") "__buffer__"=pure (some (.builtin "bytearray.__buffer__")):=by rw [typeLookup_type,builtinLookup_eq_fast]; kernel_rfl
theorem gx:typeLookup (.type "bytearray") "__bytes__"=pure none:=by rw [typeLookup_type,builtinLookup_eq_fast]; kernel_rfl
theorem gq:typeLookup (.type "bytearray") "__index__"=pure none:=by rw [typeLookup_type,builtinLookup_eq_fast]; kernel_rfl
theorem g9:typeLookup (.type "bytes") "__index__"=pure none:=by rw [typeLookup_type,builtinLookup_eq_fast]; kernel_rfl
theorem qw (v:Value):Builtin.Bytes.bindOptional "bytearray.__init__" "bytearray" ["source","encoding","errors"] [v] []=pure [some v,none,none]:=by kernel_rfl
theorem kU {b:Array UInt8} {t:Tok} {id:String} (f:Bool):Bytes.buffer? id (.bytes b t) f=pure (some b):=by
  unfold Bytes.buffer?
  rw [KBy.special_eq KBy.look_buffer,KBy.own_buffer,KBy.own_release]
  kernel_rfl
noncomputable abbrev a8 (b:Array UInt8):Obj:={ cls:=.type "bytearray",data:=.bytearray b }
section
variable {prog:Program} {w:World} {A:Around} {E:Value→Shared→Prop} {s:Shared}
theorem gt (a:Value) {Q₁:Value→Shared→Prop} (h:Q₁ (.ref s.heap.objs.size) { s with heap:=s.heap.push (a8 #[]) }) :
    codeAny (model prog w) A (.call (.builtin "bytearray.__new__") ⟨[.type "bytearray",a],[]⟩) (wants Q₁ E) s:=by
  refine codeAny_of_tree ?_
  show wpAny _ A.in1 (do checkBuiltinCall "bytearray.__new__" ⟨[.type "bytearray",a],[]⟩; again (.builtin "bytearray.__new__" ⟨[.type "bytearray",a],[]⟩)) _ _ s
  refine wpAny_bind (wpAny_of_eq (iG a) (wpAny_pure ⟨plainId_quiet cX _,codeAny_builtin_stack gc rfl fun p st=>?_⟩))
  rw [Around.under_plainId cX _]
  have hsub:=eK
  have hown:=nU
  obtain ⟨hp,g,d,tk,os⟩:=s
  simp only [hown]
  wp_walk
  exact h
theorem cH {v:Value} {Q:Bool→Shared→Prop} {M:Model} (hT:s.TypeIs v "bytearray") (h:Q false s):wpAny M A (Bytes.ownRelease v) Q E s:=by
  unfold Bytes.ownRelease Bytes.slotIsOwn
  refine wpAny_bind (wpAny_bind (wpAny_specialOf hT jb ?_))
  dsimp only
  refine bm_if_false (by decide +kernel) ?_
  have e:("bytearray.__release_buffer__".dropRight ("__release_buffer__".length+1)) = "bytearray":=by decide +kernel
  rw [e]
  exact wpAny_isInstance hT eK (wpAny_pure h)
theorem gv {a:Addr} {b:Array UInt8} {f:Array UInt8→Array UInt8} {Q:Unit→Shared→Prop} {M:Model} (ho:s.heap.get? a=some (a8 b)) (hz:(f b).size≤16777216)
    (h:∀ h',Heap.SameBut a s.heap h'→h'.get? a=some (a8 (f b))→Q () { s with heap:=h' }):wpAny M A (Bytes.write (.ref a) f) Q E s:=by
  show wpAny _ _ (updateBytearray a f) _ _ _
  unfold updateBytearray
  refine wpAny_bind (wpAny_load ho ?_)
  show wpAny _ _ (update a (Obj.mapBytearray f)>>=fun z_=>lookBehind a) _ _ _
  refine wpAny_bind (wpAny_update ho ?_)
  have e:(s.heap.update a (Obj.mapBytearray f)).get? a=some (a8 (f b)):=Heap.get?_update_self (Obj.mapBytearray f) ho rfl
  refine wpAny_lookBehind e ?_ (h _ (Heap.SameBut.update ..) e)
  show (if (f b).size > sizeLine then some "bytearray:memory" else none)=none
  rw [if_neg]
  rw [sizeLine_eq]; exact fun q=>pX (.c _ .z) (.c (.v 0) (.k 16777216) (.c (.a (.k 16777216) (.k 1)) (.v 0) .z)) rfl hz q
theorem gH {a:Addr} {b:Array UInt8} {t:Tok} (ho:s.heap.get? a=some (a8 #[])) (hz:b.size≤16777216) :
    aw (model prog w) A (Builtin.«bytearray.__init__» ⟨[.ref a,.bytes b t],[]⟩)
      (fun fin s'=>∃ h',fin=.done (.ret .none)∧s'={ s with heap:=h' }∧(∀ x o,x≠a→s.heap.get? x=some o→h'.get? x=some o)∧h'.get? a=some (a8 b)) E s:=by
  have hT:s.TypeIs (.ref a) "bytearray":=⟨_,ho,rfl⟩
  unfold Builtin.«bytearray.__init__»
  refine ab (cH hT ?_)
  refine bx rfl ?_
  refine ab (wpAny_of_eq (qw _) ?_)
  dsimp only
  refine ab (wpAny_of_eq (a:=()) rfl ?_)
  refine ab (wpAny_of_eq (a:=()) rfl ?_)
  refine au ?_
  show aw _ _ (Bytes.exported (.ref a)>>=fun b=>_) _ _ _
  refine au (d5 ?_)
  refine aD ?_
  refine wpAny_bind (wpAny_bind (wpAny_load ho (wpAny_pure (wpAny_pure ?_))))
  refine aD ?_
  refine bm_if_false rfl ?_
  refine wpAny_bind (gv ho (by simp) fun h' hs he=>?_)
  refine wpAny_bind (wpAny_of_eq (a:=none) rfl ?_)
  refine bm_if_false rfl ?_
  refine wpAny_bind (bm_if_false rfl (bm_if_false rfl (wpAny_pure ?_)))
  refine wpAny_bind (wpAny_specialOf (typeIs_bytes _ b t) g9 ?_)
  refine bm_if_false rfl ?_
  refine wpAny_bind (wpAny_of_eq (kU true) ?_)
  dsimp only
  refine wpAny_bind (wpAny_rule ?_)
  refine wpAny_bind (gv he hz fun h2 hs2 he2=>?_)
  exact wpAny_pure ⟨h2,rfl,rfl,fun x o hx e=>(hs2.2 x hx).trans ((hs.2 x hx).trans e),he2⟩
theorem oF {b:Array UInt8} {t:Tok} {Q:Value→Shared→Prop} (hz:b.size≤16777216)
    (h:∀ D h',(∀ x o,s.heap.get? x=some o→h'.get? x=some o)→h'.get? D=some (a8 b)→s.heap.get? D=none→s.heap.objs.size≤D→Q (.ref D) { s with heap:=h' }) :
    aw (model prog w) A (call (.type "bytearray") [.bytes b t]) Q E s:=by
  have hmade:=dD.made
  have h1:=dD.notType
  have h2:=dD.canCreate
  refine bi (aR ?_)
  show aw _ _ (callAny (.type "bytearray") _) _ _ _
  refine wpC_pure ⟨Code.quiet_builtin _ (by decide +kernel),by show ch.contains "type.__call__"=false; decide +kernel,bQ F.entry_type_call ?_⟩
  rw [Around.under_plain (weight_type_call_type "bytearray" [.bytes b t] []) rfl]
  unfold Builtin.«type.__call__»
  dsimp only
  refine bx h1 ?_
  refine bx h2 ?_
  refine ab (wpAny_of_eq (gS _) ?_)
  refine ab (wpAny_of_eq io ?_)
  refine bx rfl ?_
  refine ab (wpAny_of_eq hmade ?_)
  dsimp only
  refine ab (wpAny_pure ?_)
  refine ab (wpAny_holding (wpAny_call (codeAny_mono (gt (E:=fun z_ z_=>False) (.bytes b t) (Q₁:=fun v s'=>v=.ref s.heap.objs.size∧s'={ s with heap:=s.heap.push (a8 #[]) }) ⟨rfl,rfl⟩) fun r s' hr=>?_)))
  cases r with
  | error e=>exact hr.elim
  | ok fl=>
  cases fl with
  | ret v=>
    obtain ⟨rfl,rfl⟩:=hr
    have ho:(s.heap.push (a8 #[])).get? s.heap.objs.size=some (a8 #[]):=Heap.get?_push_size _ rfl
    have hT:({ s with heap:=s.heap.push (a8 #[]) }:Shared).TypeIs (.ref s.heap.objs.size) "bytearray":=⟨_,ho,rfl⟩
    refine ab (wpAny_isInstance hT eK ?_)
    refine bx rfl ?_
    refine au (aL ?_)
    simp only [callSpecial?]
    refine ab (wpAny_specialOf hT d0.lookup ?_)
    simp only [d0.bind]
    refine aL (ab (wpAny_pure (au ?_)))
    refine bi (aR ?_)
    show aw _ A.in1.in1 (do checkBuiltinCall "bytearray.__init__" ⟨[.ref s.heap.objs.size,.bytes b t],[]⟩; again (.builtin "bytearray.__init__" ⟨[.ref s.heap.objs.size,.bytes b t],[]⟩)) _ _ _
    refine ab (d0.check _ _ _ _ _ _ _ _ hT (fL _ _) ?_)
    refine wpC_pure ⟨plainId_quiet fh _,by show ch.contains "bytearray.__init__"=false; decide +kernel,bQ ff ?_⟩
    refine aJ (gH (E:=fun z_ z_=>False) (s:={ s with heap:=s.heap.push (a8 #[]) }) (a:=s.heap.objs.size) ho hz) ?_ fun _ _ x=>x.elim
    rintro fin s' ⟨h',rfl,rfl,hk,he⟩
    refine wpC_pure ?_
    refine bx rfl ?_
    exact wpC_pure (h _ h' (fun x o e=>hk x o (Nat.ne_of_lt (Heap.lt_size e)) (Heap.get?_push_of_some _ e)) he (Heap.get?_none_of_le (Nat.le_refl _)) (Nat.le_refl _))
  | _=>exact hr.elim
end
end
section
open Builtin
theorem eQ:Slot "bytearray" "__getitem__" "bytearray.__getitem__":=
  .of (owner:="bytearray") (n:="__getitem__") (by rw [typeLookup_type,builtinLookup_eq_fast]; kernel_rfl) (by decide +kernel) (by decide +kernel) (by decide +kernel)
    (by first | exact .inl (by decide +kernel) | exact .inr (by decide +kernel)) (by rw [isSubtype_type]; kernel_rfl)
theorem du:entryFor table "bytearray.__getitem__"=some Builtin.«bytearray.__getitem__»:=by first | exact entryFor_of_fast (by kernel_rfl) | exact entryFor_of_tree (by kernel_rfl)
theorem dN (a b:Value):argsOk "bytearray.__getitem__" ⟨[a,b],[]⟩:=by unfold argsOk; kernel_rfl
section
variable {prog:Program} {w:World} {A:Around} {E:Value→Shared→Prop} {s:Shared}
theorem ix {v:Value} {Q:Bool→Shared→Prop} {M:Model} (hT:s.TypeIs v "bytearray") (h:Q true s):wpAny M A (Bytes.slotIsOwn v "__buffer__") Q E s:=by
  unfold Bytes.slotIsOwn
  refine wpAny_bind (wpAny_specialOf hT dw ?_)
  dsimp only
  refine bm_if_false (by decide +kernel) ?_
  have e:("bytearray.__buffer__".dropRight ("__buffer__".length+1)) = "bytearray":=by decide +kernel
  rw [e]
  exact wpAny_isInstance hT eK h
theorem cN {a:Addr} {b:Array UInt8} {Q:Array UInt8→Shared→Prop} {M:Model} (ho:s.heap.get? a=some (a8 b)) (h:Q b s):wpAny M A (Bytes.payload (.ref a)) Q E s:=by
  unfold Bytes.payload Bytes.payload?
  exact wpAny_bind (wpAny_bind (wpAny_load ho (wpAny_pure (wpAny_pure h))))
theorem iE {a:Addr} {b:Array UInt8} {id:String} {f:Bool} {Q:Option (Array UInt8)→Shared→Prop} {M:Model} (ho:s.heap.get? a=some (a8 b)) (h:Q (some b) s):wpAny M A (Bytes.buffer? id (.ref a) f) Q E s:=by
  have hT:s.TypeIs (.ref a) "bytearray":=⟨_,ho,rfl⟩
  unfold Bytes.buffer?
  refine wpAny_bind (wpAny_specialOf hT dw ?_)
  refine wpAny_bind (ix hT ?_)
  refine bm_if_false rfl ?_
  refine wpAny_bind (wpAny_specialOf hT dw ?_)
  refine wpAny_bind (cH hT ?_)
  refine bm_if_false rfl ?_
  exact wpAny_bind (cN ho (wpAny_pure h))
theorem gO {a:Addr} {b:Array UInt8} {Q:Value→Shared→Prop} (ho:s.heap.get? a=some (a8 b)) (hz:b.size≤16777216) (h:∀ t k,Q (.bytes b t) { s with toks:=k }) :
    wpAny (model prog w) A (call (.type "bytes") [.ref a]) Q E s:=by
  have hT:s.TypeIs (.ref a) "bytearray":=⟨_,ho,rfl⟩
  refine callType_codes (Q₁:=fun obj s₁=>s₁.TypeIs obj "bytes"∧Q obj s₁) F.bm_called (F.bm_typeCall _) F.entry_object_init ?_ fun obj s₁ h₁=>?_
  · refine codeAny_of_tree ?_
    show wpAny _ A.in1.in1 (do checkBuiltinCall "bytes.__new__" ⟨[.type "bytes",.ref a],[]⟩; again (.builtin "bytes.__new__" ⟨[.type "bytes",.ref a],[]⟩)) _ _ s
    refine wpAny_bind (wpAny_of_eq (F.bm_newCall _) (wpAny_pure ⟨plainId_quiet F.bm_plain _,codeAny_builtin F.bm_entry ?_⟩))
    rw [Around.under_plainId F.bm_plain _]
    unfold Builtin.«bytes.__new__»
    refine wpAny_bind (wpAny_of_eq (a:=true) rfl ?_)
    refine bm_if_false rfl ?_
    refine wpAny_bind (wpAny_of_eq F.bm_sub ?_)
    refine bm_if_false rfl ?_
    refine wpAny_bind (wpAny_of_eq (F.bm_bind _) ?_)
    refine wpAny_bind (wpAny_of_eq (a:=()) rfl ?_)
    refine wpAny_bind (wpAny_of_eq (a:=()) rfl ?_)
    refine bm_if_false rfl ?_
    refine wpAny_bind (wpAny_specialOf hT gx ?_)
    refine wpAny_bind (wpAny_bind ?_)
    show wpAny _ _ (load a>>=_) _ _ _
    refine wpAny_bind (wpAny_load ho ?_)
    refine wpAny_pure (wpAny_pure ?_)
    refine bm_if_false rfl ?_
    refine wpAny_bind (wpAny_specialOf hT gq ?_)
    refine bm_if_true rfl ?_
    first
      | show wpAny _ _ (Bytes.buffer? "bytes.__new__" (.ref a) true>>=_) _ _ _
      | (refine wpAny_bind ?_; show wpAny _ _ (Bytes.buffer? "bytes.__new__" (.ref a) true>>=_) _ _ _)
    refine wpAny_bind (iE ho ?_)
    dsimp only
    refine wpAny_bind (wpAny_rule ?_)
    refine wpAny_bind (wpAny_mkBytes ?_ (by rw [sizeLine_eq]; exact hz))
    show wpAny _ _ (if (Value.type "bytes"==Value.type "bytes")=true then _ else _) _ _ _
    refine bm_if_true (by decide) ?_
    exact wpAny_pure ⟨PySem.W.typeIs_bytes _ _ _,h _ _⟩
  · exact ⟨h₁.1,F.args_object_init_2 obj _,object_init_meets F.bm_called.init.lookup F.bm_called.made (by decide) prog w A.in1 _ s₁ ⟨h₁.1,rfl,h₁.2⟩⟩
theorem eU {a c:Addr} {b:Array UInt8} {i j:Int} {ti tj:Tok} :
    Meets (Builtin.«bytearray.__getitem__» ⟨[.ref a,.ref c],[]⟩) (fun _ R s=>s.heap.get? a=some (a8 b)∧s.heap.IsSliceOf c (.int i ti) (.int j tj) .none∧b.size≤16777216∧
      ∀ D h',(∀ x o,s.heap.get? x=some o→h'.get? x=some o)→h'.get? D=some (a8 (KBy.picked b (some i) (some j)))→s.heap.get? D=none→s.heap.objs.size≤D→R (.ok (.ret (.ref D))) { s with heap:=h' }):=by
  refine .of_wp fun prog w A R s hS=>?_
  obtain ⟨ho,⟨o,hc,hcc,hcd⟩,hz,hR⟩:=hS
  have hT:s.TypeIs (.ref a) "bytearray":=⟨_,ho,rfl⟩
  have hS:s.TypeIs (.ref c) "slice":=⟨o,hc,hcc⟩
  unfold Builtin.«bytearray.__getitem__»
  refine wpAny_bind (wpAny_of_eq (a:=(.ref a,[.ref c])) rfl ?_)
  dsimp only
  refine wpAny_bind ?_
  unfold Bytes.subscript?
  refine wpAny_bind (wpAny_specialOf hS slice_no_index (wpAny_pure ?_))
  refine wpAny_bind (wpAny_typeOf hS ?_)
  refine bm_if_false rfl ?_
  show wpAny _ _ (Bytes.sliceParts (.ref c)>>=fun r=>_) _ _ s
  refine wpAny_bind ?_
  unfold Bytes.sliceParts
  refine wpAny_bind (wpAny_field (x:=.none) hc hcd rfl ?_)
  kby_none
  refine wpAny_ite (KBy.ite_no (show ¬ ((Value.none==rawInt 0)=true) from Bool.false_ne_true) ?_)
  refine wpAny_bind (wpAny_field (x:=.int i ti) hc hcd rfl ?_)
  kby_int
  refine wpAny_bind (wpAny_field (x:=.int j tj) hc hcd rfl ?_)
  kby_int
  refine wpAny_pure ?_
  refine wpAny_bind (cN ho ?_)
  have go:wpAny (model prog w) A.in1 (sliceIndices (rawPart (some i)) (rawPart (some j)) (rawPart none) b.size) (fun r s'=>r=sliceBounds (some i) (some j) none b.size∧s'=s) (fun z_ z_=>False) s:=
    wpAny_of_eq (sliceIndices_raw (some i) (some j) none b.size (fun e=>nomatch e)) ⟨rfl,rfl⟩
  refine wpAny_bind (wpAny_mono go (fun r s' hr=>?_) fun _ _ e=>e.elim)
  obtain ⟨rfl,rfl⟩:=hr
  refine wpAny_bind ?_
  unfold Bytes.newBytearray
  refine wpAny_newObj_type ?_ ?_
  · exact wpAny_pure ⟨_,rfl,hR _ _ (fun x o e=>Heap.get?_push_of_some _ e) (Heap.get?_push_size _ rfl) (Heap.get?_none_of_le (Nat.le_refl _)) (Nat.le_refl _)⟩
  · show (KBy.picked b (some i) (some j)).size≤sizeLine
    rw [sizeLine_eq]
    exact Nat.le_trans (KBc.size_picked_le b _ _) hz
theorem ii {h₀:Heap} {L:Addr} {m:Str→Option Value} {news:List (Addr×Obj)} {value slice:PySem.Expr} {a:Addr} {b:Array UInt8} {i j:Int} {ti tj:Tok} {Q:Value→Shared→Prop}
    (hF:Fr h₀ L s.heap m) (hN:News h₀ L s.heap news) (ho:s.heap.get? a=some (a8 b)) (hz:b.size≤16777216)
    (h:∀ D h',Fr h₀ L h' m→News h₀ L h' ((D,a8 (KBy.picked b (some i) (some j)))::news)→(∀ p∈news,p.1<D)→Q (.ref D) { s with heap:=h' })
    (hs:subscripted slice false (.ref a) (.ref s.heap.objs.size)=operate [.ref s.heap.objs.size,.ref a] (getItem (.ref a) (.ref s.heap.objs.size)))
    (ht:∀ r,letTemporaryGo value (.ref a) r=pure ()) :
    wpAny (model prog w) A (subscriptTail value slice (.ref a) (.ref s.heap.objs.size)) Q E { s with heap:=s.heap.push { cls:=.type "slice",data:=.fields #[.int i ti,.int j tj,.none] } }:=by
  have up:∀ x o,s.heap.get? x=some o→(s.heap.push { cls:=.type "slice",data:=.fields #[.int i ti,.int j tj,.none] }).get? x=some o:=fun x o e=>Heap.get?_push_of_some _ e
  have hT:({ s with heap:=s.heap.push { cls:=.type "slice",data:=.fields #[.int i ti,.int j tj,.none] } }:Shared).TypeIs (.ref a) "bytearray":=⟨_,up _ _ ho,rfl⟩
  refine tail_of_ItemOn ⟨"bytearray",_,eQ.lookup,hT,getItem_meets hT (by decide) eQ du (dN _ _) eU
    ⟨up _ _ ho,Heap.IsSliceOf.new _ _ _ _,hz,fun D h' hk he hn hl=>?_⟩⟩ hs ht
  have hk':∀ x o,s.heap.get? x=some o→h'.get? x=some o:=fun x o e=>hk _ _ (up _ _ e)
  have hlt:s.heap.objs.size<D:=by
    have:(s.heap.push { cls:=.type "slice",data:=.fields #[.int i ti,.int j tj,.none] }).objs.size=s.heap.objs.size+1:=Heap.size_push _ _
    rw [this] at hl; exact hl
  refine h D h' (hF.keeps hk') (fun p hp=>?_) fun p hp=>Nat.lt_trans (Heap.lt_size (hN p hp).1) hlt
  rcases List.mem_cons.mp hp with rfl | hp
  · refine ⟨he,?_,?_⟩
    · rintro rfl
      exact absurd (Nat.lt_trans hF.ns.lt hlt) (Nat.lt_irrefl _)
    · cases q:h₀.get? D with
      | none=>rfl
      | some o=>exact absurd (Nat.lt_trans (Heap.lt_size (hF.keep _ _ q)) hlt) (Nat.lt_irrefl _)
  · exact ⟨hk' _ _ (hN p hp).1,(hN p hp).2⟩
end
end
noncomputable abbrev AR (dp un:Nat):Around:={ handled:=none,depth:=dp,frames:=none,guards:=none,units:=un }
theorem aH {α:Type} {M:Model} {A A':Around} {t:Sem α} {Q:α→Shared→Prop} {E:Value→Shared→Prop} {s:Shared}
    (h:wpAny M A' t Q E s) (hh:A.handled=A'.handled) (hd:A.depth≤A'.depth) (hf:A'.frames=none) (hg:A'.guards=none) (hu:A.units≤A'.units):wpAny M A t Q E s:=by
  intro Γ p hΓ
  refine h Γ p ⟨hΓ.1.trans hh,Nat.le_trans hΓ.2.1 hd,?_,?_,Nat.le_trans hΓ.2.2.2.2 hu⟩
  · intro l e; rw [hf] at e; cases e
  · intro l e; rw [hg] at e; cases e
noncomputable def But (as:List Addr) (h h':Heap):Prop:=∀ b o,h.get? b=some o→b ∉ as→h'.get? b=some o
theorem enterC {w:World} {A:Around} {s:Shared} {K:Frag} {L:Addr} {h₀:Heap} {m mg mb:Str→Option Value} {news:List (Addr×Obj)} {p:Program} {loose:List Str} {mean:ExcName→Option Value}
    {prog:Program} {R:Result→Shared→Prop} {name qual:Str} {params:Arguments} {body:List Stmt} {scope:Scope} {dV kV doc pm cdv ct oc:Value} {an od:Option Addr} {osl:Array (Option Value)} {f:Addr} {args:Args} {binds:List (Str×Value)}
    (F:Fr h₀ L s.heap m) (X₀:K.In h₀) (N:News h₀ L s.heap news) (T:Top p loose mean mg mb h₀)
    (ho:K.lookup f=some ⟨oc,od,.func (fnOf name qual params body scope dV kV doc pm an cdv ct),osl⟩) (hcd:codeIn K cdv qual=true) (hroom:A.depth<recursionLimit)
    (hbind:BindsTo s (fnOf name qual params body scope dV kV doc pm an cdv ct) args binds) (hloc:∀ y∈binds,scope.names.lookup y.1=some .local)
    (h:∀ g L' h₁,Fr h₀ L g m→Fr g L' h₁ (fun y=>binds.reverse.lookup y)→News g L' h₁ news→h₀.StaysIn g→But (news.map (·.1)) s.heap g→K.In g→Top p loose mean mg mb g→(∀ p∈news,p.1<L')→
      wpAny (model prog w) (A.deeper (envOf qual scope L' f cdv)) (execs body (envOf qual scope L' f cdv))
        (fun fl s'=>LeaveK h₀ L m g R (match fl with | .ret v=>v | _=>.none) s') (fun z_ z_=>False)
        { s with heap:=h₁,toks:=s.toks+binds.length })
    (hco:scope.isCoroutine=false) (hgen:scope.isGenerator=false) (hk:scope.kind=.function)
    (hcell:∀ x∈scope.names,x.2≠.cell):codeAny (model prog w) A (.call (.ref f) args) R s:=by
  have B:Below callerA h₀ [] h₀:=below_caller h₀
  obtain ⟨FG,_,st,lv⟩:=groundX (A:={ frames:=some [envOf qual { scope with kind:=.function } L f cdv] }) (R:=R) B F N rfl rfl rfl
  refine codeAny_call_def (fd:=fnOf name qual params body scope dV kV doc pm an cdv ct) (body:=body) (binds:=binds) hroom (F.keep _ _ (X₀ _ _ ho)) rfl (T.nolimit.keeps F.keep) (codeRec_of (X₀.keeps F.keep) hcd) rfl hbind hcell hloc (fun h₁ hns hk₁=>?_) hco hgen hk
  exact wpAny_mono (h _ s.heap.objs.size h₁ FG ⟨hns,fun b o e=>hk₁ b o (of_hideAll _ e),Nat.le_of_eq (hideAll_size _ _)⟩
    (fun p hp=>⟨hk₁ _ _ (N p hp).1,Nat.ne_of_lt (Heap.lt_size (N p hp).1),hideAll_none _ (List.mem_map_of_mem hp)⟩) st (fun b o e nb=>hideAll_get _ e nb) (X₀.keeps st) (T.keeps st) (fun p hp=>Heap.lt_size (N p hp).1)) (fun fl s' hl=>lv _ _ hl) fun _ _ y=>y.elim
theorem j1 {w:World} {A:Around} {s:Shared} {K:Frag} {L:Addr} {h₀:Heap} {m mg mb:Str→Option Value} {news:List (Addr×Obj)} {p:Program} {loose:List Str} {mean:ExcName→Option Value}
    {prog:Program} {R:Result→Shared→Prop} {name qual:Str} {params:Arguments} {body:List Stmt} {scope:Scope} {dV kV doc pm cdv ct oc:Value} {an od:Option Addr} {osl:Array (Option Value)} {f:Addr} {args:Args} {binds:List (Str×Value)}
    (F:Fr h₀ L s.heap m) (X₀:K.In h₀) (N:News h₀ L s.heap news) (T:Top p loose mean mg mb h₀)
    (ho:K.lookup f=some ⟨oc,od,.func (fnOf name qual params body scope dV kV doc pm an cdv ct),osl⟩) (hcd:codeIn K cdv qual=true) (hroom:A.depth<recursionLimit)
    (hbind:BindsTo s (fnOf name qual params body scope dV kV doc pm an cdv ct) args binds) (hkind:(binds.all fun y=>scope.names.lookup y.1==some .local||scope.names.lookup y.1==some .cell)=true)
    (hnd:((cellsFrom 0 scope.names []).map (·.1)).Nodup)
    (h:∀ g L' h₁ tk cells,Fr h₀ L g m→Fr g L' h₁ (bindL (envOfC qual scope L' f cdv).kindOf binds fun z_=>none)→News g L' h₁ (cells++news)→
      CellsAre (bindC (envOfC qual scope L' f cdv).kindOf binds fun z_=>none) (cellsFrom (L'+1) scope.names []) cells→h₀.StaysIn g→But (news.map (·.1)) s.heap g→K.In g→Top p loose mean mg mb g→(∀ p∈news,p.1<L')→
      wpAny (model prog w) (A.deeper (envOfC qual scope L' f cdv)) (execs body (envOfC qual scope L' f cdv))
        (fun fl s'=>LeaveK h₀ L m g R (match fl with | .ret v=>v | _=>.none) s') (fun z_ z_=>False)
        { s with heap:=h₁,toks:=tk })
    (hco:scope.isCoroutine=false) (hgen:scope.isGenerator=false) (hk:scope.kind=.function):codeAny (model prog w) A (.call (.ref f) args) R s:=by
  have B:Below callerA h₀ [] h₀:=below_caller h₀
  obtain ⟨FG,_,st,lv⟩:=groundX (A:={ frames:=some [envOf qual { scope with kind:=.function } L f cdv] }) (R:=R) B F N rfl rfl rfl
  refine codeAny_call_function hroom (F.keep _ _ (X₀ _ _ ho)) rfl hco hgen rfl (codeRec_of (X₀.keeps F.keep) hcd) (hbind _ _ _ _ ?_)
  refine wpAny_newFunctionEnv_cells hk (kindsX hkind _) fun env' he s' x=>?_
  subst he
  refine ⟨(T.nolimit.keeps F.keep).keeps x.toInCall.keep,codeAny_func ?_⟩
  obtain ⟨h₁,tk,rfl,_⟩:=x.done
  have hk₁:=x.toInCall.keep
  obtain ⟨cells,NC,Y⟩:=Cl.news (h₀:=s.heap) (Nat.le_refl _) fun n c hm=>⟨x.cell n c (lookup_of_mem_nodup (cellsFrom_names scope.names 0 (s.heap.objs.size+1) [] [] rfl▸hnd) hm),x.above n c hm⟩
  refine wpAny_mono (h _ s.heap.objs.size h₁ tk cells FG ⟨x.toInCall.ns,fun b o e=>hk₁ b o (of_hideAll _ e),Nat.le_of_eq (hideAll_size _ _)⟩ (fun p hp=>?_) Y st (fun b o e nb=>hideAll_get _ e nb) (X₀.keeps st) (T.keeps st) (fun p hp=>Heap.lt_size (N p hp).1)) (fun fl s' hl=>lv _ _ hl) fun _ _ y=>y.elim
  rcases List.mem_append.mp hp with hp | hp
  · refine ⟨(NC p hp).1,(NC p hp).2.1,?_⟩
    cases q:(hideAll s.heap (news.map (·.1))).get? p.1 with
    | none=>rfl
    | some o=>have:=of_hideAll _ q; rw [(NC p hp).2.2] at this; cases this
  · exact ⟨hk₁ _ _ (N p hp).1,Nat.ne_of_lt (Heap.lt_size (N p hp).1),hideAll_none _ (List.mem_map_of_mem hp)⟩
theorem rw0:True:=by
  k_with_none
  k_with "binds"=>first | exact BindsTo.of_eq (binds:=[]) rfl | exact BindsTo.of_eq (binds:=[(_,_)]) rfl | exact BindsTo.of_eq (binds:=[(_,_),(_,_)]) rfl | exact BindsTo.of_eq (binds:=[(_,_),(_,_),(_,_)]) rfl | exact BindsTo.of_eq (binds:=[(_,_),(_,_),(_,_),(_,_)]) rfl | exact BindsTo.of_eq (binds:=[(_,_),(_,_),(_,_),(_,_),(_,_)]) rfl | exact BindsTo.of_eq (binds:=[(_,_),(_,_),(_,_),(_,_),(_,_),(_,_)]) rfl | exact BindsTo.of_eq (binds:=[(_,_),(_,_),(_,_),(_,_),(_,_),(_,_),(_,_)]) rfl | exact BindsTo.of_eq (binds:=[(_,_),(_,_),(_,_),(_,_),(_,_),(_,_),(_,_),(_,_),(_,_),(_,_),(_,_),(_,_),(_,_),(_,_),(_,_)]) rfl | exact binds_K (binds:=[(_,_)]) (by k_in) rfl (by k_is) rfl rfl rfl | exact binds_K (binds:=[(_,_),(_,_)]) (by k_in) rfl (by k_is) rfl rfl rfl | exact binds_K (binds:=[(_,_),(_,_),(_,_)]) (by k_in) rfl (by k_is) rfl rfl rfl | exact binds_K (binds:=[(_,_),(_,_),(_,_),(_,_)]) (by k_in) rfl (by k_is) rfl rfl rfl | exact binds_K (binds:=[(_,_),(_,_),(_,_),(_,_),(_,_)]) (by k_in) rfl (by k_is) rfl rfl rfl | exact binds_K (binds:=[(_,_),(_,_),(_,_),(_,_),(_,_),(_,_)]) (by k_in) rfl (by k_is) rfl rfl rfl | exact binds_K (binds:=[(_,_),(_,_),(_,_),(_,_),(_,_),(_,_),(_,_)]) (by k_in) rfl (by k_is) rfl rfl rfl | exact binds_K (binds:=[(_,_),(_,_),(_,_),(_,_),(_,_),(_,_),(_,_),(_,_),(_,_),(_,_),(_,_),(_,_),(_,_),(_,_),(_,_)]) (by k_in) rfl (by k_is) rfl rfl rfl | fail "k_enter: no rule for these arguments"
  k_with "k k_enter"=>first | (refine' enterC ?k1 ?k2 ?k3 ?k4 ?k6 ?k7 ?k8 ?k9 ?kB ?_ ?c2 ?c3 ?c4 ?c5; (case k1=>k_asm); (case k2=>k_asm); (case k3=>k_asm); (case k4=>k_asm); (case k6=>k_is); (case k7=>k_is); (case k8=>k_room); (case k9=>walk_at "binds"); (case c5=>decide); (case kB=>exact locs rfl); (case c2=>exact rfl); (case c3=>exact rfl); (case c4=>exact rfl); k_whole; intro qg' qL' qh' qFG' qF' qN' qst' qbt' qX' qT' ql1'; (try (have qkq9:=allLt_of ql1'; replace ql1':=qkq9; dsimp only [AllLt] at ql1')); (try dsimp only); (try k_fold)) | (refine' j1 ?k1 ?k2 ?k3 ?k4 ?k6 ?k7 ?k8 ?k9 ?kB ?kD ?_ ?c2 ?c3 ?c4; (case k1=>k_asm); (case k2=>k_asm); (case k3=>k_asm); (case k4=>k_asm); (case k6=>k_is); (case k7=>k_is); (case k8=>k_room); (case k9=>walk_at "binds"); (case kB=>exact rfl); (case kD=>decide +kernel); (case c2=>exact rfl); (case c3=>exact rfl); (case c4=>exact rfl); k_whole; intro qg' qL' qh' qtk' qcells' qFG' qF' qN' qY' qst' qbt' qX' qT' ql1'; (try (have qkq9:=allLt_of ql1'; replace ql1':=qkq9; dsimp only [AllLt] at ql1')); k_cells qY'; (try simp only [List.cons_append,List.nil_append] at qN'); (try dsimp only); (try k_fold))
  trivial
example:(Mine.hd.heap_1=Mine.hd.heap_1)∧(PySem.Challenge.rw_on0273_01=PySem.Challenge.rw_on0273_01):=by k_fill; exact ⟨rfl,rfl⟩
section
variable {prog:Program} {w:World} {A:Around} {E:Value→Shared→Prop} {s:Shared} {h₀:Heap} {L D:Addr} {m:Str→Option Value} {news news':List (Addr×Obj)}
theorem xN {y:Value} {vs:List Value} {n:Nat} {u:Tok} {Q:Value→Shared→Prop} (F:Fr h₀ L s.heap m) (N:News h₀ L s.heap news) (U:Upd D (listOf (y::vs).toArray n) (listOf vs.toArray (n+1)) news news')
    (hz:(y::vs).length≤sizeLine) (h:∀ h',Fr h₀ L h' m→News h₀ L h' news'→Q y { s with heap:=h' }):wpAny (model prog w) A (call (.builtin "list.pop") [.ref D,.int 0 u]) Q E s:=by
  refine kl_popAt (p:=[]) (q:=vs) (y:=y) (k:=0) (its:=(y::vs).toArray) F N rfl ?_ rfl U hz h
  show seqIndex? 0 (y::vs).toArray.size=some 0
  unfold seqIndex?
  simp
end
theorem rw1:True:=by
  k_with "call builtin:list.pop"=>(k_here; k_dflt (refine' xN ?F ?N ?U ?z ?_; (case F=>k_asm); (case N=>k_asm); (case U=>k_upd); (case z=>(simp only [List.length_cons,sizeLine_eq]; omega))); kl_rest)
  k_with "setItem ref str"=>(k_here; (with_reducible show wpAny _ _ (setItem (Value.ref _) (Value.str _ _) _) _ _ _); k_dflt (refine' kda_set (knd:=PySem.strKind _ _) ?F ?N ?U ?d (strKind_is _ _ _ _) ?z ?_; (case F=>k_asm); (case N=>k_asm); (case U=>k_updF); (case d=>k_asm); (case z=>kob_size)); intro qh' qo' qF' qN' qhd'; (try kob_lit); (try dsimp only at qN'); (try k_sweep))
  k_with "ite"=>first | refine ite_neg (by simp; first | done | fail "left") ?_ | refine ite_pos (by simp; first | done | fail "left") ?_
  trivial
theorem But.of {as:List Addr} {h g h':Heap} {L':Addr} {m':Str→Option Value} (b:But as h g) (F:Fr g L' h' m'):But as h h':=fun x o e n=>F.keep x o (b x o e n)
theorem news_but {h₀ h h':Heap} {L:Addr} {news:List (Addr×Obj)} {as:List Addr} (N:News h₀ L h news) (b:But as h h') (hn:∀ p∈news,p.1 ∉ as):News h₀ L h' news:=
  fun p hp=>⟨b _ _ (N p hp).1 (hn p hp),(N p hp).2⟩
theorem news_but0 {h₀ h h':Heap} {L:Addr} {news:List (Addr×Obj)} (N:News h₀ L h news) (b:But [] h h'):News h₀ L h' news:=news_but N b fun _ _ h=>nomatch h
theorem rw2:True:=by
  k_with "k passes_own"=>first | exact PassesOwn.never | exact PassesOwnAt.never
  trivial
noncomputable def bO (p:Prop):Prop:=p
theorem bM {p:Prop} (h:bO p):p:=h
theorem rw3:True:=by
  k_with "k k_steps"=>repeat' ((fail_if_success (with_reducible show bO _)); first | (k_unfold; (try dsimp only)) | walk1 | (dsimp only; walk1) | (leave1; walk_say "STEP leave1"; try dsimp only) | fail "no step")
  k_with "k k_room"=>first | exact Nat.le_of_ble_eq_true rfl | ((try simp only [depth_under_make,depth_under_kw,depth_in1,depth_deeper,depth_caller,recursionLimit] at *); (try dsimp only [AR] at *); omega)
  k_with "k k_units"=>first | exact Nat.le_of_ble_eq_true rfl | ((try simp only [units_in1,units_deeper,Around.mark_units,units_caller,cLine] at *); (try dsimp only [AR] at *); omega)
  trivial
theorem ag {h₀ h:Heap} {L:Addr} {news led:List (Addr×Obj)} (N:News h₀ L h news) (hs:∀ p∈led,p∈news):News h₀ L h led:=fun p hp=>N p (hs p hp)
theorem qP {h₀ h:Heap} {L a b:Addr} {o q:Obj} {news:List (Addr×Obj)} (N:News h₀ L h news) (h1:(a,o)∈news) (h2:(b,q)∈news):News h₀ L h [(a,o),(b,q)]:=fun p hp=>by
  rcases List.mem_cons.mp hp with rfl | hp
  · exact N _ h1
  · rcases List.mem_cons.mp hp with rfl | hp
    · exact N _ h2
    · exact nomatch hp
noncomputable def cm (k:Nat):List Int:=if h:k=0 then [] else (48+((k % 10:Nat):Int))::cm (k / 10)
termination_by k
decreasing_by exact rp 9 (.c _ (.c _ .z)) (.m 9 (.a (.k 0) (.k 1)) (.v 0) (.c (.m 10 (.v 1)) (.v 0) .z)) (.a (.v 1) (.k 1)) (.v 0) rfl (Nat.pos_of_ne_zero h) (Nat.mul_div_le _ 10)
noncomputable def cF (k:Nat):List Int:=(48+((k % 10:Nat):Int))::cm (k / 10)
noncomputable def aM (n:Int):List Int:=(cF n.natAbs++if n<0 then [45] else []).reverse
theorem bJ:cm 0=[]:=by rw [cm]; simp
theorem cC {k:Nat} (h:k≠0):cm k=(48+((k % 10:Nat):Int))::cm (k / 10):=by rw [cm,dif_neg h]
theorem fF:∀ (j k:Nat),k<10 ^ j→(cm k).length≤j
  | 0,k,h=>by
    have:k=0:=by simp at h; exact h
    subst this; rw [bJ]; simp
  | j+1,k,h=>by
    by_cases h0:k=0
    · subst h0; rw [bJ]; simp
    · rw [cC h0,List.length_cons]
      have:=fF j (k / 10) (by rw [Nat.pow_succ] at h; omega)
      exact lin (.c _ (.c _ .z)) (.c (.v 0) (.v 1) .z) (.a (.v 0) (.k 1)) (.a (.v 1) (.k 1)) rfl this
theorem nu (k:Nat):∀ x∈cm k,48≤x∧x<58:=by
  induction k using Nat.strongRecOn with
  | ind k ih=>
    by_cases h0:k=0
    · subst h0; rw [bJ]; simp
    · rw [cC h0]
      intro x hx
      rcases List.mem_cons.mp hx with rfl | hx
      · exact ⟨ax (.c _ .z) .z .z (.k 48) (.a (.k 48) (.u (.v 0))) rfl ,ax (.c _ .z) .z (.u (.a (.v 0) (.k 1)) (.k 10) .z) (.a (.a (.k 48) (.u (.v 0))) (.k 1)) (.k 58) rfl (xp _ (n:=10) rfl)⟩
      · exact ih _ (by exact rp 9 (.c _ (.c _ .z)) (.m 9 (.a (.k 0) (.k 1)) (.v 0) (.c (.m 10 (.v 1)) (.v 0) .z)) (.a (.v 1) (.k 1)) (.v 0) rfl (Nat.pos_of_ne_zero h0) (Nat.mul_div_le _ 10)) x hx
theorem gE {k:Nat} (h:k≤2000000):(cF k).length≤8:=by
  have:=fF 7 (k / 10) (by exact rp 9 (.c _ (.c _ .z)) (.c (.v 0) (.k 2000000) (.c (.m 10 (.v 1)) (.v 0) .z)) (.a (.v 1) (.k 1)) (.k 10000000) rfl h (Nat.mul_div_le _ 10))
  simp only [cF,List.length_cons]; exact lin (.c _ .z) (.c (.v 0) (.k 7) .z) (.a (.v 0) (.k 1)) (.k 8) rfl this
theorem oK (k:Nat):∀ x∈cF k,48≤x∧x<58:=by
  intro x hx
  rcases List.mem_cons.mp hx with rfl | hx
  · exact ⟨ax (.c _ .z) .z .z (.k 48) (.a (.k 48) (.u (.v 0))) rfl ,ax (.c _ .z) .z (.u (.a (.v 0) (.k 1)) (.k 10) .z) (.a (.a (.k 48) (.u (.v 0))) (.k 1)) (.k 58) rfl (xp _ (n:=10) rfl)⟩
  · exact nu _ x hx
theorem a6 {n:Int} (h:n.natAbs≤2000000):(aM n).length≤9:=by
  have:=gE h
  unfold aM
  rw [List.length_reverse,List.length_append]
  split <;> simp <;> (first | exact lin (.c _ .z) (.c (.v 0) (.k 8) .z) (.v 0) (.k 8) rfl this | exact lin (.c _ .z) (.c (.v 0) (.k 8) .z) (.v 0) (.k 9) rfl this)
theorem b6 (n:Int):∀ x∈aM n,0≤x∧x<256:=by
  intro x hx
  unfold aM at hx
  rw [List.mem_reverse,List.mem_append] at hx
  rcases hx with hx | hx
  · have:=oK _ x hx; exact ⟨ax .z (.c _ .z) (.c (.k 48) (.v 0) .z) (.k 0) (.v 0) rfl this.1,ax .z (.c _ .z) (.c (.a (.v 0) (.k 1)) (.k 58) .z) (.a (.v 0) (.k 1)) (.k 256) rfl this.2⟩
  · split at hx
    · rcases List.mem_cons.mp hx with rfl | hx
      · exact ⟨ax .z .z .z (.k 0) (.k 45) rfl ,ax .z .z .z (.a (.k 45) (.k 1)) (.k 256) rfl ⟩
      · exact nomatch hx
    · exact nomatch hx
structure cT (n r:Int) (f:List Int):Prop where
  eq:f++cm r.toNat=cF n.natAbs
theorem lp {n:Int} (r:Int) (hr:r=(n.natAbs:Int)) (h:n.natAbs≤2000000) :
    0≤r.fdiv 10∧r.fdiv 10≤2000000∧([48+r.fmod 10]:List Int).length≤8∧cT n (r.fdiv 10) [48+r.fmod 10]:=by
  rw [Int.fdiv_eq_ediv_of_nonneg _ (by exact ax .z .z .z (.k 0) (.k 10) rfl ),Int.fmod_eq_emod_of_nonneg _ (by exact ax .z .z .z (.k 0) (.k 10) rfl )]
  subst hr
  refine ⟨by exact wX 9 (.c _ .z) (.c _ .z) (.c (.a (.u (.v 0)) (.k 1)) (.a (.m 10 (.v 0)) (.k 10)) .z) (.k 0) (.v 0) rfl (id2 _ (n:=10) rfl),by exact wX 9 (.c _ .z) (.c _ .z) (.u (.v 0) (.k 2000000) (.c (.m 10 (.v 0)) (.u (.v 0)) .z)) (.v 0) (.k 2000000) rfl h (id1 _ (n:=10) rfl),by simp,⟨?_⟩⟩
  have e:(((n.natAbs:Int)) / 10).toNat=n.natAbs / 10:=by omega
  rw [e]
  simp only [cF,List.cons_append,List.nil_append]
  congr 1
theorem ia {n r:Int} {f:List Int} (hp:0≤r∧r≤2000000∧f.length≤8∧cT n r f) (hn:n.natAbs≤2000000) (h0:0<r) :
    (0≤r.fdiv 10∧r.fdiv 10≤2000000∧(f++[48+r.fmod 10]).length≤8∧cT n (r.fdiv 10) (f++[48+r.fmod 10]))∧(r.fdiv 10).toNat<r.toNat:=by
  rw [Int.fdiv_eq_ediv_of_nonneg _ (by exact ax .z .z .z (.k 0) (.k 10) rfl ),Int.fmod_eq_emod_of_nonneg _ (by exact ax .z .z .z (.k 0) (.k 10) rfl )]
  have q:(f++[48+r % 10])++cm (r / 10).toNat=cF n.natAbs:=by
    rw [← hp.2.2.2.eq,cC (k:=r.toNat) (by exact fun q=>ly (.c _ .z) (.c _ .z) (.c (.a (.k 0) (.k 1)) (.v 0) (.u (.v 0) (.k 0) (.c (.v 0) (.u (.v 0)) .z))) rfl h0 (cb q) (Int.self_le_toNat _))]
    have e:(r / 10).toNat=r.toNat / 10:=(Int.eq_ofNat_of_zero_le hp.1).elim fun k h=>by rw [h]; rfl
    have e2:r % 10=((r.toNat % 10:Nat):Int):=(Int.eq_ofNat_of_zero_le hp.1).elim fun k h=>by rw [h]; rfl
    rw [e,e2,List.append_assoc]; rfl
  refine ⟨⟨by exact wX 9 .z (.c _ (.c _ .z)) (.c (.k 0) (.v 0) (.c (.a (.v 0) (.k 1)) (.a (.m 10 (.v 1)) (.k 10)) .z)) (.k 0) (.v 1) rfl hp.1 (id2 _ (n:=10) rfl),by exact wX 9 .z (.c _ (.c _ .z)) (.c (.v 0) (.k 2000000) (.c (.m 10 (.v 1)) (.v 0) .z)) (.v 1) (.k 2000000) rfl hp.2.1 (id1 _ (n:=10) rfl),?_,⟨q⟩⟩,(Int.eq_ofNat_of_zero_le hp.1).elim fun k h=>by rw [h] at h0 ⊢; exact Nat.div_lt_self (Int.natCast_pos.mp h0) (by decide)⟩
  have:=gE hn
  rw [← q,List.length_append] at this
  exact lin (.c _ (.c _ .z)) (.c (.a (.v 0) (.v 1)) (.k 8) .z) (.v 0) (.k 8) rfl this
theorem jX {n r:Int} {f:List Int} (hp:0≤r∧r≤2000000∧f.length≤8∧cT n r f) (h0:¬ 0<r):f=cF n.natAbs:=by
  have:r.toNat=0:=by exact Nat.le_antisymm (kN (.c _ .z) (.c _ .z) (.c (.v 0) (.k 0) (.c (.u (.v 0)) (.v 0) .z)) (.v 0) (.k 0) rfl (Int.not_lt.mp h0) (rD (ax .z (.c _ .z) (.c (.k 0) (.v 0) .z) (.k 0) (.v 0) rfl hp.1))) (lin (.c _ .z) .z (.k 0) (.v 0) rfl )
  rw [← hp.2.2.2.eq,this,bJ,List.append_nil]
theorem ints_snoc {vs:List Value} {f:List Int} (h:IntsAre vs f) (k:Int) (t:Tok):IntsAre (vs++[.int k t]) (f++[k]):=IntsAre.append h (.cons _ _ .nil)
theorem mS {n r:Int} {ws:List Value} {f:List Int} (hI:IntsAre ws f.reverse) (hP:0≤r∧r≤2000000∧f.length≤8∧cT n r f) (h0:¬ 0<r) (hn:¬ n<0):IntsAre ws (aM n):=by
  have:=jX hP h0
  subst this
  unfold aM
  rw [if_neg hn,List.append_nil]
  exact hI
theorem ln {n r:Int} {vs:List Value} {f:List Int} {t:Tok} (hI:IntsAre vs f) (hP:0≤r∧r≤2000000∧f.length≤8∧cT n r f) (h0:¬ 0<r) (hn:n<0):IntsAre (vs.toArray.push (.int 45 t)).toList.reverse (aM n):=by
  have:=jX hP h0
  subst this
  unfold aM
  rw [if_pos hn]
  have q:(vs.toArray.push (.int 45 t)).toList=vs++[.int 45 t]:=by simp
  rw [q]
  exact IntsAre.reverse (ints_snoc hI 45 t)
theorem rJ {M:Model} {A:Around} {E:Value→Shared→Prop} {s:Shared} {α:Type} {a:Sem α} {Q:α→Shared→Prop} (P:α→Prop) (h:wpAny M A a (fun v s'=>P v∧∃ k,s'={ s with toks:=k }) E s) (q:∀ v k,P v→Q v { s with toks:=k }):wpAny M A a Q E s:=
  wpAny_mono h (fun v _ h=>h.2.elim fun k e=>e▸q v k h.1) fun _ _ e=>e
theorem ri {w:World} {p:Program} {loose:List Str} {mean:ExcName→Option Value} {mg mb:Str→Option Value} {s:Shared} {h₀:Heap} {L:Addr} {m:Str→Option Value}
    {n:Int} {tn:Tok} {Q E:Value→Shared→Prop}
    (F:Fr h₀ L s.heap m) (X:(Mine.hd.heap_1 w.params).In h₀) (T:Top p loose mean mg mb h₀)
    (hn:n.natAbs≤2000000)
    (post:∀ t h' tk',Fr h₀ L h' m→But [] s.heap h'→Q (.bytes (byteArr (aM n)) t) { s with heap:=h',toks:=tk' }) :
    wpAny (model rw_on0273_01.row.prog w) (AR 900 9000) (call (.ref 61) [.int n tn]) Q E s:=by
  have N:News h₀ L s.heap []:=News.nil
  have mk1:Mk 1:=⟨⟩
  k_with "exec While Compare cons nil"=>((with_reducible rename Mk 1=>mk1); refine bM ?_)
  k_with "KswEnd"=>((with_reducible rename Mk 1=>mk1); refine bM ?_)
  k_with "call type:bytes"=>((with_reducible rename Mk 1=>mk1); refine bM ?_)
  k_with "subscriptTail Name Slice ref ref"=>((with_reducible rename Mk 1=>mk1); (k_dflt (refine' krv_lit ?F ?N ?l (IsPart.int _ _) rfl ?_ ?s ?t ?z; (case F=>k_asm); (case N=>k_asm); (case l=>kmk_list); (case s=>with_unfolding_all rfl); (case t=>kmk_pure); (case z=>(simp only [Array.size_push,List.size_toArray,sizeLine_eq]; exact lin (.c _ (.c _ .z)) (.c (.v 0) (.k 8) (.c (.v 1) (.v 0) .z)) (.a (.v 1) (.k 1)) (.k 16777216) rfl hP.2.2.1 (cb hvl)))); intro D' h' F' N' l1; (try k_lt l1)))
  k_with "eval IfExp"=>((with_reducible rename Mk 1=>mk1); refine bM ?_)
  refine wpAny_call ?_
  k_enter
  k_steps
  refine rJ (fun v=>∃ r t,v=.int r t∧r=(n.natAbs:Int)) (wpAny_IfExp ?_) ?_
  · k_steps
    all_goals omega
  · rintro _ k ⟨r,t,rfl,hr⟩
    k_steps
    unfold bO
    (with_reducible rename Fr _ _ _ _=>lF)
    (with_reducible rename News _ _ _ _=>lN)
    refine' ksw_while (σ:=Int×Tok×List Value×List Int×Nat) (fun c=>[(_,listOf c.2.2.1.toArray c.2.2.2.2)]) (fun c=>[(Str.ofString "rest",.int c.1 c.2.1)]) (fun c=>IntsAre c.2.2.1 c.2.2.2.1) [Str.ofString "rest"]
      (fun c=>0≤c.1∧c.1≤2000000∧c.2.2.2.1.length≤8∧cT n c.1 c.2.2.2.1) (fun c=>c.1.toNat) (_,_,[.int _ _],[_],_) lF lN (.cons _ _ .nil) ?hk ?hp ?turn
    case hk=>(intro p hp; rcases List.mem_cons.mp hp with rfl | hp <;> first | rfl | exact nomatch hp)
    case hp=>exact lp _ hr hn
    case turn=>
      clear lF lN
      rintro ⟨r,tr,vs,f,nn⟩ u hh tk hI hP hF hN
      dsimp only at hI hP hF hN ⊢
      have hvl:=IntsAre.length hI
      try k_fold
      k_steps
      all_goals (
        unfold bO
        (with_reducible rename Fr _ _ _ _=>eF)
        (with_reducible rename News _ _ _ _=>eN)
        first
        | (refine ksw_end (_,_,vs++[.int (48+r.fmod 10) _],f++[48+r.fmod 10],nn+1) eF (by simpa using eN) (fun p hp=>hp) (ints_snoc hI _ _) (fun p hp=>by rcases List.mem_cons.mp hp with rfl | hp <;> first | rfl | exact nomatch hp) (by intro z h2 h3; have h2:=h2 _ (.head _); simp [kstB,h2]) (ia hP hn (by assumption)).1 (ia hP hn (by assumption)).2)
        | (refine KBa.make_K eF eN rfl (News.isList eN (.head _)) (mS (by assumption) hP (by assumption) (by assumption)) (b6 n) (by have:=a6 hn; exact lin (.c _ .z) (.c (.v 0) (.k 9) .z) (.v 0) (.k 16777216) rfl this) ?_
           intro h' t' k F' N' _
           k_steps
           exact post _ _ _ (by assumption) (But.of (by assumption) (by assumption)))
        | (refine KBa.make_K eF eN rfl (News.isList eN (.head _)) (ln hI hP (by assumption) (by assumption)) (b6 n) (by have:=a6 hn; exact lin (.c _ .z) (.c (.v 0) (.k 9) .z) (.v 0) (.k 16777216) rfl this) ?_
           intro h' t' k F' N' _
           k_steps
           exact post _ _ _ (by assumption) (But.of (by assumption) (by assumption))))
end
section
noncomputable def aq (ls:List Int) (mx many:Int):Int:=match ls with
  | x::_=>Int.fmod x many
  | []=>Int.fmod (Int.fdiv (Int.fmod (mx*4801+157) 1000003) 7) many
noncomputable def ao (ls:List Int) (mx:Int):Int:=match ls with
  | _::_=>mx
  | []=>Int.fmod (mx*4801+157) 1000003
theorem f9 {w:World} {p:Program} {loose:List Str} {mean:ExcName→Option Value} {mg mb:Str→Option Value} {s:Shared} {h₀:Heap} {L:Addr} {m:Str→Option Value}
    {da la:Addr} {od:Obj} {t3 tm:Tok} {mx many:Int} {vs:List Value} {ls:List Int} {n:Nat} {Q E:Value→Shared→Prop}
    (F:Fr h₀ L s.heap m) (X:(Mine.hd.heap_1 w.params).In h₀) (T:Top p loose mean mg mb h₀)
    (N:News h₀ L s.heap [(da,od),(la,listOf vs.toArray n)]) (hne:@Ne Nat da la)
    (hD:od.IsDictOf (strKind rw_on0273_01.row.prog w) [(Str.ofString "left",.ref la),(Str.ofString "mixed",.int mx t3)]) (lo:(da==sysModules)=false)
    (hvs:IntsAre vs ls) (hls:∀ x∈ls,0≤x∧x<1000003) (hmx:0≤mx) (hmx':mx<1000003) (hlen:ls.length≤64) (hm:0<many) (hm':many≤2000000)
    (post:∀ t h' tk' vs' n' t3' od',IntsAre vs' ls.tail→Fr h₀ L h' m→News h₀ L h' [(da,od'),(la,listOf vs'.toArray n')]→od'.IsDictOf (strKind rw_on0273_01.row.prog w) [(Str.ofString "left",.ref la),(Str.ofString "mixed",.int (ao ls mx) t3')]→But [da,la] s.heap h'→Q (.int (aq ls mx many) t) { s with heap:=h',toks:=tk' }) :
    wpAny (model rw_on0273_01.row.prog w) (AR 800 8000) (call (.ref 760) [.ref da,.int many tm]) Q E s:=by
  have hvl:=IntsAre.length hvs
  cases hvs with
  | nil=>
    refine wpAny_call ?_
    k_enter
    k_steps
    (with_reducible rename News _ _ _ _=>eN)
    refine post _ _ _ [] _ _ _ .nil (by assumption) (qP eN (by k_mem) (by k_mem)) (by assumption) (But.of (by assumption) (by assumption))
  | cons x t hvs=>
    simp only [List.length_cons] at hvl hlen
    refine wpAny_call ?_
    k_enter
    k_steps
    (with_reducible rename News _ _ _ _=>eN)
    refine post _ _ _ _ _ _ _ hvs (by assumption) (qP eN (by k_mem) (by k_mem)) (by assumption) (But.of (by assumption) (by assumption))
end
section
theorem bY (a:Int):(1000000+a.fmod 1000000).natAbs≤2000000:=by
  rw [Int.fmod_eq_emod_of_nonneg _ (by exact ax .z .z .z (.k 0) (.k 1000000) rfl )]; exact eH (ax .z (.c _ .z) (.c (.a (.v 0) (.k 1)) (.k 1000000) .z) (.a (.k 1000000) (.v 0)) (.u (.k 2000000)) rfl (xu _ (n:=1000000) rfl)) (ax .z (.c _ .z) (.c (.k 0) (.v 0) .z) (.g (.a (.k 1000000) (.v 0))) (.u (.k 2000000)) rfl (xa _ (n:=1000000) rfl))
theorem cA {n:Int} (h:n.natAbs≤600000000):((if n<0 then -n else n).fdiv 1000000).natAbs≤2000000:=by
  rw [Int.fdiv_eq_ediv_of_nonneg _ (by exact ax .z .z .z (.k 0) (.k 1000000) rfl )]
  rw [show (if n<0 then -n else n)=(n.natAbs:Int) by split <;> omega]
  exact Nat.div_le_of_le_mul (Nat.le_trans h (by decide))
theorem lc (n:Int):KBw.bInts (byteArr (aM n))=aM n:=KBa.ints_make (b6 n)
theorem gp (n:Int):1≤(aM n).length:=by unfold aM cF; simp only [List.length_reverse,List.length_append,List.length_cons]; exact lin (.c _ (.c _ .z)) .z (.k 1) (.a (.a (.v 0) (.k 1)) (.v 1)) rfl
structure DecIs (n:Int) (b:Array UInt8) (f:List Int):Prop where
  b_eq:b=byteArr (aM n)
  f_eq:f=aM n
theorem pT {w:World} {p:Program} {loose:List Str} {mean:ExcName→Option Value} {mg mb:Str→Option Value} {s:Shared} {h₀:Heap} {L:Addr} {m:Str→Option Value}
    {n:Int} {tn:Tok} {Q E:Value→Shared→Prop}
    (F:Fr h₀ L s.heap m) (X:(Mine.hd.heap_1 w.params).In h₀) (T:Top p loose mean mg mb h₀)
    (hn:n.natAbs≤2000000)
    (post:∀ b f t h' tk',DecIs n b f→KBw.bInts b=f→1≤f.length→f.length≤9→Fr h₀ L h' m→But [] s.heap h'→Q (.bytes b t) { s with heap:=h',toks:=tk' }) :
    wpAny (model rw_on0273_01.row.prog w) (AR 900 9000) (call (.ref 61) [.int n tn]) Q E s:=
  ri F X T hn fun t h' tk' F' b'=>post _ _ t h' tk' ⟨rfl,rfl⟩ (lc n) (gp n) (a6 hn) F' b'
theorem rw4:True:=by
  k_with "call ref"=>(k_here; (with_reducible show wpAny _ _ (call (Value.ref 61) [Value.int _ _]) _ _ _); (with_reducible rename News _ _ _ _=>qkN0); k_dflt (refine' aH (A':=AR 900 9000) (pT ?F ?X ?T ?n ?_) rfl ?a rfl rfl ?c; (case F=>k_asm); (case X=>k_asm); (case T=>k_asm); (case n=>first | omega | exact bY _ | exact cA (by assumption)); (case a=>k_room); (case c=>k_units)); intro qb' qf' qt qh' qtk' qdecH' qbI' qfLo' qfHi' qF' qbt'; (have qN':=news_but0 qkN0 qbt'); clear qkN0; (try k_sweep))
  trivial
noncomputable def escTab:List (Int×Array UInt8):=[(10,#[92,110]),(13,#[92,114]),(9,#[92,116]),(8,#[92,98]),(12,#[92,102]),(40,#[92,40]),(41,#[92,41]),(92,#[92,92])]
noncomputable def dE (o:Int):Array UInt8:=match escTab.lookup o with
  | some b=>b
  | none=>if 32≤o∧o≤126 then byteArr [o] else byteArr [92,48+o.fdiv 64,48+(o.fdiv 8).fmod 8,48+o.fmod 8]
theorem rw5:True:=by
  k_with "binaryOp Add bytes bytes"=>(k_here; (refine KBy.add_bytes ?hz ?_; (case hz=>((try simp only [Array.size_append,List.size_toArray,List.length_cons,List.length_nil,byteArr_size]); omega)); intro qt' qk'))
  k_with "getMethod bytes"=>(k_here; (with_reducible show wpAny _ _ (getMethod (Value.bytes _ _) (PySem.Str.ofString "join") _) _ _ _); refine KBd.method_of (.bytes _ _) (typeIs_bytes _ _ _) d4 kc KBd.noRef ?_)
  k_with "call builtin:bytes.join"=>(k_here; (refine' call_meetsIn d4 (typeIs_bytes _ _ _) gU (jZ _ _) (gN ?hb ?hz) ⟨?hl,?_⟩; (case hb=>assumption); (case hz=>assumption); (case hl=>(refine' News.isList ?jN ?jm; (case jN=>k_asm); (case jm=>k_mem))); intro qt' qk'))
  trivial
section
variable {prog:Program} {w:World} {A:Around} {E:Value→Shared→Prop} {s:Shared} {h₀:Heap} {L:Addr} {m:Str→Option Value} {env:Env}
open LCg in
theorem iC (_F:Fr h₀ L s.heap m) {elt iter:Expr} {x:Str} {px:Pos} {scope:Scope} {cl:List (Str×Addr)} {pos:Pos} {Q:Value→Shared→Prop}
    (hclos:closureFor scope env=pure cl) (hcell:∀ y∈scope.names,y.2≠.cell) (hkind:scope.kind=.function)
    (hnames:∀ y∈scope.names,y.2=.local→scope.names.lookup y.1=some .local) (hx:scope.names.lookup x=some .local)
    (h:wpAny (model prog w) A (eval iter env) (fun xv s₁=>bO (∃ b t news,xv=.bytes b t∧A.handled=none∧Fr h₀ L s₁.heap m∧News h₀ L s₁.heap news∧b.size≤sizeLine∧
      ∀ g,CompRest prog w A h₀ L m env elt x scope cl { s₁ with heap:=g } (fun z_=>True) (fun i v=>∃ c u,b[i]?=some c∧v=.int (c.toNat:Int) u) (FinE h₀ L m { s₁ with heap:=g } Q) b.size 0 [] news)) E s)
    (hs:∀ x,foldedSetIterable iter env x=pure x) :
    wpAny (model prog w) A (eval (.ListComp elt [⟨.Name x px,iter,[],0⟩] scope pos) env) Q E s:=by
  rw [eval_ListComp]
  refine wpAny_comprehension_free (use:=none) rfl hs hclos hkind hnames (wpAny_mono h (fun xv s₁ h₁=>?_) fun _ _ e=>e)
  obtain ⟨b,t,news,rfl,hh,F,N,hsz,R⟩:=h₁
  refine KBw.pyIter_bytes ?_
  have up:∀ x o,s₁.heap.get? x=some o→(s₁.heap.push { cls:=.type "bytes_iterator",data:=.fields #[.bytes b t,.int 0 0] }).get? x=some o:=fun x o e=>Heap.get?_push_of_some _ e
  refine block_U (KBw.walks hh s₁.heap.objs.size b t) hsz (fun i h st=>by obtain ⟨o,e,_⟩:=st; exact ⟨o,e⟩)
    (fun i h h' o nw st e e' _ _ _=>by obtain ⟨o',q,r⟩:=st; rw [e] at q; cases q; exact ⟨o,e',r⟩) hcell hkind hx ⟨_,Heap.get?_push_size _ rfl,rfl,rfl⟩
    (fun y hy=>by rw [List.mem_singleton.mp hy]; show s₁.heap.objs.size<(s₁.heap.push _).objs.size; rw [Heap.size_push]; exact Nat.lt_succ_self _)
    (F.keeps up) (N.grown up) (Nat.ne_of_lt F.ns.lt) (next_is_new F) (fun p hp=>Nat.ne_of_lt (Heap.lt_size (N p hp).1)) trivial (R _) ?_
  intro D C h tk m' ys news' F' N' o1 hn hC₀ hD₀ hCL hDL hCD offC fin
  refine ⟨m',hn,fun h'' hs''=>fin D h'' tk (F'.change hs'' hCL hC₀) (fun p hp=>?_) o1⟩
  refine ⟨hs''.extBut _ _ ?_ (N' p hp).1,(N' p hp).2⟩
  rcases List.mem_cons.mp hp with rfl | hp
  · exact Ne.symm hCD
  · exact offC p hp
end
noncomputable def eL (l:List UInt8):List (Array UInt8):=l.map fun c=>dE (c.toNat:Int)
noncomputable def nI (o:Array UInt8):Array UInt8:=#[40]++Builtin.Bytes.joined #[] (eL o.toList)++#[41]
set_option tactic.hygienic true in
theorem kF (o:Int):(dE o).size≤4:=by
  unfold dE
  split
  · rename_i b h
    have:∀ p∈escTab,p.2.size≤4:=by decide
    obtain ⟨l1,l2,h2,-⟩:=List.lookup_eq_some_iff.mp h
    exact this (o,b) (by rw [h2]; simp)
  · split
    · exact Nat.le_of_ble_eq_true rfl
    · exact Nat.le_of_ble_eq_true rfl
theorem cz:∀ (l:List UInt8),ah (eL l)≤4*l.length
  | []=>Nat.le_refl _
  | c::l=>by
    have h1:=kF (c.toNat:Int)
    have h2:=cz l
    have h3:ah (eL (c::l))=(dE (c.toNat:Int)).size+ah (eL l):=by simp [ah,eL]
    rw [h3,List.length_cons]; exact lin (.c _ (.c _ (.c _ .z))) (.c (.v 0) (.k 4) (.c (.v 1) (.m 4 (.v 2)) .z)) (.a (.v 0) (.v 1)) (.m 4 (.a (.v 2) (.k 1))) rfl h1 h2
theorem aB.append {vs ws:List Value} {bs cs:List (Array UInt8)} (h:aB vs bs) (k:aB ws cs):aB (vs++ws) (bs++cs):=by
  induction h with
  | nil=>exact k
  | cons b t _ ih=>exact .cons b t ih
theorem aB.snoc {vs:List Value} {bs:List (Array UInt8)} (h:aB vs bs) (b:Array UInt8) (t:Tok):aB (vs++[.bytes b t]) (bs++[b]):=h.append (.cons b t .nil)
noncomputable def stripR:List Int→List Int
  | 48::y::r=>stripR (y::r)
  | l=>l
noncomputable def strip (l:List Int):List Int:=(stripR l.reverse).reverse
noncomputable def gK (n:Int):Int:=if n<0 then -n else n
noncomputable def dQ (n:Int):List Int:=strip ((aM (1000000+(gK n).fmod 1000000)).drop 1)
noncomputable def bh (n:Int):Array UInt8:=(if n<0 then #[45] else #[])++byteArr (aM ((gK n).fdiv 1000000))++#[46]++byteArr (dQ n)
structure bj (f0 f:List Int):Prop where
  eq:strip f=strip f0
  inn:∀ x∈f,0≤x∧x<256
theorem strip_end {f:List Int} (h:f.length≤1∨f.getD (f.length - 1) 0≠48):strip f=f:=by
  unfold strip
  have:stripR f.reverse=f.reverse:=by
    rcases q:f.reverse with _ | ⟨a,_ | ⟨b,r⟩⟩
    · rfl
    · simp [stripR]
    · have e:f=(b::r).reverse++[a]:=by rw [← List.reverse_reverse f,q]; simp
      have ha:a≠48:=by
        rcases h with h | h
        · rw [e] at h; simp at h
        · rw [e] at h; simpa [List.getD] using h
      unfold stripR
      split
      · rename_i h2; simp at h2; exact absurd h2.1 ha
      · rfl
  rw [this,List.reverse_reverse]
theorem jj {f:List Int} (h1:1<f.length) (h2:f.getD (f.length - 1) 0=48):strip (f.take (f.length - 1))=strip f:=by
  rcases q:f.reverse with _ | ⟨a,_ | ⟨b,r⟩⟩
  · have:=congrArg List.length q; simp at this; subst this; simp at h1
  · have:=congrArg List.length q; simp at this; omega
  · have e:f=(b::r).reverse++[a]:=by rw [← List.reverse_reverse f,q]; simp
    have ha:a=48:=by rw [e] at h2; simpa [List.getD] using h2
    subst ha
    have e2:f.take (f.length - 1)=(b::r).reverse:=by
      rw [e]; simp only [List.length_append,List.length_singleton,Nat.add_sub_cancel,List.take_left']
    unfold strip
    rw [e2,q,List.reverse_reverse]
    congr 1
theorem nW {b:Array UInt8} {f:List Int} (h:KBw.bInts b=f):b=byteArr f:=by
  subst h
  unfold byteArr KBw.bInts
  apply Array.ext'
  rw [List.map_map]
  refine (List.map_id _).symm.trans (List.map_congr_left fun c _=>?_)
  show c=((c.toNat:Int).toNat).toUInt8
  simp
theorem xo {b:Array UInt8} {f:List Int} (h1:1≤f.length) (h:KBw.bInts b=List.take (f.length - clipAt f.length 1) (List.drop (clipAt f.length 1) f)):KBw.bInts b=f.drop 1:=by
  have e:clipAt f.length 1=1:=by
    have:=clipAt_nat f.length 1
    show clipAt f.length ((1:Nat):Int)=1
    rw [this]; omega
  rw [h,e,List.take_of_length_le (by simp)]
theorem fs {f0 f g:List Int} (h:bj f0 f) (h1:1<f.length) (h2:f.getD (f.length - 1) 0=48) (hg:g=f.take (f.length - 1)):bj f0 g:=by
  subst hg
  exact ⟨(jj h1 h2).trans h.eq,fun x hx=>h.inn x (List.mem_of_mem_take hx)⟩
theorem fE {f0 f:List Int} (h:bj f0 f) (h1:f.length≤1∨f.getD (f.length - 1) 0≠48):f=strip f0:=by
  rw [← h.eq,strip_end h1]
theorem gh {n:Int} {b1 b2 bb:Array UInt8} {f1 f2 f:List Int} (h1:DecIs (1000000+(if n<0 then -n else n).fmod 1000000) b1 f1) (h2:DecIs ((if n<0 then -n else n).fdiv 1000000) b2 f2) (hI:KBw.bInts bb=f) (hP:bj (f1.drop 1) f)
    (he:¬ 1<(f.length:Int)∨f.getD ((f.length:Int) - 1).toNat 0≠48):bh n=(if n<0 then #[45] else #[])++b2++#[46]++bb:=by
  have e:f=dQ n:=by
    unfold dQ gK
    rw [← h1.f_eq]
    refine fE hP (he.imp (fun h=>by exact kN (.c _ .z) .z (.c (.u (.v 0)) (.k 1) .z) (.v 0) (.k 1) rfl (Int.not_lt.mp h)) fun h=>?_)
    rw [show f.length - 1=((f.length:Int) - 1).toNat by omega]
    exact h
  unfold bh
  rw [nW hI,e,h2.b_eq]
  rfl
theorem kA {n:Int} {b1 b2 bb:Array UInt8} {f1 f2 f:List Int} (h1:DecIs (1000000+(if n<0 then -n else n).fmod 1000000) b1 f1) (h2:DecIs ((if n<0 then -n else n).fdiv 1000000) b2 f2) (hI:KBw.bInts bb=f) (hP:bj (f1.drop 1) f)
    (he:¬ 1<(f.length:Int)∨f.getD ((f.length:Int) - 1).toNat 0≠48) (hn:n<0):bh n=#[45]++b2++#[46]++bb:=by
  rw [gh h1 h2 hI hP he,if_pos hn]
theorem kt {n:Int} {b1 b2 bb:Array UInt8} {f1 f2 f:List Int} (h1:DecIs (1000000+(if n<0 then -n else n).fmod 1000000) b1 f1) (h2:DecIs ((if n<0 then -n else n).fdiv 1000000) b2 f2) (hI:KBw.bInts bb=f) (hP:bj (f1.drop 1) f)
    (he:¬ 1<(f.length:Int)∨f.getD ((f.length:Int) - 1).toNat 0≠48) (hn:¬ n<0):bh n=#[]++b2++#[46]++bb:=by
  rw [gh h1 h2 hI hP he,if_neg hn]
theorem strip_cut {b:Array UInt8} {f:List Int} (hl:1<(f.length:Int)) (h:KBw.bInts b=List.take (clipAt f.length ((f.length:Int) - 1)) f):KBw.bInts b=f.take (f.length - 1):=by
  have e:clipAt f.length ((f.length:Int) - 1)=f.length - 1:=by
    have:=clipAt_nat f.length (f.length - 1)
    rw [show (f.length:Int) - 1=((f.length - 1:Nat):Int) by omega,this]; omega
  rw [h,e]
theorem iH {f:List Int} (h:f.getD ((f.length:Int) - 1).toNat 0=48):f.getD (f.length - 1) 0=48:=by
  rw [show f.length - 1=((f.length:Int) - 1).toNat by omega]; exact h
theorem j4 {w:World} {p:Program} {loose:List Str} {mean:ExcName→Option Value} {mg mb:Str→Option Value} {s:Shared} {h₀:Heap} {L:Addr} {m:Str→Option Value}
    {n:Int} {tk tn:Tok} {Q E:Value→Shared→Prop}
    (F:Fr h₀ L s.heap m) (X:(Mine.hd.heap_1 w.params).In h₀) (T:Top p loose mean mg mb h₀)
    (hn:n.natAbs≤600000000)
    (post:∀ t h' tk',Fr h₀ L h' m→But [] s.heap h'→Q (.bytes (bh n) t) { s with heap:=h',toks:=tk' }) :
    wpAny (model rw_on0273_01.row.prog w) (AR 890 8900) (call (.ref 68) [.str (Str.ofString "real") tk,.int n tn]) Q E s:=by
  have N:News h₀ L s.heap []:=News.nil
  have mk2:Mk 2:=⟨⟩
  k_with "exec While BoolOp cons nil"=>((with_reducible rename Mk 2=>mk2); refine bM ?_)
  k_with "KswEnd"=>((with_reducible rename Mk 2=>mk2); refine bM ?_)
  refine wpAny_call ?_
  k_enter
  k_steps
  unfold bO
  (with_reducible rename Fr _ _ _ _=>lF)
  (with_reducible rename News _ _ _ _=>lN)
  have hK:=xo (by assumption) (by assumption)
  (with_reducible rename DecIs _ _ _=>hD)
  (with_reducible rename List Int=>f1)
  refine' ksw_while (σ:=Array UInt8×Tok×List Int) (fun z_=>[]) (fun c=>[(Str.ofString "behind",.bytes c.1 c.2.1)]) (fun c=>KBw.bInts c.1=c.2.2) [Str.ofString "behind"]
      (fun c=>c.2.2.length≤9∧bj (f1.drop 1) c.2.2) (fun c=>c.2.2.length) (_,_,f1.drop 1) lF lN hK ?hk ?hp ?turn
  case hk=>(intro p hp; rcases List.mem_cons.mp hp with rfl | hp <;> first | rfl | exact nomatch hp)
  case hp=>exact ⟨by simp only [List.length_drop]; exact lin (.c _ (.c _ .z)) (.c (.v 0) (.k 9) (.c (.v 1) (.v 0) .z)) (.v 1) (.k 9) rfl (by assumption) (Nat.sub_le _ _),rfl,fun x hx=>by rw [hD.f_eq] at hx; exact b6 _ x (List.mem_of_mem_drop hx)⟩
  case turn=>
    clear lF lN
    rintro ⟨bb,tb,f⟩ u hh tk hI ⟨hl,hP⟩ hF hN
    dsimp only at hI hl hP hF hN ⊢
    try k_fold
    k_steps
    all_goals first
      | (rw [← kA hD (by assumption) hI hP (by first | exact Or.inl (by assumption) | exact Or.inr (by assumption)) (by assumption)]; exact post _ _ _ (by assumption) (But.of (by assumption) (by assumption)))
      | (rw [← kt hD (by assumption) hI hP (by first | exact Or.inl (by assumption) | exact Or.inr (by assumption)) (by assumption)]; exact post _ _ _ (by assumption) (But.of (by assumption) (by assumption)))
      | skip
    all_goals (
      unfold bO
      (with_reducible rename Fr _ _ _ _=>eF)
      (with_reducible rename News _ _ _ _=>eN)
      refine ksw_end (_,_,f.take (f.length - 1)) eF eN (fun p hp=>nomatch hp) (strip_cut (by assumption) (by assumption)) (fun p hp=>by rcases List.mem_cons.mp hp with rfl | hp <;> first | rfl | exact nomatch hp) (by intro z h2 h3; have h2:=h2 _ (.head _); simp [kstB,h2]) ⟨?_,fs hP (by exact kN (.c _ .z) .z (.c (.a (.k 1) (.k 1)) (.u (.v 0)) .z) (.a (.k 1) (.k 1)) (.v 0) rfl (by assumption)) (iH (by assumption)) rfl⟩ ?_
      · simp only [List.length_take]; exact lin (.c _ (.c _ .z)) (.c (.v 0) (.k 9) (.c (.v 1) (.v 0) .z)) (.v 1) (.k 9) rfl hl (Nat.min_le_right _ _)
      · simp only [List.length_take]; omega)
theorem kh {w:World} {p:Program} {loose:List Str} {mean:ExcName→Option Value} {mg mb:Str→Option Value} {s:Shared} {h₀:Heap} {L:Addr} {m:Str→Option Value}
    {n:Int} {tk tn:Tok} {Q E:Value→Shared→Prop}
    (F:Fr h₀ L s.heap m) (X:(Mine.hd.heap_1 w.params).In h₀) (T:Top p loose mean mg mb h₀)
    (hn:n.natAbs≤2000000)
    (post:∀ t h' tk',Fr h₀ L h' m→But [] s.heap h'→Q (.bytes (byteArr (aM n)) t) { s with heap:=h',toks:=tk' }) :
    wpAny (model rw_on0273_01.row.prog w) (AR 890 8900) (call (.ref 68) [.str (Str.ofString "integer") tk,.int n tn]) Q E s:=by
  have N:News h₀ L s.heap []:=News.nil
  refine wpAny_call ?_
  k_enter
  k_steps
  (with_reducible rename DecIs _ _ _=>hD)
  rw [hD.b_eq]
  exact post _ _ _ (by assumption) (But.of (by assumption) (by assumption))
set_option genCtorIdx true in
inductive Wd | mark | null | dict | save | fontid
noncomputable def Wd.kind:Wd→Str
  | .mark=>Str.ofString "mark" | .null=>Str.ofString "null" | .dict=>Str.ofString "dict" | .save=>Str.ofString "save" | .fontid=>Str.ofString "fontid"
noncomputable def Wd.bytes:Wd→Array UInt8
  | .mark=>#[45,109,97,114,107,45] | .null=>#[110,117,108,108] | .dict=>#[45,100,105,99,116,45]
  | .save=>#[45,115,97,118,101,108,101,118,101,108,45] | .fontid=>#[45,102,111,110,116,105,100,45]
set_option genCtorIdx true in
inductive Tr
  | int (n:Int) | real (n:Int) | bool (b:Bool) | name (o:Array UInt8) (x:Bool) | op (o:Array UInt8) | word (k:Wd) | str (o:Array UInt8) (r:Bool)
  | row (ts:List Tr) (r x p:Bool)
noncomputable abbrev aS (vs:Array Value) (n:Nat):Obj:={ cls:=.type "tuple",data:=.seq vs n }
noncomputable abbrev aZ (P:Params) (k:Str) (v:Value) (x:Bool) (ac:Int) (t t0 t1 t2 t3 t4:Tok):Obj:=
  dictOf [⟨PyData.keyHash P (Str.ofString "kind"),.str (Str.ofString "kind") t1,.str k t⟩,⟨PyData.keyHash P (Str.ofString "value"),.str (Str.ofString "value") t2,v⟩,
    ⟨PyData.keyHash P (Str.ofString "is_exec"),.str (Str.ofString "is_exec") t3,.bool x⟩,⟨PyData.keyHash P (Str.ofString "access"),.str (Str.ofString "access") t4,.int ac t0⟩] 4
noncomputable abbrev cK (P:Params) (b:Value) (i k:Int) (ti tk t1 t2 t3:Tok):Obj:=
  dictOf [⟨PyData.keyHash P (Str.ofString "body"),.str (Str.ofString "body") t1,b⟩,⟨PyData.keyHash P (Str.ofString "start"),.str (Str.ofString "start") t2,.int i ti⟩,⟨PyData.keyHash P (Str.ofString "many"),.str (Str.ofString "many") t3,.int k tk⟩] 3
noncomputable abbrev bc (P:Params) (wd:Str) (n v g l:Value) (t1 t2 t3 t4:Tok):Obj:=
  dictOf [⟨PyData.keyHash P (Str.ofString "number"),.str (Str.ofString "number") t1,n⟩,⟨PyData.keyHash P wd,.str wd t2,v⟩,
    ⟨PyData.keyHash P (Str.ofString "is_global"),.str (Str.ofString "is_global") t3,g⟩,⟨PyData.keyHash P (Str.ofString "level"),.str (Str.ofString "level") t4,l⟩] 4
section
variable (P:Params) (R:List (Addr×Obj))
mutual
inductive al:Value→Tr→Prop
  | int {a d:Addr} {n:Int} {tn:Tok} {x:Bool} {ac:Int} {t t0 t1 t2 t3 t4:Tok}:(a,instObj 86 d)∈R→(d,aZ P (Str.ofString "integer") (.int n tn) x ac t t0 t1 t2 t3 t4)∈R→al (.ref a) (.int n)
  | real {a d:Addr} {n:Int} {tn:Tok} {x:Bool} {ac:Int} {t t0 t1 t2 t3 t4:Tok}:(a,instObj 86 d)∈R→(d,aZ P (Str.ofString "real") (.int n tn) x ac t t0 t1 t2 t3 t4)∈R→al (.ref a) (.real n)
  | bool {a d:Addr} {b:Bool} {x:Bool} {ac:Int} {t t0 t1 t2 t3 t4:Tok}:(a,instObj 86 d)∈R→(d,aZ P (Str.ofString "boolean") (.bool b) x ac t t0 t1 t2 t3 t4)∈R→al (.ref a) (.bool b)
  | name {a d:Addr} {o:Array UInt8} {tn:Tok} {x:Bool} {ac:Int} {t t0 t1 t2 t3 t4:Tok}:(a,instObj 86 d)∈R→(d,aZ P (Str.ofString "name") (.bytes o tn) x ac t t0 t1 t2 t3 t4)∈R→al (.ref a) (.name o x)
  | op {a d:Addr} {o:Array UInt8} {tn:Tok} {x:Bool} {ac:Int} {t t0 t1 t2 t3 t4:Tok}:(a,instObj 86 d)∈R→(d,aZ P (Str.ofString "operator") (.bytes o tn) x ac t t0 t1 t2 t3 t4)∈R→al (.ref a) (.op o)
  | word {a d:Addr} {k:Wd} {v:Value} {x:Bool} {ac:Int} {t t0 t1 t2 t3 t4:Tok}:(a,instObj 86 d)∈R→(d,aZ P k.kind v x ac t t0 t1 t2 t3 t4)∈R→al (.ref a) (.word k)
  | str {a d sp sd tx td ba:Addr} {b:Array UInt8} {i k:Int} {n g l:Value} {x:Bool} {ac:Int} {ti tk t t0 t1 t2 t3 t4 u1 u2 u3 u4 w1 w2 w3:Tok} :
      (a,instObj 86 d)∈R→(d,aZ P (Str.ofString "string") (.ref sp) x ac t t0 t1 t2 t3 t4)∈R→(sp,instObj 182 sd)∈R→(sd,cK P (.ref tx) i k ti tk w1 w2 w3)∈R→
      (tx,instObj 107 td)∈R→(td,bc P (Str.ofString "octets") n (.ref ba) g l u1 u2 u3 u4)∈R→(ba,a8 b)∈R→b.size≤100→al (.ref a) (.str (KBy.picked b (some i) (some (i+k))) (decide (2≤ac)))
  | row {a d sp sd rw rd li:Addr} {p:Bool} {vs:List Value} {m:Nat} {i k:Int} {n g l:Value} {x:Bool} {ac:Int} {ts:List Tr} {ti tk t t0 t1 t2 t3 t4 u1 u2 u3 u4 w1 w2 w3:Tok} :
      (a,instObj 86 d)∈R→(d,aZ P (if p then Str.ofString "packed" else Str.ofString "array") (.ref sp) x ac t t0 t1 t2 t3 t4)∈R→(sp,instObj 182 sd)∈R→(sd,cK P (.ref rw) i k ti tk w1 w2 w3)∈R→
      (rw,instObj 128 rd)∈R→(rd,bc P (Str.ofString "things") n (.ref li) g l u1 u2 u3 u4)∈R→(li,listOf vs.toArray m)∈R→vs.length≤100→am (slicePick vs.toArray (some i) (some (i+k)) none).toList ts→
      al (.ref a) (.row ts (decide (2≤ac)) x p)
inductive am:List Value→List Tr→Prop
  | nil:am [] []
  | cons {v:Value} {vs:List Value} {t:Tr} {ts:List Tr}:al v t→am vs ts→am (v::vs) (t::ts)
end
end
end
section
noncomputable def truthB (b:Bool):Array UInt8:=if b then #[116,114,117,101] else #[102,97,108,115,101]
mutual
noncomputable def shown:Tr→Int→Array UInt8
  | .int n,_=>byteArr (aM n)
  | .real n,_=>bh n
  | .bool b,_=>truthB b
  | .name o x,_=>if x then o else #[47]++o
  | .op o,_=>#[45,45]++o++#[45,45]
  | .word k,_=>k.bytes
  | .str o r,_=>if r then nI o else #[45,115,116,114,105,110,103,45]
  | .row ts r x p,d=>
    if r=false∨d≤0 then (if p then #[45,112,97,99,107,101,100,97,114,114,97,121,45] else #[45,97,114,114,97,121,45])
    else if x then #[123]++Builtin.Bytes.joined #[32] (shownL ts (d - 1))++#[125] else #[91]++Builtin.Bytes.joined #[32] (shownL ts (d - 1))++#[93]
noncomputable def shownL:List Tr→Int→List (Array UInt8)
  | [],_=>[]
  | t::ts,d=>shown t d::shownL ts d
end
noncomputable def kX:Tr→Array UInt8
  | .int n=>byteArr (aM n)
  | .real n=>bh n
  | .bool b=>truthB b
  | .name o _=>o
  | .op o=>o
  | .str o true=>o
  | _=>#[45,45,110,111,115,116,114,105,110,103,118,97,108,45,45]
inductive aW:Nat→Tr→Prop
  | int {k:Nat} {n:Int}:n.natAbs≤2000000→aW k (.int n)
  | real {k:Nat} {n:Int}:n.natAbs≤600000000→aW k (.real n)
  | bool {k:Nat} {b:Bool}:aW k (.bool b)
  | name {k:Nat} {o:Array UInt8} {x:Bool}:o.size≤100→aW k (.name o x)
  | op {k:Nat} {o:Array UInt8}:o.size≤100→aW k (.op o)
  | word {k:Nat} {c:Wd}:aW k (.word c)
  | str {k:Nat} {o:Array UInt8} {r:Bool}:o.size≤100→aW k (.str o r)
  | row {k:Nat} {ts:List Tr} {r x p:Bool}:ts.length≤3→(∀ t∈ts,aW k t)→aW (k+1) (.row ts r x p)
theorem mw (n:Int):(dQ n).length≤9:=by
  have h1:∀ l:List Int,(stripR l).length≤l.length:=by
    intro l
    induction l using stripR.induct with
    | case1 y r ih=>unfold stripR; simp only [List.length_cons] at ih ⊢; exact lin (.c _ (.c _ .z)) (.c (.v 0) (.a (.v 1) (.k 1)) .z) (.v 0) (.a (.a (.v 1) (.k 1)) (.k 1)) rfl ih
    | case2 l h=>unfold stripR; split <;> first | exact Nat.le_refl _ | (exact absurd rfl (h _ _))
  have h2:=h1 ((aM (1000000+(gK n).fmod 1000000)).drop 1).reverse
  have h3:=a6 (bY (gK n))
  unfold dQ strip
  rw [List.length_reverse]
  rw [List.length_reverse,List.length_drop] at h2
  exact lin (.c _ (.c _ (.c _ .z))) (.c (.v 0) (.v 1) (.c (.v 2) (.k 9) (.c (.v 1) (.v 2) .z))) (.v 0) (.k 9) rfl h2 h3 (Nat.sub_le _ _)
theorem jF {n:Int} (h:n.natAbs≤600000000):(bh n).size≤30:=by
  have h1:=mw n
  have h2:(aM ((gK n).fdiv 1000000)).length≤9:=a6 (cA h)
  unfold bh
  simp only [Array.size_append,byteArr_size]
  split <;> simp <;> (first | exact lin (.c _ (.c _ .z)) (.c (.v 0) (.k 9) (.c (.v 1) (.k 9) .z)) (.a (.a (.a (.k 1) (.v 1)) (.k 1)) (.v 0)) (.k 30) rfl h1 h2 | exact lin (.c _ (.c _ .z)) (.c (.v 0) (.k 9) (.c (.v 1) (.k 9) .z)) (.a (.a (.v 1) (.k 1)) (.v 0)) (.k 30) rfl h1 h2)
theorem kC {o:Array UInt8} (h:o.size≤100):(nI o).size≤402:=by
  have h1:=dk #[] (eL o.toList)
  have h4:=cz o.toList
  have h2:o.toList.length=o.size:=by simp
  have h3:(#[]:Array UInt8).size=0:=rfl
  rw [h3] at h1
  unfold nI
  simp only [Array.size_append]
  simp
  exact lin (.c _ (.c _ (.c _ (.c _ (.c _ .z))))) (.m 4 (.v 0) (.k 100) (.c (.v 1) (.a (.m 0 (.v 2)) (.v 3)) (.c (.v 3) (.m 4 (.v 4)) (.m 4 (.v 4) (.v 0) .z)))) (.a (.k 1) (.v 1)) (.k 401) rfl h h1 h4 (cb h2)
mutual
theorem jh:∀ {t:Tr} {k:Nat} (d:Int),aW k t→(shown t d).size≤500*4 ^ k
  | .int n,k,d,h=>by cases h with | int h=>(have:=a6 h; have:=Nat.one_le_pow k 4 (by exact lin .z .z (.a (.k 0) (.k 1)) (.k 4) rfl ); simp only [shown,byteArr_size]; exact lin (.c _ (.c _ .z)) (.c (.v 0) (.k 9) (.m 500 (.k 1) (.v 1) .z)) (.v 0) (.m 500 (.v 1)) rfl (by assumption) this)
  | .real n,k,d,h=>by cases h with | real h=>(have:=jF h; have:=Nat.one_le_pow k 4 (by exact lin .z .z (.a (.k 0) (.k 1)) (.k 4) rfl ); simp only [shown]; exact lin (.c _ (.c _ .z)) (.c (.v 0) (.k 30) (.m 500 (.k 1) (.v 1) .z)) (.v 0) (.m 500 (.v 1)) rfl (by assumption) this)
  | .bool b,k,d,h=>by (have:=Nat.one_le_pow k 4 (by exact lin .z .z (.a (.k 0) (.k 1)) (.k 4) rfl ); cases b <;> simp [shown,truthB] <;> (first | exact lin (.c _ .z) (.m 500 (.k 1) (.v 0) .z) (.k 5) (.m 500 (.v 0)) rfl this | exact lin (.c _ .z) (.m 500 (.k 1) (.v 0) .z) (.k 4) (.m 500 (.v 0)) rfl this))
  | .name o x,k,d,h=>by cases h with | name h=>(have:=Nat.one_le_pow k 4 (by exact lin .z .z (.a (.k 0) (.k 1)) (.k 4) rfl ); simp only [shown]; split <;> simp <;> (first | exact lin (.c _ (.c _ .z)) (.c (.v 0) (.k 100) (.m 500 (.k 1) (.v 1) .z)) (.v 0) (.m 500 (.v 1)) rfl h this | exact lin (.c _ (.c _ .z)) (.c (.v 0) (.k 100) (.m 500 (.k 1) (.v 1) .z)) (.a (.k 1) (.v 0)) (.m 500 (.v 1)) rfl h this))
  | .op o,k,d,h=>by cases h with | op h=>(have:=Nat.one_le_pow k 4 (by exact lin .z .z (.a (.k 0) (.k 1)) (.k 4) rfl ); simp [shown]; exact lin (.c _ (.c _ .z)) (.c (.v 0) (.k 100) (.m 500 (.k 1) (.v 1) .z)) (.a (.k 2) (.a (.v 0) (.k 2))) (.m 500 (.v 1)) rfl h this)
  | .word c,k,d,h=>by (have:=Nat.one_le_pow k 4 (by exact lin .z .z (.a (.k 0) (.k 1)) (.k 4) rfl ); cases c <;> simp [shown,Wd.bytes] <;> (first | exact lin (.c _ .z) (.m 500 (.k 1) (.v 0) .z) (.k 6) (.m 500 (.v 0)) rfl this | exact lin (.c _ .z) (.m 500 (.k 1) (.v 0) .z) (.k 4) (.m 500 (.v 0)) rfl this | exact lin (.c _ .z) (.m 500 (.k 1) (.v 0) .z) (.k 11) (.m 500 (.v 0)) rfl this | exact lin (.c _ .z) (.m 500 (.k 1) (.v 0) .z) (.k 8) (.m 500 (.v 0)) rfl this))
  | .str o r,k,d,h=>by cases h with | str h=>(have:=kC h; have:=Nat.one_le_pow k 4 (by exact lin .z .z (.a (.k 0) (.k 1)) (.k 4) rfl ); simp only [shown]; split <;> simp <;> (first | exact lin (.c _ .z) (.m 500 (.k 1) (.v 0) .z) (.k 8) (.m 500 (.v 0)) rfl this | exact lin (.c _ (.c _ .z)) (.c (.v 0) (.k 402) (.m 500 (.k 1) (.v 1) .z)) (.v 0) (.m 500 (.v 1)) rfl (by assumption) this))
  | .row ts r x p,_,d,.row (k:=k) hl h=>by
    have h1:=cw (d - 1) h
    have h2:=dk #[32] (shownL ts (d - 1))
    have h3:(#[32]:Array UInt8).size=1:=rfl
    have h5:=Nat.one_le_pow k 4 (by exact lin .z .z (.a (.k 0) (.k 1)) (.k 4) rfl )
    rw [h3,h1.2] at h2
    have h6:ts.length*(500*4 ^ k)≤3*(500*4 ^ k):=Nat.mul_le_mul_right _ hl
    have h7:=h1.1
    simp only [shown,Nat.pow_succ]
    split
    · split <;> simp <;> omega
    · split <;> simp <;> omega
theorem cw:∀ {ts:List Tr} {k:Nat} (d:Int),(∀ t∈ts,aW k t)→ah (shownL ts d)≤ts.length*(500*4 ^ k)∧(shownL ts d).length=ts.length
  | [],k,d,_=>by simp [shownL,ah]
  | t::ts,k,d,h=>by
    have h1:=jh (t:=t) (k:=k) d (h t (List.mem_cons_self ..))
    have h2:=cw (ts:=ts) (k:=k) d fun u hu=>h u (List.mem_cons_of_mem _ hu)
    have e:ah (shownL (t::ts) d)=(shown t d).size+ah (shownL ts d):=by simp [shownL,ah]
    refine ⟨?_,?_⟩
    · rw [e,List.length_cons,Nat.add_mul,Nat.one_mul]; exact lin (.c _ (.c _ (.c _ (.c _ .z)))) (.c (.v 0) (.m 500 (.v 1)) (.c (.v 2) (.v 3) .z)) (.a (.v 0) (.v 2)) (.a (.v 3) (.m 500 (.v 1))) rfl h1 h2.1
    · show (shown t d::shownL ts d).length=_
      rw [List.length_cons,List.length_cons,h2.2]
end
theorem But.full {R all:List (Addr×Obj)} {h₀ h g h':Heap} {L L':Addr} {m':Str→Option Value} (b:But (R.map (·.1)) h g) (N0:News h₀ L h R) (F:Fr g L' h' m') (N':News g L' h' all) (sub:∀ p∈R,p∈all):But [] h h':=by
  intro x o e _
  by_cases hx:x∈R.map (·.1)
  · obtain ⟨p,hp,rfl⟩:=List.mem_map.mp hx
    rw [(N0 p hp).1] at e
    cases e
    exact (N' p (sub p hp)).1
  · exact F.keep _ _ (b _ _ e hx)
theorem rw6:True:=by
  k_with "k k_mem"=>first | with_reducible exact List.mem_cons_self | (with_reducible refine List.mem_cons_of_mem _ ?_; k_mem) | ((fail_if_success (with_reducible show _∈_::_)); assumption)
  trivial
section
variable {prog:Program} {w:World} {A:Around} {E:Value→Shared→Prop} {s:Shared} {h₀:Heap} {L:Addr} {m:Str→Option Value} {env:Env}
open LCg in
theorem d7 {elt iter:Expr} {x:Str} {px:Pos} {scope:Scope} {cl:List (Str×Addr)} {pos:Pos} {Q:Value→Shared→Prop} (F₀:Fr h₀ L s.heap m)
    (hclos:closureFor scope env=pure cl) (hcell:∀ y∈scope.names,y.2≠.cell) (hkind:scope.kind=.function)
    (hnames:∀ y∈scope.names,y.2=.local→scope.names.lookup y.1=some .local) (hx:scope.names.lookup x=some .local)
    (h:wpAny (model prog w) A (eval iter env) (fun xv s₁=>bO (CompSrc prog w A h₀ L m env elt x scope cl (fun s₂=>FinE h₀ L m s₂ Q) xv s₁)) E s)
    (hs:∀ x,foldedSetIterable iter env x=pure x) :
    wpAny (model prog w) A (eval (.ListComp elt [⟨.Name x px,iter,[],0⟩] scope pos) env) Q E s:=ListComp_U F₀ hclos hcell hkind hnames hx h hs
end
theorem bP {p:Prop} (h:p):bO p:=h
theorem qs {ts:List Tr} {r x:Bool} {d:Int} (h:r=false∨d≤0):shown (.row ts r x false) d=#[45,97,114,114,97,121,45]:=by simp only [shown]; rw [if_pos h]; rfl
theorem o9 {ts:List Tr} {r x:Bool} {d:Int} (h:r=false∨d≤0):shown (.row ts r x true) d=#[45,112,97,99,107,101,100,97,114,114,97,121,45]:=by simp only [shown]; rw [if_pos h]; rfl
theorem oH {ts:List Tr} {r p:Bool} {d:Int} (h1:r=true) (h2:¬ d≤0):shown (.row ts r true p) d=#[123]++Builtin.Bytes.joined #[32] (shownL ts (d - 1))++#[125]:=by
  simp only [shown]; rw [if_neg (by rw [h1]; simpa using h2)]; rfl
theorem pe {ts:List Tr} {r p:Bool} {d:Int} (h1:r=true) (h2:¬ d≤0):shown (.row ts r false p) d=#[91]++Builtin.Bytes.joined #[32] (shownL ts (d - 1))++#[93]:=by
  simp only [shown]; rw [if_neg (by rw [h1]; simpa using h2)]; rfl
theorem rw7:True:=by
  k_with "subscriptTail"=>(k_here; (with_reducible show wpAny _ _ (subscriptTail _ (PySem.Expr.Slice (some _) (some _) none _) (Value.ref _) (Value.ref _)) _ _ _); k_dflt (refine' kmk_slice ?F ?N ?l ?p ?q ?_ ?s ?t ?z; (case F=>k_asm); (case N=>k_asm); (case l=>kmk_list); (case p=>kmk_part); (case q=>kmk_part); (case s=>with_unfolding_all rfl); (case t=>kmk_pure); (case z=>(simp only [List.size_toArray,sizeLine_eq]; omega)); k_whole); intro qD' qh' qF' qN' ql1; (try (have qkq9:=allLt_of ql1; replace ql1:=qkq9; dsimp only [AllLt] at ql1)))
  trivial
section
variable {P:Params} {R R':List (Addr×Obj)}
theorem am.ind (M:List Value→List Tr→Prop) (h0:M [] []) (h1:∀ {v vs t ts},al P R v t→am P R vs ts→M vs ts→M (v::vs) (t::ts)) {vs:List Value} {ts:List Tr} (h:am P R vs ts):M vs ts:=by
  induction ts generalizing vs with
  | nil=>cases h; exact h0
  | cons t ts ih=>cases h with | cons a b=>exact h1 a b (ih b)
theorem al.mono (hs:∀ p∈R,p∈R') {v:Value} {t:Tr} (h:al P R v t):al P R' v t:=
  al.rec (motive_1:=fun v t _=>al P R' v t) (motive_2:=fun vs ts _=>am P R' vs ts) (fun a b=>.int (hs _ a) (hs _ b)) (fun a b=>.real (hs _ a) (hs _ b)) (fun a b=>.bool (hs _ a) (hs _ b)) (fun a b=>.name (hs _ a) (hs _ b)) (fun a b=>.op (hs _ a) (hs _ b)) (fun a b=>.word (hs _ a) (hs _ b)) (fun a b c d e f g z=>.str (hs _ a) (hs _ b) (hs _ c) (hs _ d) (hs _ e) (hs _ f) (hs _ g) z)
    (fun a b c d e f g z _ r=>.row (hs _ a) (hs _ b) (hs _ c) (hs _ d) (hs _ e) (hs _ f) (hs _ g) z r) .nil (fun _ _ a b=>.cons a b) h
theorem am.mono (hs:∀ p∈R,p∈R') {vs:List Value} {ts:List Tr} (h:am P R vs ts):am P R' vs ts:=am.ind _ .nil (fun a _ r=>.cons (a.mono hs) r) h
end
end
section
theorem dU:∀ d:Nat,d<10→(Nat.digitChar d).toNat=48+d:=by decide
theorem kM {n:Nat} (h:n / 10≠0):cF n=(48+((n % 10:Nat):Int))::cF (n / 10):=by
  unfold cF
  rw [cC h]
theorem iO {n:Nat} (h:n / 10=0):cF n=[48+((n % 10:Nat):Int)]:=by
  unfold cF
  rw [h,bJ]
theorem fk:∀ (fuel n:Nat) (ds:List Char),n<fuel→(Nat.toDigitsCore 10 fuel n ds).map Char.toNat=(cF n).reverse.map Int.toNat++ds.map Char.toNat
  | 0,n,ds,h=>absurd h (by exact fun q=>pX (.c _ .z) (.c (.a (.v 0) (.k 1)) (.k 0) .z) rfl h)
  | fuel+1,n,ds,h=>by
    have hd:=dU (n % 10) (by exact lin (.c _ .z) (.c (.a (.v 0) (.k 1)) (.k 10) .z) (.a (.v 0) (.k 1)) (.k 10) rfl (xp _ (n:=10) rfl))
    have hi:(48+((n % 10:Nat):Int)).toNat=48+n % 10:=by exact Nat.le_antisymm (kN (.c _ (.c _ .z)) .z (.c (.u (.v 1)) (.a (.k 48) (.u (.v 0))) .z) (.v 1) (.a (.k 48) (.v 0)) rfl (rD (ax (.c _ (.c _ .z)) .z .z (.k 0) (.a (.k 48) (.u (.v 0))) rfl ))) (kN (.c _ (.c _ .z)) .z (.c (.a (.k 48) (.u (.v 0))) (.u (.v 1)) .z) (.a (.k 48) (.v 0)) (.v 1) rfl (Int.self_le_toNat _))
    unfold Nat.toDigitsCore
    dsimp only
    by_cases h0:n / 10=0
    · rw [if_pos h0,iO h0]
      simp only [List.map_cons,List.reverse_cons,List.reverse_nil,List.nil_append,List.map_nil,List.cons_append]
      rw [hd,hi]
    · rw [if_neg h0,fk fuel (n / 10) _ (by exact lin (.c _ (.c _ (.c _ .z))) (.c (.a (.v 0) (.k 1)) (.a (.v 1) (.k 1)) (.m 9 (.a (.k 0) (.k 1)) (.v 2) (.c (.m 10 (.v 2)) (.v 0) .z))) (.a (.v 2) (.k 1)) (.v 1) rfl h (Nat.pos_of_ne_zero h0) (Nat.mul_div_le _ 10)),kM h0]
      simp only [List.map_cons,List.reverse_cons,List.map_append,List.map_nil,List.append_assoc,List.cons_append,List.nil_append]
      rw [hd,hi]
theorem cJ (m:Nat):(Nat.toDigits 10 m).map Char.toNat=(cF m).reverse.map Int.toNat:=by
  unfold Nat.toDigits
  rw [fk _ _ _ (Nat.lt_succ_self _)]
  simp
theorem pQ (n:Int):(Str.ofString (toString n)).cps.toList=(aM n).map Int.toNat:=by
  rw [Str.ofString_eq_toList]
  show (toString n).toList.map Char.toNat=_
  cases n with
  | ofNat m=>
    have e:toString (Int.ofNat m)=Nat.repr m:=rfl
    have e2:(Nat.repr m).toList=Nat.toDigits 10 m:=by unfold Nat.repr; exact String.toList_ofList
    rw [e,e2,cJ]
    unfold aM
    rw [if_neg (by simp)]
    simp
  | negSucc m=>
    have e:toString (Int.negSucc m) = "-"++Nat.repr (m+1):=rfl
    have e2:(Nat.repr (m+1)).toList=Nat.toDigits 10 (m+1):=by unfold Nat.repr; exact String.toList_ofList
    have e3:("-":String).toList.map Char.toNat=[45]:=by decide
    rw [e,String.toList_append,List.map_append,e2,cJ,e3]
    unfold aM
    rw [if_pos (Int.negSucc_lt_zero m)]
    have e4:(Int.negSucc m).natAbs=m+1:=rfl
    rw [e4]
    simp
structure Sg (x:Str) (f:List Int):Prop where
  cps:x.cps.toList=f.map Int.toNat
theorem Sg.len {x:Str} {f:List Int} (h:Sg x f):x.length=f.length:=by
  have:=congrArg List.length h.cps
  simpa [Str.length] using this
theorem Sg.append {x y:Str} {f g:List Int} (h:Sg x f) (k:Sg y g):Sg (x++y) (f++g):=⟨by
  show (x.cps++y.cps).toList=_
  rw [Array.toList_append,h.cps,k.cps,List.map_append]⟩
theorem Sg.from1 {x:Str} {f:List Int} (h:Sg x f) (h1:1≤f.length):Sg (Txt.slice x (some 1) none) (f.drop 1):=⟨by
  have hl:=h.len
  rw [slice_from_eq (b:=(x.length:Int)) (by exact ax .z .z .z (.k 0) (.k 1) rfl ) (by exact ax (.c _ (.c _ .z)) .z (.u (.k 1) (.v 0) (.u (.v 0) (.v 1) .z)) (.k 1) (.u (.v 1)) rfl h1 (cr hl)) rfl]
  show List.take _ (List.drop (1:Int).toNat x.cps.toList)=_
  rw [h.cps,List.take_of_length_le (by simp; exact lin (.c _ (.c _ (.c _ .z))) (.c (.v 0) (.v 1) (.c (.v 1) (.a (.v 2) (.k 1)) .z)) (.v 0) (.a (.v 2) (.k 1)) rfl (cr hl) (f5 _ _)),← List.map_drop]
  rfl⟩
theorem Sg.init {x:Str} {f:List Int} (h:Sg x f) (h1:1≤f.length):Sg (Txt.slice x none (some (-1))) (f.take (f.length - 1)):=⟨by
  have hl:=h.len
  have e:Txt.slice x none (some (-1))=Txt.slice x none (some ((x.length:Int) - 1)):=by
    have q:Builtin.Str.strSliceIndices none (some (-1)) 1 x.length=Builtin.Str.strSliceIndices none (some ((x.length:Int) - 1)) 1 x.length:=by
      unfold Builtin.Str.strSliceIndices
      dsimp only
      rw [if_pos (show (-1:Int)<0 by exact ax .z .z .z (.a (.g (.k 1)) (.k 1)) (.k 0) rfl ),if_neg (show ¬ ((x.length:Int) - 1<0) by exact fun q=>ly (.c _ (.c _ .z)) .z (.u (.k 1) (.v 0) (.u (.v 0) (.v 1) (.c (.a (.s (.u (.v 1)) (.k 1)) (.k 1)) (.k 0) .z))) rfl h1 (cr hl) q)]
      congr 2
    unfold Txt.slice
    rw [q]
  have c:x.length=x.cps.toList.length:=by simp [Str.length]
  have:=eq_of_beq (slice_closes_to (x:=x) (j:=(x.length:Int) - 1) ⟨by exact ax (.c _ (.c _ .z)) .z (.u (.k 1) (.v 0) (.u (.v 0) (.v 1) .z)) (.k 0) (.s (.u (.v 1)) (.k 1)) rfl h1 (cr hl),by rw [← c]; exact ax (.c _ .z) .z .z (.s (.u (.v 0)) (.k 1)) (.u (.v 0)) rfl ⟩)
  rw [e,this]
  show List.take _ (List.drop (0:Int).toNat x.cps.toList)=_
  rw [h.cps,hl]
  simp only [Int.toNat_zero,List.drop_zero,← List.map_take]
  congr 2
  exact Nat.le_antisymm (kN (.c _ (.c _ (.c _ .z))) .z (.c (.u (.v 1)) (.s (.s (.u (.v 0)) (.k 1)) (.k 0)) (.u (.v 0) (.a (.v 2) (.k 1)) .z)) (.v 1) (.v 2) rfl (rD (ax (.c _ .z) .z (.u (.k 1) (.v 0) .z) (.k 0) (.s (.s (.u (.v 0)) (.k 1)) (.k 0)) rfl h1)) (f5 _ _)) (kN (.c _ (.c _ (.c _ .z))) .z (.c (.s (.s (.u (.v 0)) (.k 1)) (.k 0)) (.u (.v 1)) (.u (.a (.v 2) (.k 1)) (.v 0) .z)) (.v 2) (.v 1) rfl (Int.self_le_toNat _) (eC (lin (.c _ .z) (.c (.k 1) (.v 0) .z) (.k 1) (.v 0) rfl h1)))⟩
theorem Sg.last {x:Str} {f:List Int} (h:Sg x f) (h1:1≤f.length) (hp:∀ v∈f,0≤v):(Txt.item x (-1)==(Str.ofString "0"))=decide (f.getD (f.length - 1) 0=48):=by
  have hl:=h.len
  have e0:Str.ofString "0"=⟨#[48]⟩:=by decide +kernel
  have e1:seqIndex? (-1) x.length=some (f.length - 1):=by
    unfold seqIndex?
    rw [hl]
    simp only [show (-1:Int)<0 by exact ax .z .z .z (.a (.g (.k 1)) (.k 1)) (.k 0) rfl ,if_true]
    rw [if_pos (by simp only [Bool.and_eq_true,decide_eq_true_eq]; exact ⟨ax (.c _ .z) .z (.u (.k 1) (.v 0) .z) (.k 0) (.a (.g (.k 1)) (.u (.v 0))) rfl h1,ax (.c _ .z) .z .z (.a (.a (.g (.k 1)) (.u (.v 0))) (.k 1)) (.u (.v 0)) rfl ⟩)]
    congr 1
    exact Nat.le_antisymm (kN (.c _ (.c _ (.c _ .z))) .z (.c (.u (.v 1)) (.a (.g (.k 1)) (.u (.v 0))) (.u (.v 0) (.a (.v 2) (.k 1)) .z)) (.v 1) (.v 2) rfl (rD (ax (.c _ .z) .z (.u (.k 1) (.v 0) .z) (.k 0) (.a (.g (.k 1)) (.u (.v 0))) rfl h1)) (f5 _ _)) (kN (.c _ (.c _ (.c _ .z))) .z (.c (.a (.g (.k 1)) (.u (.v 0))) (.u (.v 1)) (.u (.a (.v 2) (.k 1)) (.v 0) .z)) (.v 2) (.v 1) rfl (Int.self_le_toNat _) (eC (lin (.c _ .z) (.c (.k 1) (.v 0) .z) (.k 1) (.v 0) rfl h1)))
  have e2:x.cps[f.length - 1]?=some (f.getD (f.length - 1) 0).toNat:=by
    have:x.cps.toList[f.length - 1]?=some (f.getD (f.length - 1) 0).toNat:=by
      rw [h.cps,List.getElem?_map]
      have q:f[f.length - 1]?=some (f.getD (f.length - 1) 0):=by
        rw [List.getD_eq_getElem?_getD,List.getElem?_eq_getElem (by exact lin (.c _ (.c _ .z)) (.c (.a (.v 1) (.k 1)) (.v 0) .z) (.a (.v 1) (.k 1)) (.v 0) rfl (eC (lin (.c _ .z) (.c (.k 1) (.v 0) .z) (.k 1) (.v 0) rfl h1)))]; rfl
      rw [q]; rfl
    simpa using this
  have hv:0≤f.getD (f.length - 1) 0:=by
    rw [List.getD_eq_getElem?_getD,List.getElem?_eq_getElem (by exact lin (.c _ (.c _ .z)) (.c (.a (.v 1) (.k 1)) (.v 0) .z) (.a (.v 1) (.k 1)) (.v 0) rfl (eC (lin (.c _ .z) (.c (.k 1) (.v 0) .z) (.k 1) (.v 0) rfl h1)))]
    exact hp _ (List.getElem_mem _)
  have e3:Txt.item x (-1)=⟨#[(f.getD (f.length - 1) 0).toNat]⟩:=by
    unfold Txt.item Txt.charAt
    rw [e1]
    show (⟨#[(x.cps[f.length - 1]?).getD 0]⟩:Str)=_
    rw [e2]; rfl
  rw [e3,e0]
  by_cases q:f.getD (f.length - 1) 0=48
  · rw [q]; rfl
  · rw [decide_eq_false q]
    refine beq_false_of_ne fun h=>q ?_
    injection h with h
    injection h with h
    injection h with h _
    exact Int.le_antisymm (ax (.c _ .z) (.c _ .z) (.u (.v 0) (.k 48) (.c (.v 0) (.u (.v 0)) .z)) (.v 0) (.k 48) rfl (cb h) (Int.self_le_toNat _)) (ax (.c _ .z) (.c _ .z) (.u (.k 48) (.v 0) (.c (.u (.v 0)) (.v 0) .z)) (.k 48) (.v 0) rfl (cr h) (rD (ax .z (.c _ .z) (.c (.k 0) (.v 0) .z) (.k 0) (.v 0) rfl hv)))
section
variable {prog:Program} {w:World} {A:Around} {E:Value→Shared→Prop} {s:Shared} {h₀:Heap} {L:Addr} {m:Str→Option Value} {env:Env} {news:List (Addr×Obj)}
theorem rz {n:Int} {u:Tok} {Q:Value→Shared→Prop} (hn:n.natAbs≤2000000) (h:∀ x t k,Sg x (aM n)→Q (.str x t) { s with toks:=k }):wpAny (model prog w) A (call (.type "str") [.int n u]) Q E s:=by
  refine P.str_of_int ?_ (h _ _ _ ⟨pQ n⟩)
  by_cases q:n.natAbs=0
  · rw [q]; decide
  · have:n.natAbs.log2<21:=(Nat.log2_lt q).mpr (by omega)
    exact lin (.c _ .z) (.c (.a (.v 0) (.k 1)) (.k 21) .z) (.a (.v 0) (.k 1)) (.k 1920) rfl this
theorem kY {value slice:Expr} {x:Str} {f:List Int} {t ui:Tok} {Q:Value→Shared→Prop} (hF:Fr h₀ L s.heap m) (hN:News h₀ L s.heap news) (hx:Sg x f) (h1:1≤f.length∧f.length≤100)
    (h:∀ y h' t' k,Fr h₀ L h' m→News h₀ L h' news→Sg y (f.drop 1)→Q (.str y t') { s with heap:=h',toks:=k })
    (hs:subscripted slice false (.str x t) (.ref s.heap.objs.size)=operate [.ref s.heap.objs.size,.str x t] (getItem (.str x t) (.ref s.heap.objs.size)))
    (ht:∀ r,letTemporaryGo value (.str x t) r=pure ()) :
    wpAny (model prog w) A (subscriptTail value slice (.str x t) (.ref s.heap.objs.size)) Q E { s with heap:=s.heap.push { cls:=.type "slice",data:=.fields #[.int 1 ui,.none,.none] } }:=
  slice_strN_sn hF hN (fun h' t' k a b=>h _ h' t' k a b (hx.from1 h1.1)) hs ht (by rw [sizeLine_eq,hx.len]; exact lin (.c _ .z) (.c (.v 0) (.k 100) .z) (.v 0) (.k 16777216) rfl h1.2)
theorem fb {value slice:Expr} {x:Str} {f:List Int} {t uj:Tok} {Q:Value→Shared→Prop} (hF:Fr h₀ L s.heap m) (hN:News h₀ L s.heap news) (hx:Sg x f) (h1:1≤f.length∧f.length≤100)
    (h:∀ y h' t' k,Fr h₀ L h' m→News h₀ L h' news→Sg y (f.take (f.length - 1))→Q (.str y t') { s with heap:=h',toks:=k })
    (hs:subscripted slice false (.str x t) (.ref s.heap.objs.size)=operate [.ref s.heap.objs.size,.str x t] (getItem (.str x t) (.ref s.heap.objs.size)))
    (ht:∀ r,letTemporaryGo value (.str x t) r=pure ()) :
    wpAny (model prog w) A (subscriptTail value slice (.str x t) (.ref s.heap.objs.size)) Q E { s with heap:=s.heap.push { cls:=.type "slice",data:=.fields #[.none,.int (-1) uj,.none] } }:=
  slice_strN_ns hF hN (fun h' t' k a b=>h _ h' t' k a b (hx.init h1.1)) hs ht (by rw [sizeLine_eq,hx.len]; exact lin (.c _ .z) (.c (.v 0) (.k 100) .z) (.v 0) (.k 16777216) rfl h1.2)
theorem rH {x y:Str} {f g:List Int} {t u:Tok} {Q:Value→Shared→Prop} (hx:Sg x f) (hy:Sg y g) (hz:f.length+g.length≤1000) (h:∀ z t' k,Sg z (f++g)→Q (.str z t') { s with toks:=k }) :
    wpAny (model prog w) A (binaryOp .Add (.str x t) (.str y u)) Q E s:=PyProof.Rows.add_str (fun t' k=>h _ t' k (hx.append hy)) (by rw [sizeLine_eq,hx.len,hy.len]; exact lin (.c _ (.c _ .z)) (.c (.a (.v 0) (.v 1)) (.k 1000) .z) (.a (.v 0) (.v 1)) (.k 16777216) rfl hz)
theorem Sg.sign {x:Str} {f:List Int} {i:Nat} {v:Value} (h:Sg x f) (hv:SignAt x i v):∃ c u,f[i]?=some c∧v=.str ⟨#[c.toNat]⟩ u:=by
  obtain ⟨c,u,hc,rfl⟩:=hv
  have:x.cps.toList[i]?=some c:=by simpa using hc
  rw [h.cps,List.getElem?_map] at this
  obtain ⟨d,hd,rfl⟩:=Option.map_eq_some_iff.mp this
  exact ⟨d,u,hd,rfl⟩
open LCg in
theorem eX (_F:Fr h₀ L s.heap m) {elt iter:Expr} {x:Str} {px:Pos} {scope:Scope} {cl:List (Str×Addr)} {pos:Pos} {Q:Value→Shared→Prop}
    (hclos:closureFor scope env=pure cl) (hcell:∀ y∈scope.names,y.2≠.cell) (hkind:scope.kind=.function)
    (hnames:∀ y∈scope.names,y.2=.local→scope.names.lookup y.1=some .local) (hx:scope.names.lookup x=some .local)
    (h:wpAny (model prog w) A (eval iter env) (fun xv s₁=>bO (∃ b t news,xv=.str b t∧A.handled=none∧Fr h₀ L s₁.heap m∧News h₀ L s₁.heap news∧b.cps.size≤sizeLine∧
      ∀ g,CompRest prog w A h₀ L m env elt x scope cl { s₁ with heap:=g } (fun z_=>True) (SignAt b) (FinE h₀ L m { s₁ with heap:=g } Q) b.cps.size 0 [] news)) E s)
    (hs:∀ x,foldedSetIterable iter env x=pure x) :
    wpAny (model prog w) A (eval (.ListComp elt [⟨.Name x px,iter,[],0⟩] scope pos) env) Q E s:=by
  rw [eval_ListComp]
  refine wpAny_comprehension_free (use:=none) rfl hs hclos hkind hnames (wpAny_mono h (fun xv s₁ h₁=>?_) fun _ _ e=>e)
  obtain ⟨b,t,news,rfl,hh,F,N,hsz,R⟩:=h₁
  have go:∀ (ty:String) (o:Obj),Walks prog w A s₁.heap.objs.size [s₁.heap.objs.size] [s₁.heap.objs.size] b.cps.size (SignAt b) (fun i h=>h.IsStrIter s₁.heap.objs.size ty b t i)→(s₁.heap.push o).IsStrIter s₁.heap.objs.size ty b t 0→
      wpAny (model prog w) A (newList []) (fun acc s₃=>wpAny (model prog w) A (newFunctionEnv scope env.globals cl [] env.qual none .none (some env)) (fun cenv s₄=>
        codeAny (model prog w) A (.compStart (.ListComp elt [⟨.Name x px,iter,[],0⟩] scope pos) 0 (.ref s₁.heap.objs.size) acc { cenv with scope:=relabel scope env }) (compPost (model prog w) A E none Q acc cenv.locals) s₄) E s₃) E { s₁ with heap:=s₁.heap.push o }:=by
    intro ty o W st
    have up:∀ x o',s₁.heap.get? x=some o'→(s₁.heap.push o).get? x=some o':=fun x o' e=>Heap.get?_push_of_some _ e
    refine block_U W hsz (fun i h st=>by obtain ⟨o,e,_⟩:=st; exact ⟨o,e⟩)
      (fun i h h' o nw st e e' _ _ _=>by obtain ⟨o',q,r⟩:=st; rw [e] at q; cases q; exact ⟨o,e',r⟩) hcell hkind hx st
      (fun y hy=>by rw [List.mem_singleton.mp hy]; show s₁.heap.objs.size<(s₁.heap.push _).objs.size; rw [Heap.size_push]; exact Nat.lt_succ_self _)
      (F.keeps up) (N.grown up) (Nat.ne_of_lt F.ns.lt) (next_is_new F) (fun p hp=>Nat.ne_of_lt (Heap.lt_size (N p hp).1)) trivial (R _) ?_
    intro D C h tk m' ys news' F' N' o1 hn hC₀ hD₀ hCL hDL hCD offC fin
    refine ⟨m',hn,fun h'' hs''=>fin D h'' tk (F'.change hs'' hCL hC₀) (fun p hp=>?_) o1⟩
    refine ⟨hs''.extBut _ _ ?_ (N' p hp).1,(N' p hp).2⟩
    rcases List.mem_cons.mp hp with rfl | hp
    · exact Ne.symm hCD
    · exact offC p hp
  cases ha:b.cps.all (·<128)
  · exact wpAny_pyIter_wide ha (go _ _ (Walks.strWide hh _ b t) ⟨_,Heap.get?_push_size _ rfl,rfl,rfl⟩)
  · exact wpAny_pyIter_ascii ha (go _ _ (Walks.strAscii hh _ b t) ⟨_,Heap.get?_push_size _ rfl,rfl,rfl⟩)
end
theorem cu {ys:List Value} {F:List Int} {i:Nat} {c:Int} {t:Tok} (hI:IntsAre ys (F.take i)) (hc:F[i]?=some c) (h0:0≤c):IntsAre (ys++[.int ((c.toNat:Nat):Int) t]) (F.take (i+1)):=by
  rw [List.take_add_one,hc,Int.toNat_of_nonneg h0]
  exact ints_snoc hI c t
theorem aQ (f g:List Int):byteArr (f++g)=byteArr f++byteArr g:=by
  unfold byteArr
  simp
theorem kT {n:Int} {f:List Int} (hn:n<0) (hf:f=dQ n):byteArr ((([45]++aM ((if n<0 then -n else n).fdiv 1000000))++[46])++f)=bh n:=by
  subst hf
  unfold bh gK
  rw [aQ,aQ,aQ]
  simp only [if_pos hn]
  rfl
theorem real_txt2 {n:Int} {f:List Int} (hn:¬ n<0) (hf:f=dQ n):byteArr ((([]++aM ((if n<0 then -n else n).fdiv 1000000))++[46])++f)=bh n:=by
  subst hf
  unfold bh gK
  rw [aQ,aQ,aQ]
  simp only [if_neg hn]
  rfl
theorem l6 {n:Int} {f0 f:List Int} (hf0:f0=aM (1000000+(if n<0 then -n else n).fmod 1000000)) (hP:bj (f0.drop 1) f) (he:f.length≤1∨f.getD (f.length - 1) 0≠48):f=dQ n:=by
  subst hf0
  exact fE hP he
theorem fN {n:Int} (hn:n.natAbs≤600000000):(aM ((if n<0 then -n else n).fdiv 1000000)).length≤9:=a6 (cA hn)
theorem ni {n:Int} {pre f:List Int} (hp:∀ x∈pre,0≤x∧x<256) (hf:∀ x∈f,0≤x∧x<256):∀ x∈(((pre++aM n)++[46])++f),0≤x∧x<256:=by
  intro x hx
  simp only [List.mem_append,List.mem_singleton] at hx
  rcases hx with ((hx | hx) | hx) | hx
  · exact hp x hx
  · exact b6 _ x hx
  · exact ⟨ax .z (.c _ .z) (.c (.k 46) (.v 0) .z) (.k 0) (.v 0) rfl (wR hx),ax .z (.c _ .z) (.c (.v 0) (.k 46) .z) (.a (.v 0) (.k 1)) (.k 256) rfl (oh hx)⟩
  · exact hf x hx
theorem mi {n:Int} {f:List Int} {z:Str} {P:Prop} (hS:Sg z ((([45]++aM ((if n<0 then -n else n).fdiv 1000000))++[46])++f)) (hb:n.natAbs≤600000000) (hl:f.length≤9) (hi:∀ x∈f,0≤x∧x<256) (hf:f=dQ n) (hn:n<0)
    (k:∀ FF,Sg z FF→FF.length≤20→(∀ x∈FF,0≤x∧x<256)→byteArr FF=bh n→z.cps.size=FF.length→P):P:=
  k _ hS (by have:=fN hb; simp only [List.length_append,List.length_cons,List.length_nil]; exact lin (.c _ (.c _ .z)) (.c (.v 0) (.k 9) (.c (.v 1) (.k 9) .z)) (.a (.a (.a (.a (.k 0) (.k 1)) (.v 1)) (.a (.k 0) (.k 1))) (.v 0)) (.k 20) rfl hl this) (ni (by decide) hi) (kT hn hf) hS.len
theorem lC {n:Int} {f:List Int} {z:Str} {P:Prop} (hS:Sg z ((([]++aM ((if n<0 then -n else n).fdiv 1000000))++[46])++f)) (hb:n.natAbs≤600000000) (hl:f.length≤9) (hi:∀ x∈f,0≤x∧x<256) (hf:f=dQ n) (hn:¬ n<0)
    (k:∀ FF,Sg z FF→FF.length≤20→(∀ x∈FF,0≤x∧x<256)→byteArr FF=bh n→z.cps.size=FF.length→P):P:=
  k _ hS (by have:=fN hb; simp only [List.length_append,List.length_cons,List.length_nil]; exact lin (.c _ (.c _ .z)) (.c (.v 0) (.k 9) (.c (.v 1) (.k 9) .z)) (.a (.a (.a (.k 0) (.v 1)) (.a (.k 0) (.k 1))) (.v 0)) (.k 20) rfl hl this) (ni (fun _ h=>nomatch h) hi) (real_txt2 hn hf) hS.len
theorem rw8:True:=by
  k_with "call type:str"=>(k_here; (with_reducible show wpAny _ _ (call (Value.type "str") [Value.int _ _]) _ _ _); (refine' rz ?n ?_; (case n=>first | assumption | exact bY _ | exact cA (by assumption) | omega)); intro qx' qt' qk' qsg')
  k_with "subscriptTail Name Slice str ref"=>(k_here; (with_reducible show wpAny _ _ (subscriptTail _ (PySem.Expr.Slice (some _) none none _) _ _) _ _ _); k_dflt (refine' kY (s:=⟨_,_,_,_,_⟩) ?F ?N ?x ?z ?_ ?s ?t; (case F=>k_asm); (case N=>k_asm); (case x=>assumption); (case s=>with_unfolding_all rfl); (case t=>(intro _; with_unfolding_all rfl)); (case z=>first | omega | exact ⟨gp _,Nat.le_trans (a6 (bY _)) (by omega)⟩); k_whole); intro qy' qh' qt' qk' qF' qN' qsg')
  k_with "subscriptTail Name Slice str ref"=>(k_here; (with_reducible show wpAny _ _ (subscriptTail _ (PySem.Expr.Slice none (some _) none _) _ _) _ _ _); k_dflt (refine' fb (s:=⟨_,_,_,_,_⟩) ?F ?N ?x ?z ?_ ?s ?t; (case F=>k_asm); (case N=>k_asm); (case x=>assumption); (case s=>with_unfolding_all rfl); (case t=>(intro _; with_unfolding_all rfl)); (case z=>omega); k_whole); intro qy' qh' qt' qk' qF' qN' qsg')
  k_with "binaryOp Add str str"=>(k_here; (with_reducible show wpAny _ _ (binaryOp Operator.Add (Value.str _ _) (Value.str _ _)) _ _ _); (refine' rH ?x ?y ?z ?_; (case x=>assumption); (case y=>assumption); (case z=>((try simp only [List.length_append,List.length_cons,List.length_nil]); omega))); intro qz' qt' qk' qsg')
  trivial
structure Ends {α:Type} (Q Q':α→Shared→Prop):Prop where
  e:∀ a s,Q a s→Q' a s
theorem gJ {M:Model} {A:Around} {α:Type} {t:Sem α} {Q:α→Shared→Prop} {E:Value→Shared→Prop} {s:Shared} (h:∀ (Q':α→Shared→Prop),Ends Q Q'→wpAny M A t Q' E s):wpAny M A t Q E s:=h Q ⟨fun _ _ h=>h⟩
noncomputable def fM (f:List Int) (b:Bool):Prop:=(b=true→1<f.length∧f.getD (f.length - 1) 0=48)∧(b=false→f.length≤1∨f.getD (f.length - 1) 0≠48)
theorem mU {f:List Int} {l:Nat} (e:l=f.length) (h:¬ (1:Int)<(l:Int)):fM f false:=⟨fun h=>Bool.noConfusion h,fun z_=>Or.inl (by omega)⟩
theorem mN {f:List Int} {b:Bool} {l:Nat} (e:l=f.length) (h:(1:Int)<(l:Int)) (hb:decide (f.getD (f.length - 1) 0=48)=b):fM f b:=⟨fun e=>⟨by omega,of_decide_eq_true (hb.trans e)⟩,fun e=>Or.inr (of_decide_eq_false (hb.trans e))⟩
theorem nF {bb:Str} {f:List Int} {b:Bool} (hI:Sg bb f) (h:(1:Int)<(bb.length:Int)) (hp:∀ v∈f,0≤v) (hq:(Txt.item bb (-1)==(Str.ofString "0"))=b):fM f b:=by
  have e:=hI.len
  refine mN e h ?_
  rw [← hI.last (by omega) hp]
  exact hq
noncomputable def nZ (n:Int):List Int:=if n<0 then [45] else []
theorem tM {n:Int} (h:n<0):Sg (Str.ofString "-") (nZ n):=by rw [nZ,if_pos h]; exact ⟨by decide +kernel⟩
theorem tS {n:Int} (h:¬ n<0):Sg (Str.ofString "") (nZ n):=by rw [nZ,if_neg h]; exact ⟨by decide +kernel⟩
theorem rS (n:Int):(nZ n).length≤1:=by unfold nZ; split <;> simp
theorem pJ {n:Int} {f:List Int} {z:Str} {P:Prop} (hS:Sg z (((nZ n++aM ((if n<0 then -n else n).fdiv 1000000))++[46])++f)) (hb:n.natAbs≤600000000) (hl:f.length≤9) (hi:∀ x∈f,0≤x∧x<256) (hf:f=dQ n)
    (k:∀ FF,Sg z FF→FF.length≤20→(∀ x∈FF,0≤x∧x<256)→byteArr FF=bh n→z.cps.size=FF.length→P):P:=by
  by_cases h:n<0
  · rw [nZ,if_pos h] at hS
    exact mi hS hb hl hi hf h k
  · rw [nZ,if_neg h] at hS
    exact lC hS hb hl hi hf h k
theorem nA {w:World} {p:Program} {loose:List Str} {mean:ExcName→Option Value} {mg mb:Str→Option Value} {s:Shared} {h₀:Heap} {L:Addr} {m:Str→Option Value}
    {n:Int} {tn:Tok} {Q E:Value→Shared→Prop}
    (F:Fr h₀ L s.heap m) (X:(Mine.hd.heap_1 w.params).In h₀) (T:Top p loose mean mg mb h₀)
    (hn:n.natAbs≤600000000)
    (post:∀ t h' tk',Fr h₀ L h' m→But [] s.heap h'→Q (.bytes (bh n) t) { s with heap:=h',toks:=tk' }) :
    wpAny (model rw_on0273_01.row.prog w) (AR 890 8900) (call (.ref 782) [.int n tn]) Q E s:=by
  have N:News h₀ L s.heap []:=News.nil
  have sgd:Sg (Str.ofString ".") [46]:=⟨by decide +kernel⟩
  have mk3:Mk 3:=⟨⟩
  k_with "exec While BoolOp cons nil"=>((with_reducible rename Mk 3=>mk3); refine bM ?_)
  k_with "KswEnd"=>((with_reducible rename Mk 3=>mk3); refine bM ?_)
  k_with "eval ListComp"=>((with_reducible rename Mk 3=>mk3); refine bM ?_)
  k_with "eval IfExp"=>((with_reducible rename Mk 3=>mk3); refine bM ?_)
  refine wpAny_call ?_
  k_enter
  refine gJ fun Q1 hQ1=>?_
  k_steps
  unfold bO
  (with_reducible rename Fr _ _ _ _=>lF)
  (with_reducible rename News _ _ _ _=>lN)
  (with_reducible rename Sg _ _=>hK)
  obtain ⟨f0,hf0⟩:∃ f0,f0=aM (1000000+(if n<0 then -n else n).fmod 1000000):=⟨_,rfl⟩
  have hf1:f0.length≤9:=hf0▸a6 (bY _)
  have hf2:∀ x∈f0,0≤x∧x<256:=hf0▸b6 _
  rw [← hf0] at hK
  refine' ksw_while (σ:=Str×Tok×List Int) (fun z_=>[]) (fun c=>[(Str.ofString "figures",.str c.1 c.2.1)]) (fun c=>Sg c.1 c.2.2) [Str.ofString "figures"]
      (fun c=>c.2.2.length≤9∧bj (f0.drop 1) c.2.2) (fun c=>c.2.2.length) (_,_,f0.drop 1) lF (ag lN (led:=[]) (fun p hp=>nomatch hp)) hK ?hk ?hp ?turn
  case hk=>(intro p hp; rcases List.mem_cons.mp hp with rfl | hp <;> first | rfl | exact nomatch hp)
  case hp=>exact ⟨by simp only [List.length_drop]; exact lin (.c _ (.c _ .z)) (.c (.v 0) (.k 9) (.c (.v 1) (.v 0) .z)) (.v 1) (.k 9) rfl hf1 (Nat.sub_le _ _),rfl,fun x hx=>hf2 x (List.mem_of_mem_drop hx)⟩
  case turn=>
    clear lF lN
    rintro ⟨bb,tb,f⟩ u hh tk hI ⟨hl,hP⟩ hF hN
    dsimp only at hI hl hP hF hN ⊢
    have hbl:=hI.len
    try k_fold
    refine gJ fun Q2 hQ2=>?_
    refine rJ (fM f) ?_ ?_
    · k_steps
      all_goals first
        | exact mU hbl (by assumption)
        | exact nF hI (by assumption) (fun v hv=>(hP.inn v hv).1) (by assumption)
    · rintro (_ | _) k hb
      case true=>
        have hb1:=(hb.1 rfl).1
        refine hQ2.e _ _ ?_
        k_steps
        unfold bO
        (with_reducible rename Fr _ _ _ _=>eF)
        (with_reducible rename News _ _ _ _=>eN)
        (with_reducible rename Sg _ _=>hS)
        refine ksw_end (_,_,f.take (f.length - 1)) eF eN (fun p hp=>nomatch hp) hS (fun p hp=>by rcases List.mem_cons.mp hp with rfl | hp <;> first | rfl | exact nomatch hp) (by intro z h2 h3; have h2:=h2 _ (.head _); simp [kstB,h2]) ⟨?_,fs hP (hb.1 rfl).1 (hb.1 rfl).2 rfl⟩ ?_
        · simp only [List.length_take]; exact lin (.c _ (.c _ .z)) (.c (.v 0) (.k 9) (.c (.v 1) (.v 0) .z)) (.v 1) (.k 9) rfl hl (Nat.min_le_right _ _)
        · simp only [List.length_take]; omega
      case false=>
        have hfig:f=dQ n:=l6 hf0 hP (hb.2 rfl)
        refine hQ2.e _ _ ?_
        k_steps
        unfold bO
        (with_reducible rename Fr _ _ _ _=>lF)
        refine eX lF rfl (by decide) rfl (by decide) rfl ?_ (by intro _; rfl)
        have hlw:=fN hn
        k_steps
        refine rJ (fun v=>∃ x t,v=.str x t∧Sg x (nZ n)) (wpAny_IfExp ?_) ?_
        · k_steps
          all_goals first | exact tM (by assumption) | exact tS (by assumption)
        rintro _ k ⟨x,t,rfl,hx⟩
        have hsl:=rS n
        k_steps
        unfold bO
        (with_reducible rename Sg _ _=>hS)
        refine pJ hS hn hl hP.inn hfig fun FF hSF hFl hFi hFB hFz=>?_
        clear hS
        refine ⟨_,_,_,rfl,rfl,by assumption,by assumption,by rw [hFz,sizeLine_eq]; exact lin (.c _ .z) (.c (.v 0) (.k 20) .z) (.v 0) (.k 16777216) rfl hFl,fun g=>?_⟩
        rw [hFz]
        suffices rest:∀ k i ys,i+k=FF.length→IntsAre ys (FF.take i)→LCg.CompRest _ _ _ _ _ _ _ _ _ _ _ _ _ _ _ k i ys _ from rest FF.length 0 [] (by exact Nat.le_antisymm (lin (.c _ .z) .z (.a (.k 0) (.v 0)) (.v 0) rfl ) (lin (.c _ .z) .z (.v 0) (.a (.k 0) (.v 0)) rfl )) .nil
        intro k
        induction k with
        | zero=>
          intro i ys hi hys
          refine LCg.CompRest.zero ?_
          intro D h tk FD ND offD
          rw [List.take_of_length_le (by exact lin (.c _ (.c _ .z)) (.c (.v 0) (.a (.v 1) (.k 0)) .z) (.v 0) (.v 1) rfl (cr hi))] at hys
          k_steps
          refine hQ1.e _ _ ?_
          k_steps
          rw [hFB]
          exact post _ _ _ (by assumption) (But.of (by assumption) (by assumption))
        | succ k ih=>
          intro i ys hi hys
          refine LCg.CompRest.succ fun v I oI C oC D m₂ h tk E' hP hoC hm₂ FC NC off hne=>?_
          obtain ⟨c,u,hc,rfl⟩:=hSF.sign hP
          have hc0:0≤c:=(hFi c (List.mem_of_getElem? hc)).1
          k_steps
          exact ih _ _ (by exact Nat.le_antisymm (lin (.c _ (.c _ (.c _ .z))) (.c (.a (.v 1) (.a (.v 2) (.k 1))) (.v 0) .z) (.a (.a (.v 1) (.k 1)) (.v 2)) (.v 0) rfl (cb hi)) (lin (.c _ (.c _ (.c _ .z))) (.c (.v 0) (.a (.v 1) (.a (.v 2) (.k 1))) .z) (.v 0) (.a (.a (.v 1) (.k 1)) (.v 2)) rfl (cr hi))) (cu hys hc hc0)
end
section
section
variable (R:List (Addr×Obj))
mutual
inductive aA:Value→Tr→Prop
  | int {a:Addr} {n:Int} {t u:Tok} {k:Nat}:(a,aS #[.str (Str.ofString "plain") t,.bytes (byteArr (aM n)) u] k)∈R→aA (.ref a) (.int n)
  | bool {a:Addr} {b:Bool} {t u:Tok} {k:Nat}:(a,aS #[.str (Str.ofString "plain") t,.bytes (truthB b) u] k)∈R→aA (.ref a) (.bool b)
  | real {a:Addr} {n:Int} {t u:Tok} {k:Nat}:(a,aS #[.str (Str.ofString "real") t,.int n u] k)∈R→aA (.ref a) (.real n)
  | name {a:Addr} {o:Array UInt8} {x:Bool} {t u:Tok} {k:Nat}:(a,aS #[.str (Str.ofString "name") t,.bytes o u,.bool x] k)∈R→aA (.ref a) (.name o x)
  | op {a:Addr} {o:Array UInt8} {t u:Tok} {k:Nat}:(a,aS #[.str (Str.ofString "operator") t,.bytes o u] k)∈R→aA (.ref a) (.op o)
  | word {a:Addr} {c:Wd} {t u:Tok} {k:Nat}:(a,aS #[.str (Str.ofString "word") t,.bytes c.bytes u] k)∈R→aA (.ref a) (.word c)
  | strN {a:Addr} {o:Array UInt8} {t:Tok} {k:Nat}:(a,aS #[.str (Str.ofString "string") t,.none] k)∈R→aA (.ref a) (.str o false)
  | strS {a:Addr} {o:Array UInt8} {t u:Tok} {k:Nat}:(a,aS #[.str (Str.ofString "string") t,.bytes o u] k)∈R→aA (.ref a) (.str o true)
  | rowN {a:Addr} {ts:List Tr} {x p:Bool} {t:Tok} {k:Nat}:(a,aS #[.str (Str.ofString "row") t,.none,.bool x,.bool p] k)∈R→aA (.ref a) (.row ts false x p)
  | rowS {a l:Addr} {vs:List Value} {m:Nat} {ts:List Tr} {x p:Bool} {t:Tok} {k:Nat}:(a,aS #[.str (Str.ofString "row") t,.ref l,.bool x,.bool p] k)∈R→(l,listOf vs.toArray m)∈R→vs.length≤100→aK vs ts→aA (.ref a) (.row ts true x p)
inductive aK:List Value→List Tr→Prop
  | nil:aK [] []
  | cons {v:Value} {vs:List Value} {t:Tr} {ts:List Tr}:aA v t→aK vs ts→aK (v::vs) (t::ts)
end
end
section
variable {R R':List (Addr×Obj)}
theorem aK.ind (M:List Value→List Tr→Prop) (h0:M [] []) (h1:∀ {v vs t ts},aA R v t→aK R vs ts→M vs ts→M (v::vs) (t::ts)) {vs:List Value} {ts:List Tr} (h:aK R vs ts):M vs ts:=by
  induction ts generalizing vs with
  | nil=>cases h; exact h0
  | cons t ts ih=>cases h with | cons a b=>exact h1 a b (ih b)
theorem aA.mono (hs:∀ p∈R,p∈R') {v:Value} {t:Tr} (h:aA R v t):aA R' v t:=
  aA.rec (motive_1:=fun v t _=>aA R' v t) (motive_2:=fun vs ts _=>aK R' vs ts) (fun a=>.int (hs _ a)) (fun a=>.bool (hs _ a)) (fun a=>.real (hs _ a)) (fun a=>.name (hs _ a)) (fun a=>.op (hs _ a)) (fun a=>.word (hs _ a)) (fun a=>.strN (hs _ a)) (fun a=>.strS (hs _ a)) (fun a=>.rowN (hs _ a)) (fun a b z _ r=>.rowS (hs _ a) (hs _ b) z r) .nil (fun _ _ a b=>.cons a b) h
theorem aK.mono (hs:∀ p∈R,p∈R') {vs:List Value} {ts:List Tr} (h:aK R vs ts):aK R' vs ts:=aK.ind _ .nil (fun a _ r=>.cons (a.mono hs) r) h
theorem kZ {vs:List Value} {ts:List Tr} (h:aK R vs ts):vs.length=ts.length:=aK.ind (fun vs ts=>vs.length=ts.length) rfl (fun _ _ e=>congrArg (·+1) e) h
theorem lq {vs:List Value} {ts:List Tr} (h:aK R vs ts):∀ {i:Nat} {v:Value},vs[i]?=some v→∃ t,ts[i]?=some t∧aA R v t:=
  aK.ind (fun vs ts=>∀ {i:Nat} {v:Value},vs[i]?=some v→∃ t,ts[i]?=some t∧aA R v t) (fun e=>nomatch e) (fun a _ ih=>by
    intro i v e
    cases i with
    | zero=>exact ⟨_,rfl,Option.some.inj e▸a⟩
    | succ i=>exact ih e) h
end
end
section
theorem cM {P:Params} {R:List (Addr×Obj)} {vs:List Value} {ts:List Tr} (h:am P R vs ts):vs.length=ts.length:=am.ind (fun vs ts=>vs.length=ts.length) rfl (fun _ _ e=>congrArg (·+1) e) h
theorem iQ {P:Params} {R:List (Addr×Obj)} {vs:List Value} {ts:List Tr} (h:am P R vs ts):∀ {i:Nat} {v:Value},vs[i]?=some v→∃ t,ts[i]?=some t∧al P R v t:=
  am.ind (fun vs ts=>∀ {i:Nat} {v:Value},vs[i]?=some v→∃ t,ts[i]?=some t∧al P R v t) (fun e=>nomatch e) (fun a _ ih=>by
    intro i v e
    cases i with
    | zero=>exact ⟨_,rfl,Option.some.inj e▸a⟩
    | succ i=>exact ih e) h
noncomputable def a9 (w:World) (k:Nat):Prop:=∀ {p:Program} {loose:List Str} {mean:ExcName→Option Value} {mg mb:Str→Option Value} {s:Shared} {h₀:Heap} {L:Addr} {m:Str→Option Value} {R:List (Addr×Obj)}
    {v:Value} {t:Tr} {d:Int} {td:Tok} {Q E:Value→Shared→Prop},
    Fr h₀ L s.heap m→(Mine.hd.heap_1 w.params).In h₀→Top p loose mean mg mb h₀→News h₀ L s.heap R→aW k t→al w.params R v t→
    (∀ u h' tk',Fr h₀ L h' m→But [] s.heap h'→Q (.bytes (shown t d) u) { s with heap:=h',toks:=tk' })→
    wpAny (model rw_on0273_01.row.prog w) (AR (800 - 80*k) (8000 - 800*k)) (call (.ref 419) [v,.int d td]) Q E s
end
section
theorem rw9:True:=by
  k_with "call ref"=>(k_here; (with_reducible show wpAny _ _ (call (Value.ref 68) [Value.str (Str.ofString "integer") _,Value.int _ _]) _ _ _); (with_reducible rename News _ _ _ _=>qkN0); k_dflt (refine' aH (A':=AR 890 8900) (kh ?F ?X ?T ?n ?_) rfl ?a rfl rfl ?c; (case F=>k_asm); (case X=>k_asm); (case T=>k_asm); (case n=>assumption); (case a=>k_room); (case c=>k_units)); intro qt qh' qtk' qF' qbt'; (have qN':=news_but0 qkN0 qbt'); clear qkN0; (try k_sweep))
  k_with "call ref"=>(k_here; (with_reducible show wpAny _ _ (call (Value.ref 68) [Value.str (Str.ofString "real") _,Value.int _ _]) _ _ _); (with_reducible rename News _ _ _ _=>qkN0); k_dflt (refine' aH (A':=AR 890 8900) (j4 ?F ?X ?T ?n ?_) rfl ?a rfl rfl ?c; (case F=>k_asm); (case X=>k_asm); (case T=>k_asm); (case n=>assumption); (case a=>k_room); (case c=>k_units)); intro qt qh' qtk' qF' qbt'; (have qN':=news_but0 qkN0 qbt'); clear qkN0; (try k_sweep))
  trivial
theorem fv (b:Array UInt8) (lo hi:Option Int):(KBy.picked b lo hi).size≤b.size:=KBc.size_picked_le b lo hi
theorem yr:True:=by
  k_with "subscriptTail"=>(k_here; (with_reducible show wpAny _ _ (subscriptTail _ (PySem.Expr.Slice (some _) (some _) none _) (Value.ref _) (Value.ref _)) _ _ _); k_dflt (refine' ii ?F ?N ?o ?z ?_ ?s ?t; (case F=>k_asm); (case N=>k_asm); (case o=>(refine' News.get ?oN ?om; (case oN=>k_asm); (case om=>k_mem))); (case s=>with_unfolding_all rfl); (case t=>kmk_pure); (case z=>omega); k_whole); intro qD' qh' qF' qN' ql1; (try k_lt ql1))
  k_with "call type:bytes"=>(k_here; (with_reducible show wpAny _ _ (call (Value.type "bytes") [Value.ref _]) _ _ _); k_dflt (refine' gO ?o ?z ?_; (case o=>(refine' News.get ?oN ?om; (case oN=>k_asm); (case om=>k_mem))); (case z=>(first | omega | exact Nat.le_trans (fv _ _ _) (by omega)))); intro qt' qk')
  trivial
theorem rM {w:World} {p:Program} {loose:List Str} {mean:ExcName→Option Value} {mg mb:Str→Option Value} {s:Shared} {h₀:Heap} {L:Addr} {m:Str→Option Value} {R:List (Addr×Obj)}
    {sp sd tx td ba:Addr} {b:Array UInt8} {i k:Int} {n g l:Value} {ti tk u1 u2 u3 u4 w1 w2 w3:Tok} {Q E:Value→Shared→Prop}
    (F:Fr h₀ L s.heap m) (X:(Mine.hd.heap_1 w.params).In h₀) (T:Top p loose mean mg mb h₀) (N:News h₀ L s.heap R)
    (m3:(sp,instObj 182 sd)∈R) (m4:(sd,cK w.params (.ref tx) i k ti tk w1 w2 w3)∈R) (m5:(tx,instObj 107 td)∈R) (m6:(td,bc w.params (Str.ofString "octets") n (.ref ba) g l u1 u2 u3 u4)∈R) (m7:(ba,a8 b)∈R) (hz:b.size≤100)
    (post:∀ u h' tk',Fr h₀ L h' m→But [] s.heap h'→Q (.bytes (KBy.picked b (some i) (some (i+k))) u) { s with heap:=h',toks:=tk' }) :
    wpAny (model rw_on0273_01.row.prog w) (AR 880 8800) (call (.ref 372) [.ref sp]) Q E s:=by
  refine wpAny_call ?_
  k_enter
  k_steps
  all_goals (exact post _ _ _ (by assumption) (But.full (by assumption) (by assumption) (by assumption) (by assumption) (by (intro p hp; repeat (first | exact hp | refine List.mem_cons_of_mem _ ?_)))))
end
section
theorem rK {w:World} {p:Program} {loose:List Str} {mean:ExcName→Option Value} {mg mb:Str→Option Value} {s:Shared} {h₀:Heap} {L:Addr} {m:Str→Option Value} {R:List (Addr×Obj)}
    {sp sd rw rd li:Addr} {vs:List Value} {q:Nat} {i k:Int} {n g l:Value} {ti tk u1 u2 u3 u4 w1 w2 w3:Tok} {Q E:Value→Shared→Prop}
    (F:Fr h₀ L s.heap m) (X:(Mine.hd.heap_1 w.params).In h₀) (T:Top p loose mean mg mb h₀) (N:News h₀ L s.heap R)
    (m3:(sp,instObj 182 sd)∈R) (m4:(sd,cK w.params (.ref rw) i k ti tk w1 w2 w3)∈R) (m5:(rw,instObj 128 rd)∈R) (m6:(rd,bc w.params (Str.ofString "things") n (.ref li) g l u1 u2 u3 u4)∈R) (m7:(li,listOf vs.toArray q)∈R) (hz:vs.length≤100)
    (post:∀ D h' tk',Fr h₀ L h' m→News h₀ L h' ((D,listOf (slicePick vs.toArray (some i) (some (i+k)) none) 0)::R)→(∀ p∈R,p.1<D)→But [] s.heap h'→Q (.ref D) { s with heap:=h',toks:=tk' }) :
    wpAny (model rw_on0273_01.row.prog w) (AR 880 8800) (call (.ref 379) [.ref sp]) Q E s:=by
  refine wpAny_call ?_
  k_enter
  k_steps
  exact post _ _ _ (by assumption) (ag ‹News _ _ _ _› (by intro p hp; rcases List.mem_cons.mp hp with rfl | hp; exact List.mem_cons_self; (repeat (first | exact hp | refine List.mem_cons_of_mem _ ?_)))) (by assumption) (But.full (by assumption) (by assumption) (by assumption) (by assumption) (by (intro p hp; repeat (first | exact hp | refine List.mem_cons_of_mem _ ?_))))
end
section
theorem yk:True:=by
  k_with "execs nil"=>refine wpAny_execs_nil ?_
  k_with "execs cons Assign nil"=>((with_reducible refine wpAny_execs_cons ?_); (try k_fold))
  k_with "execs cons Assign cons"=>((with_reducible refine wpAny_execs_cons ?_); (try k_fold))
  k_with "execs cons Return nil"=>((with_reducible refine wpAny_execs_cons ?_); (try k_fold))
  k_with "execs cons Expr nil"=>((with_reducible refine wpAny_execs_cons ?_); (try k_fold))
  k_with "execs cons Expr cons"=>((with_reducible refine wpAny_execs_cons ?_); (try k_fold))
  k_with "execs cons If nil"=>((with_reducible refine wpAny_execs_cons ?_); (try k_fold))
  k_with "execs cons If cons"=>((with_reducible refine wpAny_execs_cons ?_); (try k_fold))
  k_with "execs cons For nil"=>((with_reducible refine wpAny_execs_cons ?_); (try k_fold))
  k_with "execs cons For cons"=>((with_reducible refine wpAny_execs_cons ?_); (try k_fold))
  k_with "execs cons While cons"=>((with_reducible refine wpAny_execs_cons ?_); (try k_fold))
  k_with "execs cons While nil"=>((with_reducible refine wpAny_execs_cons ?_); (try k_fold))
  trivial
@[reducible] noncomputable def bump (s:Shared):Shared:={ s with toks:=s.toks+1 }
theorem uJ {R:List (Addr×Obj)} {d a:Addr} (h:∀ p∈R,p.1<d) (h2:@LT.lt Nat _ d a):∀ p∈R,p.1<a:=fun p hp=>Nat.lt_trans (h p hp) h2
theorem AllLt.every {d:Addr} (l:List (Addr×Obj)) (h:AllLt d l):∀ p∈l,@LT.lt Nat _ p.1 d:=by
  induction l with
  | nil=>exact fun _ hp=>nomatch hp
  | cons q r ih=>exact fC ⟨h.1,ih h.2⟩
theorem AllLt.ne {d:Addr} {l:List (Addr×Obj)} (h:AllLt d l):∀ p∈l,p.1≠d:=fun p hp=>Nat.ne_of_lt (AllLt.every l h p hp)
local macro_rules | `(tactic| k_lt $_:ident) => `(tactic| k_extra "lt")
theorem yt:True:=by
  k_with "lt"=>((with_reducible rename (∀ p∈(_:List (Addr×Obj)),p.1<_)=>lt9'); have qkq9':=allLt_of lt9'; replace lt9':=qkq9'; dsimp only [AllLt] at lt9')
  trivial
noncomputable def f8 (K:Frag) (C:Addr) (a:Str):Bool:=plainGet K C a&&hasDictIn K C&&(match findIn K (.ref C) a with | some attr=>noGet K attr | none=>false)
structure dz (P:Params) (C:Addr) (o:Obj) (a:Str) (v:Value):Prop where
  ok:f8 (Mine.hd.heap_1 P) C a=true
  at_:∃ es n,o=dictOf es n∧getL a es=some (some v)
  hand:handedIn v=true
section
variable {prog:Program} {w:World} {A:Around} {E:Value→Shared→Prop} {s:Shared} {h₀:Heap} {m mg mb:Str→Option Value} {news:List (Addr×Obj)} {env:Env} {x a:Str} {p1 p2 p3 p4:Pos} {ad d C:Addr} {od:Obj} {v:Value}
theorem nB {L:Addr} {expr:Bool} {Q:Value→Shared→Prop} (F:Fr h₀ L s.heap m) (X:(Mine.hd.heap_1 w.params).In h₀) (N:News h₀ L s.heap news)
    (m1:(ad,instObj C d)∈news) (m2:(d,od)∈news) (hA:dz w.params C od a v) (h:Q v (bump s)):wpAny (model prog w) A (getAttr (.ref ad) a expr) Q E s:=by
  obtain ⟨ok,⟨es,n,rfl,hl⟩,hh⟩:=hA
  unfold f8 at ok
  obtain ⟨ok,o3⟩:=bA.mp ok
  obtain ⟨o1,o2⟩:=bA.mp ok
  cases hf:findIn (Mine.hd.heap_1 w.params) (.ref C) a with
  | none=>rw [hf] at o3; cases o3
  | some attr=>rw [hf] at o3; exact get_own F X (InstAt.of_news N m1 m2) o1 o2 hf o3 hl hh h
noncomputable def dX (env:Env) (x:Str):Bool:=env.scope.kind==.function&&env.kindOf x==some .local&&(x==("__debug__":Str))==false
theorem dj {Q:Value→Shared→Prop} (F:Fr h₀ env.locals s.heap m) (hv:m x=some v) (h:Q v s) (hk:dX env x=true):wpAny (model prog w) A (eval (.Name x p1) env) Q E s:=by
  unfold dX at hk
  obtain ⟨hk,h3⟩:=bA.mp hk
  obtain ⟨h1,h2⟩:=bA.mp hk
  exact wpAny_Name (wpAny_loadName_local (by simpa using h1) (by simpa using h2) F.ns hv h) (by simpa using h3)
theorem vZ {Q:Value→Shared→Prop} (F:Fr h₀ env.locals s.heap m) (X:(Mine.hd.heap_1 w.params).In h₀) (N:News h₀ env.locals s.heap news) (hv:m x=some (.ref ad))
    (m1:(ad,instObj C d)∈news) (m2:(d,od)∈news) (hA:dz w.params C od a v) (h:Q v (bump s)) (hk:dX env x=true) :
    wpAny (model prog w) A (eval (.Attribute (.Name x p1) a p2) env) Q E s:=Attribute_Name_ (dj F hv (nB F X N m1 m2 hA h) hk)
noncomputable def Ways (b:Bool) (p q:Prop):Prop:=match b with | true=>p | false=>q
theorem rF {P:Prop} [Decidable P] {p q:Prop} (hp:¬ P) (h:q):Ways (decide P) p q:=by rw [decide_eq_false hp]; exact h
theorem su {test:PySem.Expr} {body orelse:List Stmt} {pos:Pos} {Q:Flow→Shared→Prop} (h:wpAny (model prog w) A (isTrue test env (eval test env)) (fun b s₂=>Ways b (wpAny (model prog w) A (execs body env) Q E s₂) (wpAny (model prog w) A (execs orelse env) Q E s₂)) E s) :
    wpAny (model prog w) A (exec (.If test body orelse pos) env) Q E s:=wpAny_If (wpAny_mono h (fun b s₂ hb=>by cases b <;> exact hb) fun _ _ e=>e)
end
noncomputable def kl (K:Frag) (C:Addr) (a:Str):Bool:=findIn K (.ref C) "__setattr__"==some (some (.builtin "object.__setattr__"))&&plainOver K C&&takerIn K C a==some none&&hasDictIn K C
structure yc (P:Params) (C:Addr) (o:Obj) (a:Str) (v:Value) (o':Obj):Prop where
  ok:kl (Mine.hd.heap_1 P) C a=true
  put:∀ t:Tok,∃ es n es' n',o=dictOf es n∧o'=dictOf es' n'∧(getL a es).isSome=true∧(putL a (PyData.keyHash P a) (.str a t) v es,putN a es n)=(es',n')∧es'.length≤1000
section
variable {prog:Program} {w:World} {A:Around} {E:Value→Shared→Prop} {s:Shared} {h₀:Heap} {m mg mb:Str→Option Value} {news:List (Addr×Obj)} {env:Env} {x a:Str} {p1 p2 p3 p4:Pos} {ad d C:Addr} {od:Obj} {v:Value}
structure aG (P:Params) (x:Str) (fa:Addr):Prop where
  at_:nsIn (Mine.hd.heap_1 P) mainGlobals x=some (some (.ref fa))
  keep:keepIn (Mine.hd.heap_1 P) (.ref fa)=true
  debug:(x==("__debug__":Str))=false
noncomputable def fQ (env:Env) (x:Str):Bool:=env.scope.kind==.function&&env.kindOf x==some .globalImplicit&&env.globals==mainGlobals
theorem qD {p:Program} {loose:List Str} {fa:Addr} {Q:Value→Shared→Prop} (F:Fr h₀ env.locals s.heap m) (X:(Mine.hd.heap_1 w.params).In h₀) (T:TopRead p loose mg mb h₀) (G:aG w.params x fa) (h:Q (.ref fa) s) (hk:fQ env x=true) :
    wpAny (model prog w) A (eval (.Name x p1) env) Q E s:=by
  unfold fQ at hk
  obtain ⟨hk,h3⟩:=bA.mp hk
  obtain ⟨h1,h2⟩:=bA.mp hk
  have h3:env.globals=mainGlobals:=by simpa using h3
  exact Name_function_global (by simpa using h1) (by simpa using h2) (loadGlobal_global (by rw [h3]; exact T.g.keeps F.keep) (mg_of X T.g G.at_) h) G.debug
theorem sr {p:Program} {loose:List Str} {fa:Addr} {e1:PySem.Expr} {Q:Value→Shared→Prop} (F:Fr h₀ env.locals s.heap m) (X:(Mine.hd.heap_1 w.params).In h₀) (T:TopRead p loose mg mb h₀) (G:aG w.params x fa)
    (h:wpAny (model prog w) A (eval e1 env) (fun v s₁=>(Mine.hd.heap_1 w.params).In s₁.heap∧wpAny (model prog w) A (call (.ref fa) [v]) Q E s₁) E s) (hk:fQ env x=true)
    (he:starEach [e1] env=(false,eval e1 env)::starEach [] env) :
    wpAny (model prog w) A (eval (.Call (.Name x p1) [e1] [] p2) env) Q E s:=
  wpAny_Call_NameR (qD F X T G (callWith_K X G.keep (spliced_more (wpAny_mono h (fun v s₁ h₁=>spliced_none h₁) fun _ _ e=>e) he) he rfl) hk)
theorem rm {p:Program} {loose:List Str} {fa:Addr} {e1 e2:PySem.Expr} {Q:Value→Shared→Prop} (F:Fr h₀ env.locals s.heap m) (X:(Mine.hd.heap_1 w.params).In h₀) (T:TopRead p loose mg mb h₀) (G:aG w.params x fa)
    (h:wpAny (model prog w) A (eval e1 env) (fun v s₁=>wpAny (model prog w) A (eval e2 env) (fun v2 s₂=>(Mine.hd.heap_1 w.params).In s₂.heap∧wpAny (model prog w) A (call (.ref fa) [v,v2]) Q E s₂) E s₁) E s) (hk:fQ env x=true)
    (he:starEach [e1,e2] env=(false,eval e1 env)::starEach [e2] env) (he2:starEach [e2] env=(false,eval e2 env)::starEach [] env) :
    wpAny (model prog w) A (eval (.Call (.Name x p1) [e1,e2] [] p2) env) Q E s:=
  wpAny_Call_NameR (qD F X T G (callWith_K X G.keep (spliced_more (wpAny_mono h (fun v s₁ h₁=>spliced_more (wpAny_mono h₁ (fun v2 s₂ h₂=>spliced_none h₂) fun _ _ e=>e) he2) fun _ _ e=>e) he) he (by rw [he2]; rfl)) hk)
end
theorem yl:True:=by
  k_with "B dec"=>first | (refine dec_t ?_; decide +kernel) | (refine dec_f ?_; decide +kernel)
  k_with "Ways"=>first | with_reducible refine ways_t ?_ | with_reducible refine ways_f ?_ | (with_reducible refine ways_p (by omega) ?_) | (with_reducible refine rF (by omega) ?_) | (with_reducible refine ways_d ?_ ?_ <;> intro _) | (with_reducible refine ways_b ?_ ?_ <;> intro _)
  trivial
theorem g61 (P:Params):aG P (Str.ofString "decimal_octets") 61:=⟨by kernel_rfl,by kernel_rfl,by kernel_rfl⟩
theorem g68 (P:Params):aG P (Str.ofString "number_octets") 68:=⟨by kernel_rfl,by kernel_rfl,by kernel_rfl⟩
theorem g86 (P:Params):aG P (Str.ofString "Thing") 86:=⟨by kernel_rfl,by kernel_rfl,by kernel_rfl⟩
theorem vu (P:Params):aG P (Str.ofString "Row") 128:=⟨by kernel_rfl,by kernel_rfl,by kernel_rfl⟩
theorem uX (P:Params):aG P (Str.ofString "DictBody") 161:=⟨by kernel_rfl,by kernel_rfl,by kernel_rfl⟩
theorem vG (P:Params):aG P (Str.ofString "Span") 182:=⟨by kernel_rfl,by kernel_rfl,by kernel_rfl⟩
theorem vS (P:Params):aG P (Str.ofString "integer") 193:=⟨by kernel_rfl,by kernel_rfl,by kernel_rfl⟩
theorem uW (P:Params):aG P (Str.ofString "real") 200:=⟨by kernel_rfl,by kernel_rfl,by kernel_rfl⟩
theorem wL (P:Params):aG P (Str.ofString "boolean") 207:=⟨by kernel_rfl,by kernel_rfl,by kernel_rfl⟩
theorem wA (P:Params):aG P (Str.ofString "name") 215:=⟨by kernel_rfl,by kernel_rfl,by kernel_rfl⟩
theorem ua (P:Params):aG P (Str.ofString "operator_thing") 222:=⟨by kernel_rfl,by kernel_rfl,by kernel_rfl⟩
theorem uh (P:Params):aG P (Str.ofString "mark") 229:=⟨by kernel_rfl,by kernel_rfl,by kernel_rfl⟩
theorem vd (P:Params):aG P (Str.ofString "null") 236:=⟨by kernel_rfl,by kernel_rfl,by kernel_rfl⟩
theorem uv (P:Params):aG P (Str.ofString "of_string") 244:=⟨by kernel_rfl,by kernel_rfl,by kernel_rfl⟩
theorem vF (P:Params):aG P (Str.ofString "of_row") 252:=⟨by kernel_rfl,by kernel_rfl,by kernel_rfl⟩
theorem vJ (P:Params):aG P (Str.ofString "of_packed") 260:=⟨by kernel_rfl,by kernel_rfl,by kernel_rfl⟩
theorem wi (P:Params):aG P (Str.ofString "of_dict") 267:=⟨by kernel_rfl,by kernel_rfl,by kernel_rfl⟩
theorem ur (P:Params):aG P (Str.ofString "of_save") 274:=⟨by kernel_rfl,by kernel_rfl,by kernel_rfl⟩
theorem uS (P:Params):aG P (Str.ofString "font_id") 281:=⟨by kernel_rfl,by kernel_rfl,by kernel_rfl⟩
theorem ta (P:Params):aG P (Str.ofString "is_number") 288:=⟨by kernel_rfl,by kernel_rfl,by kernel_rfl⟩
theorem wQ (P:Params):aG P (Str.ofString "is_in_array") 295:=⟨by kernel_rfl,by kernel_rfl,by kernel_rfl⟩
theorem tN (P:Params):aG P (Str.ofString "body_of") 302:=⟨by kernel_rfl,by kernel_rfl,by kernel_rfl⟩
theorem wa (P:Params):aG P (Str.ofString "access_of") 316:=⟨by kernel_rfl,by kernel_rfl,by kernel_rfl⟩
theorem uL (P:Params):aG P (Str.ofString "can_read") 323:=⟨by kernel_rfl,by kernel_rfl,by kernel_rfl⟩
theorem tW (P:Params):aG P (Str.ofString "has_access") 330:=⟨by kernel_rfl,by kernel_rfl,by kernel_rfl⟩
theorem uf (P:Params):aG P (Str.ofString "with_access") 337:=⟨by kernel_rfl,by kernel_rfl,by kernel_rfl⟩
theorem vj (P:Params):aG P (Str.ofString "span_of") 344:=⟨by kernel_rfl,by kernel_rfl,by kernel_rfl⟩
theorem vH (P:Params):aG P (Str.ofString "check_part") 351:=⟨by kernel_rfl,by kernel_rfl,by kernel_rfl⟩
theorem vM (P:Params):aG P (Str.ofString "part_of") 358:=⟨by kernel_rfl,by kernel_rfl,by kernel_rfl⟩
theorem tP (P:Params):aG P (Str.ofString "with_span") 365:=⟨by kernel_rfl,by kernel_rfl,by kernel_rfl⟩
theorem vV (P:Params):aG P (Str.ofString "octets_of_span") 372:=⟨by kernel_rfl,by kernel_rfl,by kernel_rfl⟩
theorem uH (P:Params):aG P (Str.ofString "things_of_span") 379:=⟨by kernel_rfl,by kernel_rfl,by kernel_rfl⟩
theorem wq (P:Params):aG P (Str.ofString "print_string") 392:=⟨by kernel_rfl,by kernel_rfl,by kernel_rfl⟩
theorem vz (P:Params):aG P (Str.ofString "print_truth") 399:=⟨by kernel_rfl,by kernel_rfl,by kernel_rfl⟩
theorem vI (P:Params):aG P (Str.ofString "print_plain") 406:=⟨by kernel_rfl,by kernel_rfl,by kernel_rfl⟩
theorem uB (P:Params):aG P (Str.ofString "print_row") 411:=⟨by kernel_rfl,by kernel_rfl,by kernel_rfl⟩
theorem wF (P:Params):aG P (Str.ofString "written") 419:=⟨by kernel_rfl,by kernel_rfl,by kernel_rfl⟩
theorem wb (P:Params):aG P (Str.ofString "Limits") 437:=⟨by kernel_rfl,by kernel_rfl,by kernel_rfl⟩
theorem uO (P:Params):aG P (Str.ofString "Memory") 718:=⟨by kernel_rfl,by kernel_rfl,by kernel_rfl⟩
theorem wK (P:Params):aG P (Str.ofString "memory_check_many") 727:=⟨by kernel_rfl,by kernel_rfl,by kernel_rfl⟩
theorem vb (P:Params):aG P (Str.ofString "_law_strings") 741:=⟨by kernel_rfl,by kernel_rfl,by kernel_rfl⟩
theorem vX (P:Params):aG P (Str.ofString "_law_names") 748:=⟨by kernel_rfl,by kernel_rfl,by kernel_rfl⟩
theorem xW (P:Params):aG P (Str.ofString "_law_deck") 753:=⟨by kernel_rfl,by kernel_rfl,by kernel_rfl⟩
theorem uY (P:Params):aG P (Str.ofString "_law_draw") 760:=⟨by kernel_rfl,by kernel_rfl,by kernel_rfl⟩
theorem wz (P:Params):aG P (Str.ofString "_law_string") 767:=⟨by kernel_rfl,by kernel_rfl,by kernel_rfl⟩
theorem vT (P:Params):aG P (Str.ofString "_law_thing") 777:=⟨by kernel_rfl,by kernel_rfl,by kernel_rfl⟩
theorem ul (P:Params):aG P (Str.ofString "_law_real") 782:=⟨by kernel_rfl,by kernel_rfl,by kernel_rfl⟩
theorem vp (P:Params):aG P (Str.ofString "_law_escaped") 789:=⟨by kernel_rfl,by kernel_rfl,by kernel_rfl⟩
theorem vU (P:Params):aG P (Str.ofString "_law_shown") 794:=⟨by kernel_rfl,by kernel_rfl,by kernel_rfl⟩
theorem tg (P:Params):aG P (Str.ofString "_law_told") 801:=⟨by kernel_rfl,by kernel_rfl,by kernel_rfl⟩
theorem yy:True:=by
  k_with "G fun"=>first | exact g61 _ | exact g68 _ | exact g86 _ | exact g107 _ | exact vu _ | exact uX _ | exact vG _ | exact vS _ | exact uW _ | exact wL _ | exact wA _ | exact ua _ | exact uh _ | exact vd _ | exact uv _ | exact vF _ | exact vJ _ | exact wi _ | exact ur _ | exact uS _ | exact ta _ | exact wQ _ | exact tN _ | exact g309 _ | exact wa _ | exact uL _ | exact tW _ | exact uf _ | exact vj _ | exact vH _ | exact vM _ | exact tP _ | exact vV _ | exact uH _ | exact g387 _ | exact wq _ | exact vz _ | exact vI _ | exact uB _ | exact wF _ | exact wb _ | exact uO _ | exact wK _ | exact vb _ | exact vX _ | exact xW _ | exact uY _ | exact wz _ | exact g772 _ | exact vT _ | exact ul _ | exact vp _ | exact vU _ | exact tg _
  trivial
section
variable {P:Params}
end
theorem yp:True:=by
  k_with "A at"=>first | exact th_kind | exact th_value rfl | exact th_exec | exact th_access | exact sp_body rfl | exact sp_start | exact sp_many | exact tx_octets rfl | exact rw_things rfl
  trivial
theorem yh:True:=by
  k_with "eval Attribute Name"=>(k_here; k_dflt (refine' vZ ?F ?X ?N ?v ?m1 ?m2 ?A ?_ ?k; (case F=>k_asm); (case X=>k_asm); (case N=>k_asm); (case v=>exact rfl); (case m1=>k_mem); (case m2=>k_mem); (case A=>walk_at "A at"); (case k=>rfl)))
  k_with "getAttr ref"=>(k_here; k_dflt (refine' nB ?F ?X ?N ?m1 ?m2 ?A ?_; (case F=>k_asm); (case X=>k_asm); (case N=>k_asm); (case m1=>k_mem); (case m2=>k_mem); (case A=>walk_at "A at")))
  k_with "isTrue Compare"=>(k_here; (with_reducible show wpAny _ _ (isTrue (PySem.Expr.Compare (PySem.Expr.Attribute (PySem.Expr.Name _ _) _ _) [CmpOp.Eq] [PySem.Expr.Constant (PySem.Const.str _) _ _] _) _ _) _ _ _); k_dflt (refine' attrEq ?F ?X ?N ?v ?m1 ?m2 ?A ?b ?_ ?k; (case F=>k_asm); (case X=>k_asm); (case N=>k_asm); (case v=>exact rfl); (case m1=>k_mem); (case m2=>k_mem); (case A=>walk_at "A at"); (case b=>walk_at "B dec"); (case k=>rfl)))
  k_with "exec If"=>(k_here; refine su ?_)
  k_with "eval Call"=>(k_here; (with_reducible show wpAny _ _ (eval (PySem.Expr.Call (PySem.Expr.Name _ _) [_] [] _) _) _ _ _); k_dflt (refine' sr ?F ?X ?T ?G ?_ ?k ?e; (case F=>k_asm); (case X=>k_asm); (case T=>k_asm); (case G=>walk_at "G fun"); (case k=>rfl); (case e=>rfl)))
  k_with "eval Call"=>(k_here; (with_reducible show wpAny _ _ (eval (PySem.Expr.Call (PySem.Expr.Name _ _) [_,_] [] _) _) _ _ _); k_dflt (refine' rm ?F ?X ?T ?G ?_ ?k ?e ?f; (case F=>k_asm); (case X=>k_asm); (case T=>k_asm); (case G=>walk_at "G fun"); (case k=>rfl); (case e=>rfl); (case f=>rfl)))
  trivial
end
section
theorem yw:True:=by
  k_with "eval Compare"=>(k_here; (with_reducible show wpAny _ _ (eval (PySem.Expr.Compare (PySem.Expr.Attribute (PySem.Expr.Name _ _) _ _) [CmpOp.Eq] [PySem.Expr.Constant (PySem.Const.str _) _ _] _) _) _ _ _); k_dflt (refine' attrEqV ?F ?X ?N ?v ?m1 ?m2 ?A rfl ?_ ?k; (case F=>k_asm); (case X=>k_asm); (case N=>k_asm); (case v=>exact rfl); (case m1=>k_mem); (case m2=>k_mem); (case A=>walk_at "A at"); (case k=>rfl)))
  trivial
section
variable {w:World} {p:Program} {loose:List Str} {mean:ExcName→Option Value} {mg mb:Str→Option Value} {s:Shared} {h₀:Heap} {L:Addr} {m:Str→Option Value} {R:List (Addr×Obj)}
    {a d:Addr} {ks:Str} {v:Value} {x:Bool} {ac:Int} {t t0 t1 t2 t3 t4:Tok} {Q E:Value→Shared→Prop}
end
end
section
noncomputable abbrev mV (P:Params) (li sv jr mm fr:Addr) (used last:Int) (f:Nat→Tok):Obj:=dictOf [⟨PyData.keyHash P (Str.ofString "limits"),.str (Str.ofString "limits") (f 0),.ref li⟩,⟨PyData.keyHash P (Str.ofString "is_global"),.str (Str.ofString "is_global") (f 1),.bool false⟩,⟨PyData.keyHash P (Str.ofString "saves"),.str (Str.ofString "saves") (f 2),.ref sv⟩,⟨PyData.keyHash P (Str.ofString "journal"),.str (Str.ofString "journal") (f 3),.ref jr⟩,⟨PyData.keyHash P (Str.ofString "made"),.str (Str.ofString "made") (f 4),.ref mm⟩,⟨PyData.keyHash P (Str.ofString "freed"),.str (Str.ofString "freed") (f 5),.ref fr⟩,⟨PyData.keyHash P (Str.ofString "used"),.str (Str.ofString "used") (f 6),.int used (f 10)⟩,⟨PyData.keyHash P (Str.ofString "used_global"),.str (Str.ofString "used_global") (f 7),.int 0 (f 11)⟩,⟨PyData.keyHash P (Str.ofString "last_body"),.str (Str.ofString "last_body") (f 8),.int last (f 12)⟩,⟨PyData.keyHash P (Str.ofString "last_save"),.str (Str.ofString "last_save") (f 9),.int 0 (f 13)⟩] 10
inductive aT (P:Params) (li sv jr mm fr:Addr) (used last:Int):Obj→Prop
  | of {f:Nat→Tok}:aT P li sv jr mm fr used last (mV P li sv jr mm fr used last f)
theorem aT.mk {P:Params} {li sv jr mm fr:Addr} {used last:Int} {k1 k2 k3 k4 k5 k6 k7 k8 k9 k10 v7 v8 v9 v10:Tok}:aT P li sv jr mm fr used last (dictOf [⟨PyData.keyHash P (Str.ofString "limits"),.str (Str.ofString "limits") k1,.ref li⟩,⟨PyData.keyHash P (Str.ofString "is_global"),.str (Str.ofString "is_global") k2,.bool false⟩,⟨PyData.keyHash P (Str.ofString "saves"),.str (Str.ofString "saves") k3,.ref sv⟩,⟨PyData.keyHash P (Str.ofString "journal"),.str (Str.ofString "journal") k4,.ref jr⟩,⟨PyData.keyHash P (Str.ofString "made"),.str (Str.ofString "made") k5,.ref mm⟩,⟨PyData.keyHash P (Str.ofString "freed"),.str (Str.ofString "freed") k6,.ref fr⟩,⟨PyData.keyHash P (Str.ofString "used"),.str (Str.ofString "used") k7,.int used v7⟩,⟨PyData.keyHash P (Str.ofString "used_global"),.str (Str.ofString "used_global") k8,.int 0 v8⟩,⟨PyData.keyHash P (Str.ofString "last_body"),.str (Str.ofString "last_body") k9,.int last v9⟩,⟨PyData.keyHash P (Str.ofString "last_save"),.str (Str.ofString "last_save") k10,.int 0 v10⟩] 10):=
  aT.of (f:=fun i=>[k1,k2,k3,k4,k5,k6,k7,k8,k9,k10,v7,v8,v9,v10].getD i 0)
noncomputable abbrev ir (P:Params) (f:Nat→Tok):Obj:=dictOf [⟨PyData.keyHash P (Str.ofString "operands"),.str (Str.ofString "operands") (f 0),.int 500 (f 1)⟩,⟨PyData.keyHash P (Str.ofString "dicts"),.str (Str.ofString "dicts") (f 2),.int 20 (f 3)⟩,⟨PyData.keyHash P (Str.ofString "frames"),.str (Str.ofString "frames") (f 4),.int 250 (f 5)⟩,⟨PyData.keyHash P (Str.ofString "saves"),.str (Str.ofString "saves") (f 6),.int 15 (f 7)⟩,⟨PyData.keyHash P (Str.ofString "gstates"),.str (Str.ofString "gstates") (f 8),.int 31 (f 9)⟩,⟨PyData.keyHash P (Str.ofString "text"),.str (Str.ofString "text") (f 10),.int 65535 (f 11)⟩,⟨PyData.keyHash P (Str.ofString "row"),.str (Str.ofString "row") (f 12),.int 65535 (f 13)⟩,⟨PyData.keyHash P (Str.ofString "entries"),.str (Str.ofString "entries") (f 14),.int 65535 (f 15)⟩,⟨PyData.keyHash P (Str.ofString "word"),.str (Str.ofString "word") (f 16),.int 127 (f 17)⟩,⟨PyData.keyHash P (Str.ofString "path"),.str (Str.ofString "path") (f 18),.int 1500 (f 19)⟩,⟨PyData.keyHash P (Str.ofString "dash"),.str (Str.ofString "dash") (f 20),.int 11 (f 21)⟩,⟨PyData.keyHash P (Str.ofString "files"),.str (Str.ofString "files") (f 22),.int 15 (f 23)⟩,⟨PyData.keyHash P (Str.ofString "system"),.str (Str.ofString "system") (f 24),.int 600 (f 25)⟩,⟨PyData.keyHash P (Str.ofString "vm"),.str (Str.ofString "vm") (f 26),.int 16777216 (f 27)⟩] 14
structure bZ (P:Params) (ma md li ld sv mm:Addr) (J:List (Addr×Obj)):Prop where
  m:(ma,instObj 718 md)∈J
  l:(li,instObj 437 ld)∈J
  d:∃ f,(ld,ir P f)∈J
  s:∃ n,(sv,listOf #[] n)∈J
  nd:∀ p∈J,p.1≠md
  nm:∀ p∈J,p.1≠mm
theorem bZ.cons {P:Params} {ma md li ld sv mm a:Addr} {o:Obj} {J:List (Addr×Obj)} (M:bZ P ma md li ld sv mm J) (h1:@Ne Nat a md) (h2:@Ne Nat a mm):bZ P ma md li ld sv mm ((a,o)::J):=
  ⟨.tail _ M.m,.tail _ M.l,M.d.elim fun f h=>⟨f,.tail _ h⟩,M.s.elim fun n h=>⟨n,.tail _ h⟩,fC ⟨h1,M.nd⟩,fC ⟨h2,M.nm⟩⟩
theorem bZ.app {P:Params} {ma md li ld sv mm:Addr} {J R:List (Addr×Obj)} (M:bZ P ma md li ld sv mm J) (h:∀ p∈R,p.1≠md∧p.1≠mm):bZ P ma md li ld sv mm (R++J):=
  ⟨List.mem_append_right _ M.m,List.mem_append_right _ M.l,M.d.elim fun f h=>⟨f,List.mem_append_right _ h⟩,M.s.elim fun n h=>⟨n,List.mem_append_right _ h⟩,
    fun p hp=>(List.mem_append.mp hp).elim (fun q=>(h p q).1) (M.nd p),fun p hp=>(List.mem_append.mp hp).elim (fun q=>(h p q).2) (M.nm p)⟩
theorem yu:True:=by
  k_with "k k_all"=>first | with_reducible assumption | exact AllLt.ne (by with_reducible assumption) | exact List.forall_mem_nil _ | (refine fC ⟨?_,?_⟩; (focus k_ne); k_all)
  trivial
section
variable {P:Params} {li sv jr mm fr:Addr} {used last:Int} {f:Nat→Tok}
theorem kL:dz P 718 (mV P li sv jr mm fr used last f) (Str.ofString "limits") (.ref li):=⟨by kernel_rfl,⟨_,_,rfl,by k_get⟩,rfl⟩
theorem fZ:dz P 718 (mV P li sv jr mm fr used last f) (Str.ofString "is_global") (.bool false):=⟨by kernel_rfl,⟨_,_,rfl,by k_get⟩,rfl⟩
theorem lK:dz P 718 (mV P li sv jr mm fr used last f) (Str.ofString "saves") (.ref sv):=⟨by kernel_rfl,⟨_,_,rfl,by k_get⟩,rfl⟩
theorem pR:dz P 437 (ir P f) (Str.ofString "text") (.int 65535 (f 11)):=⟨by kernel_rfl,⟨_,_,rfl,by k_get⟩,rfl⟩
end
theorem yq:True:=by
  k_with "A at"=>first | exact kL | exact fZ | exact lK | exact me_made | exact me_used | exact me_used_global | exact me_last_body | exact pR | exact li_row | exact li_entries | exact li_vm
  k_with "setAttr ref"=>(k_here; k_dflt (refine' setAt ?F ?X ?N ?m1 ?m2 ?A ?U ?_; (case F=>k_asm); (case X=>k_asm); (case N=>k_asm); (case m1=>k_mem); (case m2=>k_mem); (case A=>first | exact me_set_used | exact me_set_last); (case U=>k_upd)); intro qh' qk' qF' qN'; (try k_sweep))
  trivial
theorem But.part {R all:List (Addr×Obj)} {as:List Addr} {h₀ h g h':Heap} {L L':Addr} {m':Str→Option Value} (b:But (R.map (·.1)) h g) (N0:News h₀ L h R) (F:Fr g L' h' m') (N':News g L' h' all) (sub:∀ p∈R,p.1∈as∨p∈all):But as h h':=by
  intro x o e hn
  by_cases hx:x∈R.map (·.1)
  · obtain ⟨p,hp,rfl⟩:=List.mem_map.mp hx
    rw [(N0 p hp).1] at e
    cases e
    rcases sub p hp with q | q
    · exact absurd q hn
    · exact (N' p q).1
  · exact F.keep _ _ (b _ _ e hx)
theorem yo:True:=by
  k_with "setItem ref int"=>(k_here; k_dflt (refine' kda_set (knd:=PySem.intKind _ _) ?F ?N ?U ?d (intKind_is _ _ _ _) ?z ?_; (case F=>k_asm); (case N=>k_asm); (case U=>k_updF); (case d=>k_asm); (case z=>(rw [sizeLine_eq]; omega))); intro qh' qo' qF' qN' qhd'; (try dsimp only at qN'))
  trivial
end
section
theorem pg {x a b:Addr} (h1:@Ne Nat x a) (h2:@Ne Nat x b):x ∉ [a,b]:=fun h=>by
  rcases List.mem_cons.mp h with rfl | h
  · exact h1 rfl
  · rcases List.mem_cons.mp h with rfl | h
    · exact h2 rfl
    · exact nomatch h
end
section
section
variable {M:Model} {A:Around} {E:Value→Shared→Prop} {s:Shared} {env:Env}
theorem aI {st rest} {Q:Flow→Shared→Prop} (h:aw M A (exec st env) (fun f s'=>match f with | .next=>aw M A (execs rest env) Q E s' | f=>Q f s') E s):aw M A (execs (st::rest) env) Q E s:=fun Γ p hΓ hk=>by
  rw [execs_cons,Sem.wp_bind']
  refine Sem.wp_mono M Γ _ (fun f p' s' h'=>?_) (fun _ _ _ h'=>h') _ _ (h Γ p hΓ hk)
  cases f <;> first | exact h' Γ p' hΓ hk | exact h'
theorem IfC {test body orelse pos} {Q:Flow→Shared→Prop} (h:wpAny M A (isTrue test env (eval test env)) (fun b s₂=>if b=true then aw M A (execs body env) Q E s₂ else aw M A (execs orelse env) Q E s₂) E s) :
    aw M A (exec (.If test body orelse pos) env) Q E s:=fun Γ p hΓ hk=>by
  simp only [exec_If,Sem.wp_bind',Sem.wp_cmd_standAt]
  refine Sem.wp_mono M Γ _ (fun b p₂ s₂ h₂=>?_) (fun _ _ _ h'=>h') _ _ (h Γ _ hΓ)
  cases b <;> exact h₂ Γ p₂ hΓ hk
theorem kf {e pos} {Q:Flow→Shared→Prop} (h:aw M A (eval e env) (fun v=>Q (.ret v)) E s):aw M A (exec (.Return (some e) pos) env) Q E s:=fun Γ p hΓ hk=>by
  simp only [exec_Return_some,Sem.wp_bind',Sem.wp_cmd_standAt,Sem.wp_pure']; exact h Γ _ hΓ hk
theorem gC {x pos' value pos} {Q:Flow→Shared→Prop} (h:aw M A (eval value env) (fun v s₁=>wpAny M A (storeName env x v) (fun z_=>Q .next) E s₁) E s) (hs:swapsWith value (some (.Name x pos')) pos.line env=pure false) :
    aw M A (exec (.Assign [.Name x pos'] value pos) env) Q E s:=fun Γ p hΓ hk=>by
  simp only [exec_Assign_Name env x pos' value pos hs,Sem.wp_bind',Sem.wp_cmd_standAt,Sem.wp_bindName,Sem.wp_pure']
  exact Sem.wp_mono M Γ _ (fun v _ s₁ h₁=>h₁ Γ _ hΓ) (fun _ _ _ h'=>h') _ _ (h Γ _ hΓ hk)
theorem ic {o attr pos' value pos} {Q:Flow→Shared→Prop} (h:aw M A (eval value env) (fun v s₁=>wpAny M A (eval o env) (fun ov s₂=>wpAny M A (setAttr ov attr v) (fun z_=>Q .next) E s₂) E s₁) E s)
    (hs:swapsWith value (some (.Attribute o attr pos')) pos.line env=pure false):aw M A (exec (.Assign [.Attribute o attr pos'] value pos) env) Q E s:=fun Γ p hΓ hk=>by
  simp only [plainObj_exec_Assign_Attribute o attr pos' value pos hs,assign_Attribute,Sem.wp_bind',Sem.wp_holding,Sem.wp_cmd_standAt,Sem.wp_release,Sem.wp_pure']
  exact Sem.wp_mono M Γ _ (fun v p₁ s₁ h₁=>Sem.wp_mono M Γ _ (fun ov _ s₂ h₂=>h₂ Γ _ hΓ) (fun _ _ _ h'=>h') _ _ (h₁ Γ p₁ hΓ)) (fun _ _ _ h'=>h') _ _ (h Γ _ hΓ hk)
theorem fO {elts k tpos value pos} {Q:Flow→Shared→Prop} (h:aw M A (eval value env) (fun v s₁=>wpAny M A (assign (.Tuple elts k tpos) env v) (fun z_=>Q .next) E s₁) E s)
    (hs:swapsWithSole [.Tuple elts k tpos] value pos.line env=pure false) (hw:swappedStores [.Tuple elts k tpos] value env=pure none):aw M A (exec (.Assign [.Tuple elts k tpos] value pos) env) Q E s:=by
  rw [exec_Assign]
  refine ab (wpAny_standAt ?_)
  rw [hs]
  refine ab (wpAny_pure ?_)
  rw [if_neg (by decide)]
  refine au (aJ h (fun v s₁ h₁=>?_) fun _ _ x=>x)
  rw [hw]
  refine ab (wpAny_pure ?_)
  show aw M A (do assignAll v [assign (.Tuple elts k tpos) env]; pure .next) Q E s₁
  exact aD (wpAny_bind (wpAny_mono h₁ (fun _ _ x=>wpAny_pure x) fun _ _ x=>x))
theorem fA {func:PySem.Expr} {args:List PySem.Expr} {pos:Pos} {Q:Value→Shared→Prop} (h:wpAny M A (eval func env) (fun f s₁=>aw M A (callWith pos f [] (backTo pos (starEach args env)) []) Q E s₁) E s)
    (he:eval (.Call func args [] pos) env=(do callWith pos (← eval func env) [] (backTo pos (starEach args env)) (backToKw pos (keywordEach [] env)))):aw M A (eval (.Call func args [] pos) env) Q E s:=by
  rw [he]; exact ab h
theorem pP {o:PySem.Expr} {name:Str} {apos pos:Pos} {args:List PySem.Expr} {pl:Sem Bool} {Q:Value→Shared→Prop}
    (h:wpAny M A (eval o env) (fun ov s₁=>wpAny M A (getMethod ov name pl) (fun fx s₂=>aw M A (callWith pos fx.1 fx.2 (backTo pos (starEach args env)) []) Q E s₂) E s₁) E s)
    (he:eval (.Call (.Attribute o name apos) args [] pos) env=(do
      let ov ← eval o env
      standAt apos.atName
      let (f,first) ← holding [ov] (getMethod ov name pl)
      callWith pos f first (backTo pos (starEach args env)) [])) :
    aw M A (eval (.Call (.Attribute o name apos) args [] pos) env) Q E s:=by
  rw [he]
  refine ab (wpAny_mono h (fun ov s₁ h₁=>ab (wpAny_standAt (ab (wpAny_holding (wpAny_mono h₁ (fun fx s₂ h₂=>?_) fun _ _ x=>x))))) fun _ _ x=>x)
  exact h₂
theorem fg {x:Sem Value} {rest:List (Bool×Sem Value)} {Q:List Value→Shared→Prop} (h:aw M A x (fun v s₁=>wpAny M A (spliced rest) (fun vs s₂=>Q (v::vs) s₂) E s₁) E s):aw M A (spliced ((false,x)::rest)) Q E s:=by
  unfold spliced
  refine au (aJ h (fun v s₁ h₁=>?_) fun _ _ x=>x)
  refine ab (wpAny_pure ?_)
  exact aD (wpAny_bind (wpAny_holding (wpAny_mono h₁ (fun vs s₂ h₂=>wpAny_pure h₂) fun _ _ x=>x)))
theorem dP {f:Value} {x:Sem Value} {rest:List (Bool×Sem Value)} {Q:Args→Shared→Prop} (h:aw M A (spliced ((false,x)::rest)) (fun vs s'=>Q ⟨vs,[]⟩ s') E s):aw M A (evalArgs f true ((false,x)::rest) []) Q E s:=by
  unfold evalArgs
  show aw M A (spliced ((false,x)::rest)>>=_) Q E s
  refine au (aJ h (fun vs s' h'=>?_) fun _ _ x=>x)
  refine aL ?_
  exact aD (wpAny_bind (wpAny_pure (wpAny_bind (wpAny_pure (wpAny_pure h')))))
theorem bW {t:Sem Value} {Q:Value→Shared→Prop} (h:aw M A t Q E s):aw M A (t>>=fun r=>holding [r] point>>=fun z_=>pure r) Q E s:=
  au (aJ h (fun _ _ hr=>ab (wpAny_holding (wpAny_point (wpC_pure hr)))) fun _ _ x=>x)
theorem bf {pos:Pos} {a:Addr} {first:List Value} {args:List (Bool×Sem Value)} {Q:Value→Shared→Prop}
    (h:aw M A (evalArgs (.ref a) true args []) (fun x s₁=>bO ((∃ o fd,s₁.heap.get? a=some o∧o.data=.func fd)∧aw M A (call (.ref a) (first++x.pos) x.kw) Q E s₁)) E s) :
    aw M A (callWith pos (.ref a) first args []) Q E s:=by
  unfold callWith
  refine au (aL (aJ h (fun x s₁ h₁=>ab (wpAny_standAt ?_)) fun _ _ x=>x))
  obtain ⟨⟨o,fd,h1,h2⟩,h3⟩:=h₁
  cases hs:args.any (·.1) <;> simp only [List.any_nil,Bool.or_false] <;>
    refine ab (m:=keeperOf (.ref a)) ?_ <;> unfold keeperOf <;>
    refine wpAny_bind (wpAny_load h1 ?_) <;> rw [h2] <;> refine wpAny_pure ?_
  · dsimp only
    split
    · exact bW h3
    · refine bW ?_
      unfold callMarked
      exact gy h3
  · refine bW ?_
    unfold callMarked
    exact gy h3
theorem fi {pos:Pos} {C:Addr} {args:List (Bool×Sem Value)} {Q:Value→Shared→Prop} (hs:args.any (·.1)=false)
    (h:aw M A (evalArgs (.ref C) true args []) (fun x s₁=>bO ((∃ o cd,s₁.heap.get? C=some o∧o.data=.cls cd)∧(∀ Q':Option Value→Shared→Prop,Q' (some (.builtin "type.__call__")) s₁→wpAny M A (specialOf (.ref C) "__call__") Q' E s₁)∧aw M A (call (.ref C) x.pos x.kw) Q E s₁)) E s) :
    aw M A (callWith pos (.ref C) [] args []) Q E s:=by
  unfold callWith
  refine au (aL (aJ h (fun x s₁ h₁=>ab (wpAny_standAt ?_)) fun _ _ x=>x))
  obtain ⟨⟨o,cd,h1,h2⟩,h3,h4⟩:=h₁
  simp only [hs,List.any_nil,Bool.or_false]
  refine ab (m:=keeperOf (.ref C)) ?_
  unfold keeperOf
  refine wpAny_bind (wpAny_load h1 ?_)
  rw [h2]
  refine wpAny_bind (h3 _ (wpAny_pure ?_))
  exact bW h4
theorem eZ {pos:Pos} {T:String} {args:List (Bool×Sem Value)} {Q:Value→Shared→Prop} (hs:args.any (·.1)=false)
    (h:aw M A (evalArgs (.type T) true args []) (fun x s₁=>aw M A (call (.type T) x.pos x.kw) Q E s₁) E s) :
    aw M A (callWith pos (.type T) [] args []) Q E s:=by
  unfold callWith
  refine au (aL (aJ h (fun x s₁ h₁=>ab (wpAny_standAt ?_)) fun _ _ x=>x))
  simp only [hs,List.any_nil,Bool.or_false]
  refine ab (m:=keeperOf (.type T)) (wpAny_pure ?_)
  exact bW h₁
end
section
variable {prog:Program} {w:World} {A:Around} {s:Shared}
theorem dR {elt target iter:PySem.Expr} {ifs:List PySem.Expr} {rest:List Comprehension} {scope:Scope} {pos:Pos} {it acc:Value} {env:Env} {R:Result→Shared→Prop}
    (h0:aP (model prog w) A (.compLoop (.ListComp elt (⟨target,iter,ifs,0⟩::rest) scope pos) 0 it acc env) R s)
    (h:wpAny (model prog w) A (pyIter it) (fun it' s'=>aP (model prog w) A (.compLoop (.ListComp elt (⟨target,iter,ifs,0⟩::rest) scope pos) 0 it' acc env) R s') (fun z_ z_=>False) s) :
    aP (model prog w) A (.compStart (.ListComp elt (⟨target,iter,ifs,0⟩::rest) scope pos) 0 it acc env) R s:=by
  refine aR ?_
  show aw _ _ ((compStart (.ListComp elt (⟨target,iter,ifs,0⟩::rest) scope pos) 0 it acc env).onRaise (fun x=>do noteFrame x env; standAt theWindowsPlace)) _ _ s
  refine ck ?_
  unfold compStart
  show aw _ _ (ask>>=_) _ _ s
  refine ab (wpAny_askSetting ?_)
  split
  · first
      | exact wpC_pure ⟨rfl,trivial,h0⟩
      | exact ab (wpAny_pure (wpC_pure ⟨rfl,trivial,h0⟩))
  · first
      | exact ab (wpAny_rule (ab (wpAny_standAt (ab (wpAny_mono h (fun it' s' h'=>wpC_pure ⟨rfl,trivial,h'⟩) fun _ _ x=>x.elim)))))
      | (refine ab (wpAny_rule ?_); show aw _ _ (standAt iter.pos>>=_) _ _ s; exact ab (wpAny_standAt (ab (wpAny_mono h (fun it' s' h'=>wpC_pure ⟨rfl,trivial,h'⟩) fun _ _ x=>x.elim))))
theorem cj {elt target iter:PySem.Expr} {scope:Scope} {pos:Pos} {it acc:Value} {env:Env} {R:Result→Shared→Prop}
    (h:wpAny (model prog w) A (pyNext it) (fun r s₁=>match r with
      | none=>R (.ok .next) s₁
      | some v=>wpAny (model prog w) A (assign target env v) (fun _ s₂=>aw (model prog w) A (eval elt env) (fun x s₃=>wpAny (model prog w) A (call (.builtin "list.append") [acc,x])
          (fun _ s₄=>aP (model prog w) A (.compLoop (.ListComp elt [⟨target,iter,[],0⟩] scope pos) 0 it acc env) R s₄) (fun z_ z_=>False) s₃) (fun z_ z_=>False) s₂) (fun z_ z_=>False) s₁) (fun z_ z_=>False) s)
    (ht:∀ v,letOwnedTupleGo target it v=pure ()) :
    aP (model prog w) A (.compLoop (.ListComp elt [⟨target,iter,[],0⟩] scope pos) 0 it acc env) R s:=by
  refine aR ?_
  show aw _ A ((compTurn (.ListComp elt [⟨target,iter,[],0⟩] scope pos) 0 it acc env).onRaise (fun x=>do noteFrame x env; theTreesLotGoes x)) _ _ s
  refine ck ?_
  rw [compTurn_list1]
  refine ab (wpAny_standAt (ab (wpAny_mono h (fun r s₁ h₁=>?_) fun _ _ x=>x)))
  cases r with
  | none=>exact wpC_pure h₁
  | some v=>
    refine ab (wpAny_of_eq (ht v) ?_)
    refine ab (wpAny_mono h₁ (fun _ s₂ h₂=>?_) fun _ _ x=>x)
    exact au (au (aJ h₂ (fun x s₃ h₃=>aD (wpAny_bind (wpAny_mono h₃ (fun _ s₄ h₄=>wpAny_pure (wpC_pure ⟨rfl,trivial,h₄⟩)) fun _ _ x=>x))) fun _ _ x=>x))
end
section
open LCg
variable {prog:Program} {w:World} {A:Around} {s:Shared} {h₀:Heap} {L:Addr} {m:Str→Option Value} {env:Env}
noncomputable def bS (prog:Program) (w:World) (A:Around) (h₀:Heap) (L:Addr) (m:Str→Option Value) (env:Env) (elt:PySem.Expr) (x:Str) (scope:Scope) (cl:List (Str×Addr)) (s:Shared) (P:Nat→Value→Prop)
    (Fin:List Value→List (Addr×Obj)→Prop):Nat→Nat→List Value→List (Addr×Obj)→Prop
  | 0,_,ys,news=>Fin ys news
  | k+1,i,ys,news=>∀ v I oI C oC D m₂ h tk,P i v→NsObj oC m₂→m₂ x=some v→Fr h₀ L h m→News h₀ L h ((I,oI)::(C,oC)::(D,lst ys)::news)→Off3 I C D news→((@Ne Nat I C)∧(@Ne Nat I D)∧(@Ne Nat C D))→
      aw (model prog w) A (eval elt (compEnvC scope cl C env)) (CompEnd h₀ L m { s with heap:=h,toks:=tk } I oI C oC D (lst ys) (fun z_=>True) (fun y news'=>bS prog w A h₀ L m env elt x scope cl s P Fin k (i+1) (ys++[y]) news')) (fun z_ z_=>False) { s with heap:=h,toks:=tk }
theorem vK {α:Type} {G:Prop} (a:α) (k:∀ b,b=a→G):G:=k a rfl
theorem sG {elt iter:PySem.Expr} {x:Str} {px:Pos} {scope:Scope} {cl:List (Str×Addr)} {pos:Pos} {s₂:Shared} {I:Addr} {n:Nat} {P:Nat→Value→Prop} {St:Nat→Heap→Prop} {news:List (Addr×Obj)}
    {Fin:List Value→List (Addr×Obj)→Prop} {RR:Value→Addr→Result→Shared→Prop}
    (W:Walks prog w A I [I] [I] n P St) (hsz:n≤sizeLine) (hIo:∀ i h,St i h→∃ o,h.get? I=some o)
    (hcell:∀ y∈scope.names,y.2≠.cell) (hkind:scope.kind=.function) (hx:scope.names.lookup x=some .local) (hst:St 0 s₂.heap) (hIlt:I<s₂.heap.objs.size)
    (F:Fr h₀ L s₂.heap m) (N:News h₀ L s₂.heap news) (hIL:L≠I) (hI₀:h₀.get? I=none) (off:∀ p∈news,p.1≠I)
    (R:bS prog w A h₀ L m env elt x scope cl s₂ P Fin n 0 [] news)
    (hRR:∀ D C h tk m' ys news',Fr h₀ L h m→News h₀ L h ((D,lst ys)::news')→Off1 D news'→h.Ns C m'→h₀.get? C=none→h₀.get? D=none→C≠L→D≠L→C≠D→(∀ p∈news',p.1≠C)→Fin ys news'→RR (.ref D) C (.ok .next) { s₂ with heap:=h,toks:=tk })
    (ht:∀ v,letOwnedTupleGo (.Name x px) (.ref I) v=pure ()) :
    wpAny (model prog w) A (newList []) (fun acc s₃=>wpAny (model prog w) A (newFunctionEnv scope env.globals cl [] env.qual none .none (some env)) (fun cenv s₄=>
      aP (model prog w) A (.compStart (.ListComp elt [⟨.Name x px,iter,[],0⟩] scope pos) 0 (.ref I) acc { cenv with scope:=relabel scope env }) (RR acc cenv.locals) s₄) (fun z_ z_=>False) s₃) (fun z_ z_=>False) s₂:=by
  refine wpAny_newObj_type (wpAny_newFunctionEnv hcell (by intro y hy; simp at hy) (fun h₁ hns₁ hsb₁=>?_) hkind)
  dsimp only at hns₁ hsb₁ ⊢
  refine vK (s₂.heap.push { cls:=.type "list",dict:=none,data:=.seq ([]:List Value).toArray }) fun H2 hH2=>?_
  rw [← hH2] at hns₁ hsb₁ ⊢
  have hC:H2.objs.size=s₂.heap.objs.size+1:=by rw [hH2,Heap.size_push]
  have hDC:s₂.heap.objs.size≠H2.objs.size:=by rw [hC]; exact Nat.ne_of_lt (Nat.lt_succ_self _)
  have below:∀ b,b<s₂.heap.objs.size→b≠H2.objs.size∧b≠s₂.heap.objs.size:=fun b hb=>⟨by rw [hC]; exact Nat.ne_of_lt (Nat.lt_succ_of_lt hb),Nat.ne_of_lt hb⟩
  have old:∀ b o,s₂.heap.get? b=some o→h₁.get? b=some o:=fun b o e=>hsb₁.extBut b o (below b (Heap.lt_size e)).1 (Heap.get?_push_of_some _ (by rw [hH2]; exact Heap.get?_push_of_some _ e))
  have hacc:h₁.get? s₂.heap.objs.size=some (lst []):=hsb₁.extBut _ _ hDC (Heap.get?_push_of_some _ (by rw [hH2]; exact Heap.get?_push_size _ rfl))
  have hst₁:St 0 h₁:=W.frame _ _ _ hst fun b _ o e=>old b o e
  have fresh₀:∀ a,s₂.heap.objs.size≤a→h₀.get? a=none:=fun a ha=>by
    cases e:h₀.get? a with
    | none=>rfl
    | some o'=>exact absurd (Heap.lt_size (F.keep a o' e)) (Nat.not_lt.mpr ha)
  have hD₀:h₀.get? s₂.heap.objs.size=none:=fresh₀ _ (Nat.le_refl _)
  have hC₀:h₀.get? H2.objs.size=none:=fresh₀ _ (by rw [hC]; exact Nat.le_succ _)
  have hLlt:L<s₂.heap.objs.size:=F.ns.lt
  have hDL:s₂.heap.objs.size≠L:=Ne.symm (below L hLlt).2
  have hCL:H2.objs.size≠L:=Ne.symm (below L hLlt).1
  have hCI:I≠H2.objs.size:=(below I hIlt).1
  have hDI:I≠s₂.heap.objs.size:=(below I hIlt).2
  have off₀:Off3 I H2.objs.size s₂.heap.objs.size news:=Off3.of fun p hp=>⟨off p hp,(below _ (Heap.lt_size (N p hp).1)).1,(below _ (Heap.lt_size (N p hp).1)).2⟩
  have loop:∀ j i,i+j=n→∀ h' tk ys m' news',ys.length=i→St i h'→Fr h₀ L h' m→h'.Ns H2.objs.size m'→News h₀ L h' ((s₂.heap.objs.size,lst ys)::news')→Off3 I H2.objs.size s₂.heap.objs.size news'→
      bS prog w A h₀ L m env elt x scope cl s₂ P Fin j i ys news'→
      aP (model prog w) A (.compLoop (.ListComp elt [⟨.Name x px,iter,[],0⟩] scope pos) 0 (.ref I) (.ref s₂.heap.objs.size) (compEnvC scope cl H2.objs.size env)) (RR (.ref s₂.heap.objs.size) H2.objs.size) { s₂ with heap:=h',toks:=tk }:=by
    intro j
    induction j with
    | zero=>
      intro i hi h' tk ys m' news' hyl hst' F' hn' N' off' R'
      obtain rfl:i=n:=by exact Nat.le_antisymm (lin (.c _ (.c _ .z)) (.c (.a (.v 1) (.k 0)) (.v 0) .z) (.v 1) (.v 0) rfl (cb hi)) (lin (.c _ (.c _ .z)) (.c (.v 0) (.a (.v 1) (.k 0)) .z) (.v 0) (.v 1) rfl (cr hi))
      refine cj (W.done _ _ _ hst' fun h₂ tk₂ hk₂=>?_) ht
      have off3:=off'.mem
      exact hRR _ _ h₂ tk₂ _ ys news' (fr_but F' hk₂ hIL hI₀) (LCg.news_but N' hk₂ fun p hp=>by
        rcases List.mem_cons.mp hp with rfl | hp
        · exact Ne.symm hDI
        · exact (off3 p hp).1) off'.one (hn'.at' fun o e=>hk₂ _ o (by simpa using Ne.symm hCI) e) hC₀ hD₀ hCL hDL (Ne.symm hDC) (fun p hp=>(off3 p hp).2.1) R'
    | succ j ih=>
      intro i hi h' tk ys m' news' hyl hst' F' hn' N' off' R'
      refine cj (W.item i _ _ _ (by exact lin (.c _ (.c _ (.c _ .z))) (.c (.a (.v 1) (.a (.v 2) (.k 1))) (.v 0) .z) (.a (.v 1) (.k 1)) (.v 0) rfl (cb hi)) hst' fun v h₂ tk₂ hPv hst₂ hk₂=>?_) ht
      refine wpAny_assign_Name (wpAny_storeName_local (lookup_relabel_local hx) (hn'.at' fun o e=>hk₂ _ o (by simpa using Ne.symm hCI) e) (fun h₃ hn₃ hs₃=>?_) (by simp [compEnvC,relabel,hkind]))
      have hst₃:St (i+1) h₃:=W.frame _ _ _ hst₂ fun b hb o e=>hs₃.extBut b o (fun q=>hCI (by rw [← List.mem_singleton.mp hb]; exact q)) e
      obtain ⟨oI,heI⟩:=hIo _ _ hst₃
      obtain ⟨oC,heC,hoC⟩:=ns_obj hn₃
      have F₃:Fr h₀ L h₃ m:=(fr_but F' hk₂ hIL hI₀).change hs₃ hCL hC₀
      have off3:=off'.mem
      have N₂:News h₀ L h₂ ((s₂.heap.objs.size,lst ys)::news'):=LCg.news_but N' hk₂ fun p hp=>by
        rcases List.mem_cons.mp hp with rfl | hp
        · exact Ne.symm hDI
        · exact (off3 p hp).1
      have N₃:News h₀ L h₃ ((I,oI)::(H2.objs.size,oC)::(s₂.heap.objs.size,lst ys)::news'):=fun p hp=>by
        rcases List.mem_cons.mp hp with rfl | hp
        · exact ⟨heI,Ne.symm hIL,hI₀⟩
        · rcases List.mem_cons.mp hp with rfl | hp
          · exact ⟨heC,hCL,hC₀⟩
          · have z:=N₂ p hp
            refine ⟨hs₃.extBut _ _ ?_ z.1,z.2⟩
            rcases List.mem_cons.mp hp with rfl | hp
            · exact hDC
            · exact (off3 p hp).2.1
      refine aJ (R' v I oI H2.objs.size oC s₂.heap.objs.size _ h₃ _ hPv hoC (by simp) F₃ N₃ off' ⟨hCI,hDI,Ne.symm hDC⟩) (fun y s₄ h₄=>?_) fun _ _ e=>e
      obtain ⟨h₄,tk₄,news₄,rfl,F₄,N₄,off₄,-,R₄⟩:=h₄
      have zI:=(N₄ (I,oI) List.mem_cons_self).1
      have zC:=(N₄ (H2.objs.size,oC) (List.mem_cons_of_mem _ List.mem_cons_self)).1
      have zD:=(N₄ (s₂.heap.objs.size,lst ys) (List.mem_cons_of_mem _ (List.mem_cons_of_mem _ List.mem_cons_self))).1
      have N₄':News h₀ L h₄ news₄:=fun p hp=>N₄ p (List.mem_cons_of_mem _ (List.mem_cons_of_mem _ (List.mem_cons_of_mem _ hp)))
      have hst₄:St (i+1) h₄:=W.frame _ _ _ hst₃ fun b hb o e=>by
        rw [List.mem_singleton.mp hb] at e ⊢
        rw [heI] at e; cases e; exact zI
      refine append_at (hsz:=by show ys.toArray.size≤sizeLine; rw [List.size_toArray,hyl]; exact lin (.c _ (.c _ (.c _ (.c _ .z)))) (.c (.v 0) (.v 1) (.c (.a (.v 2) (.a (.v 3) (.k 1))) (.v 0) .z)) (.v 2) (.v 1) rfl hsz (cb hi)) zD fun h₅ hs₅ hD₅=>?_
      have off4:=off₄.mem
      refine ih (i+1) (by exact Nat.le_antisymm (lin (.c _ (.c _ (.c _ .z))) (.c (.a (.v 1) (.a (.v 2) (.k 1))) (.v 0) .z) (.a (.a (.v 1) (.k 1)) (.v 2)) (.v 0) rfl (cb hi)) (lin (.c _ (.c _ (.c _ .z))) (.c (.v 0) (.a (.v 1) (.a (.v 2) (.k 1))) .z) (.v 0) (.a (.a (.v 1) (.k 1)) (.v 2)) rfl (cr hi))) h₅ tk₄ (ys++[y]) _ news₄ (by rw [List.length_append,List.length_singleton,hyl]) (W.frame _ _ _ hst₄ fun b hb o e=>hs₅.extBut b o (fun q=>hDI (by rw [← List.mem_singleton.mp hb]; exact q)) e) (F₄.change hs₅ hDL hD₀)
        ((hoC.ns zC).sameBut hs₅ (Ne.symm hDC)) (fun p hp=>?_) off₄ R₄
      rcases List.mem_cons.mp hp with rfl | hp
      · exact ⟨hD₅.trans (congrArg some (lst_snoc ys y)),hDL,hD₀⟩
      · exact ⟨hs₅.extBut _ _ (off4 p hp).2.2 (N₄' p hp).1,(N₄' p hp).2⟩
  have N₁:News h₀ L h₁ ((s₂.heap.objs.size,lst [])::news):=fun p hp=>by
    rcases List.mem_cons.mp hp with rfl | hp
    · exact ⟨hacc,hDL,hD₀⟩
    · exact ⟨old _ _ (N p hp).1,(N p hp).2⟩
  have l0:=loop n 0 (by exact Nat.le_antisymm (lin (.c _ .z) .z (.a (.k 0) (.v 0)) (.v 0) rfl ) (lin (.c _ .z) .z (.v 0) (.a (.k 0) (.v 0)) rfl )) h₁ (s₂.toks+([]:List (Str×Value)).length) [] _ news rfl hst₁ (F.keeps old) hns₁ N₁ off₀ R
  exact dR l0 (W.self 0 _ _ _ hst₁ l0)
end
section
variable {M:Model} {A:Around} {s:Shared}
theorem h8 {α:Type} {m:Sem α} {Q:Except Value α→Shared→Prop} {E:Value→Shared→Prop} (h:aw M A m (fun a=>Q (.ok a)) (fun z_ z_=>False) s):aw M A m.attempt Q E s:=fun Γ p hΓ hk=>by
  rw [Sem.wp_attempt]
  exact Sem.wp_mono M Γ m (fun _ _ _ h'=>h') (fun _ _ _ x=>x.elim) p s (h Γ p hΓ hk)
theorem oZ {c:Code} {Q:Flow→Shared→Prop} {E:Value→Shared→Prop} (ho:qX c) (hc:aP M A c (fun r s'=>match r with | .ok f=>Q f s' | .error e=>E e s') s):aw M A (run c) Q E s:=fun Γ p hΓ hk=>by
  rw [Sem.wp_run]
  exact hc _ p rfl (hΓ.enter c none p (by intro x; cases x)) ⟨ho,fun x hx=>by
    rcases List.mem_cons.mp hx with rfl | hx
    · exact hk.here
    · exact hk.below x hx⟩
end
section
variable {M:Model} {A:Around} {s:Shared} {env:Env}
noncomputable def kS (M:Model) (A:Around) (E:Value→Shared→Prop) (u:Value→Sem Unit) (Q:Value→Shared→Prop) (acc:Value) (C:Addr) (r:Result) (s':Shared):Prop:=
  match r with
  | .ok _=>wpAny M A (u acc) (fun _ s''=>∃ m,s''.heap.Ns C m∧∀ h',Heap.SameBut C s''.heap h'→Q .none { s'' with heap:=h' }) E s'
  | .error _=>False
theorem eM {e:PySem.Expr} {scope:Scope} {pos:Pos} {newAcc first:Sem Value} {g:Comprehension} {gs:List Comprehension} {cl:List (Str×Addr)} {u:Value→Sem Unit} {Q:Value→Shared→Prop} {E:Value→Shared→Prop}
    (hcl:clausesOf e=g::gs) (hs:∀ x,foldedSetIterable g.iter env x=pure x) (hclos:closureFor scope env=pure cl)
    (hkind:scope.kind=.function) (hnames:∀ x∈scope.names,x.2=.local→scope.names.lookup x.1=some .local)
    (h:wpAny M A first (fun x s₁=>wpAny M A (pyIter x) (fun it s₂=>wpAny M A newAcc (fun acc s₃=>
      wpAny M A (newFunctionEnv scope env.globals cl [] env.qual none .none (some env)) (fun cenv s₄=>
        aP M A (.compStart e 0 it acc { cenv with scope:=relabel scope env }) (kS M A E u Q acc cenv.locals) s₄) E s₃) E s₂) E s₁) E s) :
    aw M A (comprehension e scope env pos newAcc false first (some u)) Q E s:=by
  unfold comprehension
  rw [hclos,hcl]
  refine ab (wpAny_mono h (fun x s₁ h₁=>ab (wpAny_standAt (ab (wpAny_of_eq (hs x) (ab (wpAny_holding (wpAny_mono h₁ (fun it s₂ h₂=>?_) fun _ _ h'=>h'))))))) fun _ _ h'=>h')
  refine ab (wpAny_standAt (ab (wpAny_mono h₂ (fun acc s₃ h₃=>ab (wpAny_pure (ab (wpAny_mono h₃ (fun cenv s₄ h₄=>?_) fun _ _ h'=>h')))) fun _ _ h'=>h')))
  dsimp only
  have hv':∀ x∈(scope.names.filter fun x=>(x.2==.local||x.2==.cell)&&x.1 != (".0":Str)).reverse.drop 1++(scope.names.filter fun x=>(x.2==.local||x.2==.cell)&&x.1 != (".0":Str)).reverse.take 1,
      x.2=.local→Env.kindOf { cenv with scope:=relabel scope env } x.1=some .local:=fun x hx hl=>by
    have hv:∀ x∈(scope.names.filter fun x=>(x.2==.local||x.2==.cell)&&x.1 != (".0":Str)).reverse,x.2=.local→Env.kindOf { cenv with scope:=relabel scope env } x.1=some .local:=
      fun x hx hl=>lookup_relabel_local (hnames x (List.mem_filter.mp (List.mem_reverse.mp hx)).1 hl)
    rcases List.mem_append.mp hx with h1 | h1
    · exact hv x (List.mem_of_mem_drop h1) hl
    · exact hv x (List.mem_of_mem_take h1) hl
  refine aL (au (h8 (aL (oZ trivial (eE h₄ fun r s' hr=>?_)))))
  cases r with
  | ok f=>
    refine ab (wpAny_rule (ab (wpAny_holding (wpAny_mono hr (fun _ s'' hr'=>?_) fun _ _ h'=>h'))))
    obtain ⟨m,hn,hr'⟩:=hr'
    exact ab (wpAny_comp_letGo (cenv:={ cenv with scope:=relabel scope env }) hkind _ s'' m hv' hn fun h' m' _ hs'=>wpC_pure (hr' h' hs'))
  | error x=>exact hr.elim
end
section
open LCg
variable {prog:Program} {w:World} {A:Around} {s:Shared} {h₀:Heap} {L:Addr} {m:Str→Option Value} {env:Env}
theorem gX {elt iter:PySem.Expr} {x y:Str} {px py:Pos} {scope:Scope} {cl:List (Str×Addr)} {pos spos:Pos} {Q:Flow→Shared→Prop} (_F₀:Fr h₀ L s.heap m) (hLe:env.locals=L)
    (hsw:swapsWith (.ListComp elt [⟨.Name x px,iter,[],0⟩] scope pos) (some (.Name y py)) spos.line env=pure true)
    (hclos:closureFor scope env=pure cl) (hcell:∀ z∈scope.names,z.2≠.cell) (hkind:scope.kind=.function)
    (hnames:∀ z∈scope.names,z.2=.local→scope.names.lookup z.1=some .local) (hx:scope.names.lookup x=some .local)
    (hy:env.kindOf y=some .local) (hp:(env.scope.kind==.class||(env.scope.kind==.module&&env.locals != env.globals))=false)
    (h:wpAny (model prog w) A (eval iter env) (fun xv s₁=>bO (∃ r a b t u v n news,xv=.ref r∧A.handled=none∧Fr h₀ L s₁.heap m∧News h₀ L s₁.heap news∧IsRange s₁.heap r a b 1 t u v∧Builtin.Range.small a b 1=true∧
      Builtin.Range.rangeSize a b 1=((n:Nat):Int)∧n≤sizeLine∧
      ∀ g,bS prog w A h₀ L m env elt x scope cl { s₁ with heap:=g } (fun i v=>∃ t,v=.int (a+(i:Int)) t) (FinA h₀ L m { s₁ with heap:=g } y Q) n 0 [] news)) (fun z_ z_=>False) s)
    (hs:∀ x,foldedSetIterable iter env x=pure x) (ht:∀ it v,letOwnedTupleGo (.Name x px) it v=pure ()) :
    aw (model prog w) A (exec (.Assign [.Name y py] (.ListComp elt [⟨.Name x px,iter,[],0⟩] scope pos) spos) env) Q (fun z_ z_=>False) s:=by
  subst hLe
  rw [exec_Assign_Name_used _ _ _ _ hsw]
  refine ab (wpAny_standAt (au ?_))
  show aw _ A (do let _ ← comprehension (.ListComp elt [⟨.Name x px,iter,[],0⟩] scope pos) scope env _ (newList []) false (eval iter env) (some (assign (.Name y py) env))) _ _ s
  refine au (aJ (eM (u:=assign (.Name y py) env) (Q:=fun _ s'=>Q .next s') rfl hs hclos hkind hnames
    (wpAny_mono h (fun xv s₁ h₁=>?_) fun _ _ e=>e)) (fun _ s' hq=>wpC_pure (wpC_pure hq)) fun _ _ e=>e)
  refine tQ h₁ fun r a b t u v n news ei hh F N hr hsm hn hsz R=>?_
  subst ei
  refine wpAny_pyIter_range hr hsm ?_
  refine sG (range_walks hh a n) hsz (fun i h st=>⟨_,st⟩) hcell hkind hx (by show IsRangeIter _ _ _ _ _; rw [hn]; simpa using Heap.get?_push_size _ rfl)
    (by show s₁.heap.objs.size<(s₁.heap.push _).objs.size; rw [Heap.size_push]; exact Nat.lt_succ_self _)
    (F.keeps fun _ _ e=>Heap.get?_push_of_some _ e) (N.grown fun _ _ e=>Heap.get?_push_of_some _ e) (Nat.ne_of_lt F.ns.lt) (next_is_new F) (fun p hp=>Nat.ne_of_lt (Heap.lt_size (N p hp).1)) (R _) ?_ (ht _)
  intro D C h' tk m' ys news' F' N' o1 hn hC₀ hD₀ hCL hDL hCD offC fin
  show wpAny _ A (assign (.Name y py) env (.ref D)) _ _ _
  refine wpAny_assign_Name (wpAny_storeName_local hy F'.ns (fun h₂ hn₂ hs₂=>?_) hp)
  have hL₀:h₀.get? env.locals=none:=Heap.get?_none_of_le F'.above
  have F₂:Fr h₀ env.locals h₂ (fun z=>if z=y then some (.ref D) else m z):=⟨hn₂,fun b o e=>hs₂.extBut b o (fun q=>by rw [q,hL₀] at e; cases e) (F'.keep b o e),F'.above⟩
  refine ⟨m',hn.sameBut hs₂ hCL,fun h'' hs''=>fin D h'' _ (F₂.change hs'' hCL hC₀) (fun p hp=>?_) o1⟩
  have z:h₂.get? p.1=some p.2:=hs₂.extBut _ _ (N' p hp).2.1 (N' p hp).1
  refine ⟨hs''.extBut _ _ ?_ z,(N' p hp).2⟩
  rcases List.mem_cons.mp hp with rfl | hp
  · exact Ne.symm hCD
  · exact offC p hp
end
section
variable {prog:Program} {w:World} {A:Around} {C:Addr} {R:Result→Shared→Prop} {h:Heap} {g:Array GenState} {d:Drawn} {t:Nat} {os:OsState}
theorem cL {s:Shared} {id:String} {args:Args} {b:Builtin} (hq:(Code.builtin id args).quiet=true) (ho:ch.contains id=false) (hb:entryFor table id=some b)
    (hh:wpAny (model prog w) A.in1 (checkBuiltinCall id args) (fun _ s₁=>aw (model prog w) (A.under (.builtin id args)) (b args)
      (fun fin s'=>match fin with | .done f=>R (.ok f) s' | .again c'=>c'.quiet=true∧qX c'∧aP (model prog w) A c' R s') (fun e s'=>R (.error e) s') s₁)
      (fun z_ z_=>False) s):aP (model prog w) A (.call (.builtin id) args) R s:=by
  refine aR ?_
  show aw _ A.in1 (do checkBuiltinCall id args; again (.builtin id args)) _ _ s
  exact ab (wpAny_mono hh (fun _ s₁ h₁=>wpC_pure ⟨hq,ho,bQ hb h₁⟩) fun _ _ x=>x.elim)
theorem ja {rest:List Value} {kw:List (Str×Value)} {init:Value} (Y:Makes (model prog w) h C) (hi:Looks (model prog w) h (typeLookup (.ref C) "__init__") (some init))
    (hb:∀ self,Looks (model prog w) h (bindSpecial init self) (init,[self])) (hne:(some init != some (Value.builtin "object.__init__"))=true)
    (hq:aP (model prog w) (A.under (.builtin "type.__call__" ⟨.ref C::rest,kw⟩)) (.call init ⟨.ref (h.objs.size+1)::rest,kw⟩) (InitBack (h.objs.size+1) R) ⟨(h.push emptyDict).push (instObj C h.objs.size),g,d,t,os⟩) :
    aP (model prog w) A (.call (.ref C) ⟨rest,kw⟩) R ⟨h,g,d,t,os⟩:=by
  have Y':=Y
  obtain ⟨⟨oc,od,cd,sl,hC,e1,e2,e4⟩,made,base,self,top,call,typ⟩:=Y
  refine aR ?_
  show aw _ _ (callAny (.ref C) _) _ _ _
  show aw _ _ (load C>>=_) _ _ _
  refine ab (wpAny_load hC ?_)
  show aw _ _ (callAny.viaDunder (.ref C) _) _ _ _
  unfold callAny.viaDunder
  refine ab (call.at ?_)
  dsimp only
  rw [tc_bind]
  refine ab (wpAny_pure (ab (wpAny_pure ?_)))
  refine wpC_pure (a:=Fin.again (.call (.builtin "type.__call__") ⟨.ref C::rest,kw⟩)) ⟨rfl,trivial,?_⟩
  refine cL (Code.quiet_builtin _ (by decide +kernel)) (by decide +kernel) entry_typeCall (check_slot tc_kind tc_split typ (tc_args _ _ _) ?_)
  unfold Builtin.«type.__call__»
  have hm:Looks (model prog w) h (mroOf (.ref C)) cd.mro:=((Looks.ld (part:=none) hC).andThen .now).andThen .now
  dsimp only
  refine bx rfl ?_
  refine ab (hm.at ?_)
  refine bx e4 ?_
  refine ab (made.at ?_)
  dsimp only
  refine ab (wpAny_pure ?_)
  refine ab (wpAny_holding (wpAny_call (new_K Y' hi (.inl hne) ?_)))
  have k:∀ b o,h.get? b=some o→((h.push emptyDict).push (instObj C h.objs.size)).get? b=some o:=fun b o e=>Heap.get?_push_of_some _ (Heap.get?_push_of_some _ e)
  have hx:((h.push emptyDict).push (instObj C h.objs.size)).get? (h.objs.size+1)=some (instObj C h.objs.size):=by heap_get
  have t1:Looks (model prog w) ((h.push emptyDict).push (instObj C h.objs.size)) (typeOf (.ref (h.objs.size+1))) (.ref C):=(Looks.ld hx).andThen .now
  have s1:=self.keeps k
  have i1:=hi.keeps k
  have b1:=(hb (.ref (h.objs.size+1))).keeps k
  have i0:Looks (model prog w) ((h.push emptyDict).push (instObj C h.objs.size)) (isInstance (.ref (h.objs.size+1)) (.ref C)) true:=t1.andThen s1
  have sp:Looks (model prog w) ((h.push emptyDict).push (instObj C h.objs.size)) (specialOf (.ref (h.objs.size+1)) "__init__") (some init):=t1.andThen i1
  refine ab (i0.at ?_)
  refine bx rfl ?_
  unfold callSpecial?
  refine au (aL (ab (sp.at ?_)))
  dsimp only
  refine aL (ab (b1.at ?_))
  refine au (bi (eE hq fun r s' z=>?_))
  cases r with
  | error e=>exact z
  | ok fl=>
    cases fl with
    | ret v=>
      obtain ⟨rfl,z⟩:=z
      refine wpC_pure ?_
      refine bx rfl ?_
      exact wpC_pure z
    | _=>exact z.elim
end
theorem jC {w:World} {A:Around} {s:Shared} {K:Frag} {L:Addr} {h₀:Heap} {m mg mb:Str→Option Value} {news:List (Addr×Obj)} {p:Program} {loose:List Str} {mean:ExcName→Option Value}
    {prog:Program} {R:Result→Shared→Prop} {name qual:Str} {params:Arguments} {body:List Stmt} {scope:Scope} {dV kV doc pm cdv ct oc:Value} {an od:Option Addr} {osl:Array (Option Value)} {f:Addr} {args:Args} {binds:List (Str×Value)}
    (F:Fr h₀ L s.heap m) (X₀:K.In h₀) (N:News h₀ L s.heap news) (T:Top p loose mean mg mb h₀)
    (ho:K.lookup f=some ⟨oc,od,.func (fnOf name qual params body scope dV kV doc pm an cdv ct),osl⟩) (hcd:codeIn K cdv qual=true) (hroom:A.depth<recursionLimit)
    (hbind:BindsTo s (fnOf name qual params body scope dV kV doc pm an cdv ct) args binds) (hloc:∀ y∈binds,scope.names.lookup y.1=some .local)
    (h:∀ g L' h₁,Fr h₀ L g m→Fr g L' h₁ (fun y=>binds.reverse.lookup y)→News g L' h₁ news→h₀.StaysIn g→But (news.map (·.1)) s.heap g→K.In g→Top p loose mean mg mb g→(∀ p∈news,p.1<L')→
      aw (model prog w) (A.deeper (envOf qual scope L' f cdv)) (execs body (envOf qual scope L' f cdv))
        (fun fl s'=>LeaveK h₀ L m g R (match fl with | .ret v=>v | _=>.none) s') (fun z_ z_=>False)
        { s with heap:=h₁,toks:=s.toks+binds.length })
    (hco:scope.isCoroutine=false) (hgen:scope.isGenerator=false) (hk:scope.kind=.function)
    (hcell:∀ x∈scope.names,x.2≠.cell):aP (model prog w) A (.call (.ref f) args) R s:=by
  have B:Below callerA h₀ [] h₀:=below_caller h₀
  obtain ⟨FG,_,st,lv⟩:=groundX (A:={ frames:=some [envOf qual { scope with kind:=.function } L f cdv] }) (R:=R) B F N rfl rfl rfl
  refine bI (fd:=fnOf name qual params body scope dV kV doc pm an cdv ct) (body:=body) hroom (F.keep _ _ (X₀ _ _ ho)) rfl hco hgen rfl (codeRec_of (X₀.keeps F.keep) hcd) (hbind _ _ _ _ ?_)
  refine wpAny_newFunctionEnv hcell hloc (fun h₁ hns hsb=>⟨(T.nolimit.keeps F.keep).fresh _ hsb,cQ ?_⟩) hk
  have hk₁:∀ b o,s.heap.get? b=some o→h₁.get? b=some o:=fun b o e=>hsb.extBut b o (Nat.ne_of_lt (Heap.lt_size e)) (Heap.get?_push_of_some _ e)
  exact aJ (h _ s.heap.objs.size h₁ FG ⟨hns,fun b o e=>hk₁ b o (of_hideAll _ e),Nat.le_of_eq (hideAll_size _ _)⟩
    (fun p hp=>⟨hk₁ _ _ (N p hp).1,Nat.ne_of_lt (Heap.lt_size (N p hp).1),hideAll_none _ (List.mem_map_of_mem hp)⟩) st (fun b o e nb=>hideAll_get _ e nb) (X₀.keeps st) (T.keeps st) (fun p hp=>Heap.lt_size (N p hp).1)) (fun fl s' hl=>lv _ _ hl) fun _ _ y=>y.elim
section
variable {prog:Program} {w:World} {A:Around} {K:Frag} {C:Addr} {R:Result→Shared→Prop} {s:Shared} {h₀:Heap} {L:Addr} {m:Str→Option Value} {news:List (Addr×Obj)}
theorem pD {rest:List Value} {fI:Addr} (F:Fr h₀ L s.heap m) (N:News h₀ L s.heap news) (X:K.In s.heap) (hm:makesIn K C=true)
    (hi:findIn K (.ref C) "__init__"=some (some (.ref fI))) (hf:typeIn K (.ref fI)=some (.type "function"))
    (h:∀ x dx h',Fr h₀ L h' m→News h₀ L h' ((x,instObj C dx)::(dx,dictOf [] 0)::news)→(∀ p∈news,p.1<dx)→@LT.lt Nat _ dx x→
      aP (model prog w) (A.under (.builtin "type.__call__" ⟨.ref C::rest,[]⟩)) (.call (.ref fI) ⟨.ref x::rest,[]⟩) (InitBack x R) { s with heap:=h' }) :
    aP (model prog w) A (.call (.ref C) ⟨rest,[]⟩) R s:=by
  obtain ⟨hh,g,d,t,os⟩:=s
  refine ja (makes_of X hm) (looks_findIn X hi) (fun self=>bind_fn X self hf) rfl (h _ hh.objs.size _ ((F.push _).push _) ?_ (fun p hp=>Heap.lt_size (N p hp).1) (Nat.lt_succ_self _))
  have:=(N.push F emptyDict).push (F.push _) (instObj C hh.objs.size)
  rwa [Heap.size_push] at this
theorem xx {E:Value→Shared→Prop} {b:Array UInt8} {t:Tok} {Q:Value→Shared→Prop} (F:Fr h₀ L s.heap m) (N:News h₀ L s.heap news) (hz:b.size≤16777216)
    (h:∀ D h',Fr h₀ L h' m→News h₀ L h' ((D,a8 b)::news)→(∀ p∈news,p.1<D)→Q (.ref D) { s with heap:=h' }) :
    aw (model prog w) A (call (.type "bytearray") [.bytes b t]) Q E s:=by
  refine oF hz fun D h' hk he hn hl=>h D h' (F.keeps hk) (fun p hp=>?_) fun p hp=>Nat.lt_of_lt_of_le (Heap.lt_size (N p hp).1) hl
  rcases List.mem_cons.mp hp with rfl | hp
  · refine ⟨he,?_,?_⟩
    · rintro rfl
      exact absurd (Nat.lt_of_lt_of_le F.ns.lt hl) (Nat.lt_irrefl _)
    · cases q:h₀.get? D with
      | none=>rfl
      | some o=>exact absurd (Nat.lt_of_lt_of_le (Heap.lt_size (F.keep _ _ q)) hl) (Nat.lt_irrefl _)
  · exact ⟨hk _ _ (N p hp).1,(N p hp).2⟩
theorem bH {M:Model} {E:Value→Shared→Prop} {env:Env} {f:Value} {e:PySem.Expr} {rest:List PySem.Expr} {pos:Pos} {Q:Args→Shared→Prop}
    (h:wpAny M A (spliced (backTo pos (starEach (e::rest) env))) (fun vs s'=>Q ⟨vs,[]⟩ s') E s) (he:starEach (e::rest) env=(false,eval e env)::starEach rest env) :
    wpAny M A (evalArgs f true (backTo pos (starEach (e::rest) env)) []) Q E s:=by
  rw [he] at h ⊢
  exact evalArgs_plain h
theorem kP {M:Model} {o:Obj} {cd:ClassData} {E:Value→Shared→Prop} {P:Prop} (F:Fr h₀ L s.heap m) (X:K.In h₀) (ho:K.lookup C=some o) (hd:o.data=.cls cd) (hm:makesIn K C=true) (h:P) :
    bO ((∃ o cd,s.heap.get? C=some o∧o.data=.cls cd)∧(∀ Q':Option Value→Shared→Prop,Q' (some (.builtin "type.__call__")) s→wpAny M A (specialOf (.ref C) "__call__") Q' E s)∧P):=
  ⟨⟨o,cd,F.keep _ _ (X _ _ ho),hd⟩,fun _ hq=>(makes_of (M:=M) (X.keeps F.keep) hm).call.here hq,h⟩
theorem cy {hh:Heap} {a:Addr} {o:Obj} {fd:FuncData} {P:Prop} (F:Fr h₀ L hh m) (X:K.In h₀) (ho:K.lookup a=some o) (hd:o.data=.func fd) (h:P):bO ((∃ o fd,hh.get? a=some o∧o.data=.func fd)∧P):=
  ⟨⟨o,fd,F.keep _ _ (X _ _ ho),hd⟩,h⟩
end
theorem yx:True:=by
  k_with "W enter"=>(refine' jC ?k1 ?k2 ?k3 ?k4 ?k6 ?k7 ?k8 ?k9 ?kB ?_ ?c2 ?c3 ?c4 ?c5; (case k1=>k_asm); (case k2=>k_asm); (case k3=>k_asm); (case k4=>k_asm); (case k6=>k_is); (case k7=>k_is); (case k8=>k_room); (case k9=>walk_at "binds"); (case c5=>decide); (case kB=>exact locs rfl); (case c2=>exact rfl); (case c3=>exact rfl); (case c4=>exact rfl); k_whole; intro qg' qL' qh' qFG' qF' qN' qst' qbt' qX' qT' ql1'; (try (have qkq9:=allLt_of ql1'; replace ql1':=qkq9; dsimp only [AllLt] at ql1')); (try dsimp only); (try k_fold))
  trivial
end
section
noncomputable section
set_option genSizeOf false
set_option genInjectivity false
inductive SV
  | s (i:Nat) | k (a:Addr) | i (n:Int) | t (x:Str) | b (x:Array UInt8) | o (x:Bool) | n | z (n:Int) (b:Nat) (h:n.natAbs≤b) | u (x:Value) | y (x:Array UInt8) (n:Nat) (h:x.size≤n) | r (n c:Int) (b:Bool) (h:decide (c≤n)=b) | a
inductive SO
  | I (C:Addr) (d:Nat) | D (es:List (Str×SV)) (n:Nat) | T (vs:List SV) | L (vs:List SV) | X (p:Obj→Prop) | B (x:Array UInt8) | J (bs:List (Array UInt8)) (n:Nat) (h:bs.length+ah bs≤n) | N (es:List (Int×Array UInt8)) | M (n:Nat) (b:Nat) (h:n≤b)
noncomputable abbrev PG:Program:=rw_on0273_01.row.prog
noncomputable def NR:List (Int×Array UInt8)→List (Int×Value)→Prop
  | [],k=>k=[]
  | q::l,k=>∃ t r,k=(q.1,.bytes q.2 t)::r∧NR l r
structure Sy where
  loc:List (Str×SV)
  fr:List (Nat×SO)
  ol:List (Nat×SO)
  nx:Nat
  wd:List (Nat×SV)
structure FnR where
  a:Addr
  names:List Str
  extra:List (Str×SV)
  body:List Stmt
  scope:Scope
  qual:Str
  cl:List (Str×Addr)
structure Kit where
  gl:List (Str×SV)
  fn:Addr→Nat→Option FnR
  cl:Addr→Option Addr
  kp:List Addr
  tb:List (Addr×List (Str×SV))
  at_:List (Addr×Str)
  st:List (Addr×Str)
  mt:List ((Addr×Str)×Addr)
  pr:List ((Addr×Str)×Addr)
section
variable (ρ:List Addr)
noncomputable def VR (v:SV) (x:Value):Prop:=match v with
  | .s i=>∃ a,ρ[i]?=some a∧x=.ref a
  | .k a=>x=.ref a
  | .i n=>∃ t,x=.int n t
  | .t y=>∃ t,x=.str y t
  | .b y=>∃ t,x=.bytes y t
  | .o b=>x=.bool b
  | .n=>x=.none
  | .z n _ _=>∃ t,x=.int n t
  | .u y=>x=y
  | .y y _ _=>∃ t,x=.bytes y t
  | .r n _ _ _=>∃ t,x=.int n t
  | .a=>True
noncomputable def aC:List SV→List Value→Prop
  | [],xs=>xs=[]
  | v::vs,xs=>∃ x r,xs=x::r∧VR ρ v x∧aC vs r
variable (P:Params)
noncomputable def ER:List (Str×SV)→List DictEntry→Prop
  | [],es=>es=[]
  | q::l,es=>∃ t v r,es=⟨PyData.keyHash P q.1,.str q.1 t,v⟩::r∧VR ρ q.2 v∧ER l r
noncomputable def OR (q:SO) (o:Obj):Prop:=match q with
  | .I C i=>∃ d,ρ[i]?=some d∧o=instObj C d
  | .D es n=>∃ es',ER ρ P es es'∧o=dictOf es' n
  | .T vs=>∃ xs n,aC ρ vs xs∧o=aS xs.toArray n
  | .L vs=>∃ xs n,aC ρ vs xs∧o=listOf xs.toArray n
  | .X p=>p o
  | .B x=>o=a8 x
  | .J bs _ _=>∃ xs n,aB xs bs∧o=listOf xs.toArray n
  | .N es=>∃ w kvs,o.IsDictOf (intKind PG w) kvs∧NR es kvs
  | .M n _ _=>∃ w kvs,o.IsDictOf (intKind PG w) kvs∧kvs.length≤n
noncomputable def LR:List (Nat×SO)→List (Addr×Obj)→Prop
  | [],R=>R=[]
  | q::l,R=>∃ a o r,R=(a,o)::r∧ρ[q.1]?=some a∧OR ρ P q.2 o∧LR l r
end
section
variable {ρ:List Addr} {tt:Tok}
theorem VR.s {i:Nat} {a:Addr} (h:ρ[i]?=some a):VR ρ (.s i) (.ref a):=⟨a,h,rfl⟩
theorem VR.i {n:Int}:VR ρ (.i n) (.int n tt):=⟨tt,rfl⟩
theorem VR.t {x:Str}:VR ρ (.t x) (.str x tt):=⟨tt,rfl⟩
theorem VR.b {x:Array UInt8}:VR ρ (.b x) (.bytes x tt):=⟨tt,rfl⟩
theorem VR.z {n:Int} {b:Nat} {h:n.natAbs≤b}:VR ρ (.z n b h) (.int n tt):=⟨tt,rfl⟩
theorem VR.y {x:Array UInt8} {n:Nat} {h:x.size≤n}:VR ρ (.y x n h) (.bytes x tt):=⟨tt,rfl⟩
theorem VR.r {n c:Int} {b:Bool} {h:decide (c≤n)=b}:VR ρ (.r n c b h) (.int n tt):=⟨tt,rfl⟩
theorem VR.k {a:Addr}:VR ρ (.k a) (.ref a):=rfl
theorem VR.o {b:Bool}:VR ρ (.o b) (.bool b):=rfl
theorem VR.n:VR ρ .n .none:=rfl
theorem VR.u {x:Value}:VR ρ (.u x) x:=rfl
theorem aC.nil:aC ρ [] []:=rfl
theorem aC.cons {v:SV} {x:Value} {vs:List SV} {xs:List Value} (a:VR ρ v x) (b:aC ρ vs xs):aC ρ (v::vs) (x::xs):=⟨x,xs,rfl,a,b⟩
theorem ER.cons {P:Params} {x:Str} {v:SV} {y:Value} {es:List (Str×SV)} {es':List DictEntry} (a:VR ρ v y) (b:ER ρ P es es'):ER ρ P ((x,v)::es) (⟨PyData.keyHash P x,.str x tt,y⟩::es'):=⟨tt,y,es',rfl,a,b⟩
end
section
variable {P:Params} {ρ ρ':List Addr} (h:ρ <+: ρ')
include h
theorem az {i:Nat} {a:Addr} (e:ρ[i]?=some a):ρ'[i]?=some a:=by
  obtain ⟨r,rfl⟩:=h
  rw [List.getElem?_append_left (List.getElem?_eq_some_iff.mp e).1]
  exact e
theorem VR.up {v:SV} {x:Value} (hv:VR ρ v x):VR ρ' v x:=by
  cases v with
  | s i=>exact hv.imp fun a e=>⟨az h e.1,e.2⟩
  | _=>exact hv
theorem aC.up {v:List SV}:∀ {x:List Value},aC ρ v x→aC ρ' v x:=by
  induction v with
  | nil=>exact id
  | cons v vs ih=>exact fun ⟨x,r,e,a,b⟩=>⟨x,r,e,a.up h,ih b⟩
theorem ER.up {v:List (Str×SV)}:∀ {x:List DictEntry},ER ρ P v x→ER ρ' P v x:=by
  induction v with
  | nil=>exact id
  | cons v vs ih=>exact fun ⟨t,x,r,e,a,b⟩=>⟨t,x,r,e,a.up h,ih b⟩
theorem OR.up {q:SO} {o:Obj} (hq:OR ρ P q o):OR ρ' P q o:=by
  cases q with
  | I C i=>exact hq.imp fun a e=>⟨az h e.1,e.2⟩
  | D es n=>exact hq.imp fun a e=>⟨e.1.up h,e.2⟩
  | T vs=>exact hq.imp fun a=>Exists.imp fun n e=>⟨e.1.up h,e.2⟩
  | L vs=>exact hq.imp fun a=>Exists.imp fun n e=>⟨e.1.up h,e.2⟩
  | _=>exact hq
theorem LR.up {l:List (Nat×SO)}:∀ {R:List (Addr×Obj)},LR ρ P l R→LR ρ' P l R:=by
  induction l with
  | nil=>exact id
  | cons q l ih=>exact fun ⟨a,o,r,e,b,c,d⟩=>⟨a,o,r,e,az h b,c.up h,ih d⟩
end
section
variable {P:Params} {ρ:List Addr}
theorem aC.len {v:List SV}:∀ {x:List Value},aC ρ v x→v.length=x.length:=by
  induction v with
  | nil=>exact fun e=>(congrArg List.length (show _=[] from e)).symm
  | cons v vs ih=>exact fun ⟨x,r,e,_,b⟩=>by rw [e]; exact congrArg (·+1) (ih b)
theorem ER.len {v:List (Str×SV)}:∀ {x:List DictEntry},ER ρ P v x→v.length=x.length:=by
  induction v with
  | nil=>exact fun e=>(congrArg List.length (show _=[] from e)).symm
  | cons v vs ih=>exact fun ⟨t,x,r,e,_,b⟩=>by rw [e]; exact congrArg (·+1) (ih b)
theorem lookHead {α β:Type} [BEq α] [LawfulBEq α] {i j:α} {p q:β} {l:List (α×β)} (e:((j,p)::l).lookup i=some q):i=j∧p=q∨(i==j)=false∧l.lookup i=some q:=by
  rw [List.lookup_cons] at e
  cases h:i==j with
  | true=>rw [h] at e; exact .inl ⟨beq_iff_eq.mp h,Option.some.inj e⟩
  | false=>rw [h] at e; exact .inr ⟨rfl,e⟩
theorem LR.get {i:Nat} {q:SO} {l:List (Nat×SO)}:∀ {R:List (Addr×Obj)},LR ρ P l R→l.lookup i=some q→∃ a o,ρ[i]?=some a∧(a,o)∈R∧OR ρ P q o:=by
  induction l with
  | nil=>exact fun _ e=>nomatch e
  | cons p l ih=>
    rintro R ⟨a,o,r,rfl,b,c,d⟩ e
    rcases lookHead e with ⟨rfl,rfl⟩ | ⟨_,e⟩
    · exact ⟨a,o,b,.head _,c⟩
    · exact (ih d e).imp fun x=>Exists.imp fun o g=>⟨g.1,.tail _ g.2.1,g.2.2⟩
theorem d8 {x:Str} {t:Tok}:(Value.str x t).isStr x=true:=(beq_self_eq_true x:(x==x)=true)
theorem e9 {y x:Str} {t:Tok} (h:(x==y)=false):(Value.str y t).isStr x=false:=(beq_eq_false_iff_ne.mpr fun q=>beq_eq_false_iff_ne.mp h q.symm:(y==x)=false)
theorem ER.find {x:Str} {v:SV} {es:List (Str×SV)}:∀ {es':List DictEntry},ER ρ P es es'→es.lookup x=some v→∃ e,VR ρ v e.val∧es'.find? (·.key.isStr x)=some e:=by
  induction es with
  | nil=>exact fun _ e=>nomatch e
  | cons q l ih=>
    rintro es' ⟨t,v',r,rfl,a,b⟩ e
    rcases lookHead e with ⟨rfl,rfl⟩ | ⟨hne,e⟩
    · exact ⟨_,a,by rw [List.find?_cons,d8]⟩
    · exact (ih b e).imp fun z g=>⟨g.1,by rw [List.find?_cons,e9 hne]; exact g.2⟩
theorem ER.get {x:Str} {v:SV} {es:List (Str×SV)} {es':List DictEntry} (h:ER ρ P es es') (e:es.lookup x=some v):∃ v',VR ρ v v'∧PySem.W.getL x es'=some (some v'):=by
  obtain ⟨en,h1,h2⟩:=h.find e
  exact ⟨_,h1,by unfold PySem.W.getL; rw [h2]⟩
theorem ER.noRef {es:List (Str×SV)}:∀ {es':List DictEntry},ER ρ P es es'→es'.any (·.refKey)=false:=by
  induction es with
  | nil=>exact fun e=>by rw [show _=[] from e]; rfl
  | cons q l ih=>exact fun ⟨t,v',r,e,_,b⟩=>by rw [e,List.any_cons,ih b]; rfl
theorem ER.some {x:Str} {es:List (Str×SV)} {es':List DictEntry} (h:ER ρ P es es'):(PySem.W.getL x es').isSome=true:=by
  unfold PySem.W.getL
  split
  · rfl
  · rw [h.noRef]; rfl
theorem ER.any {x:Str} {es:List (Str×SV)}:∀ {es':List DictEntry},ER ρ P es es'→(es.lookup x).isSome=es'.any (·.key.isStr x):=by
  induction es with
  | nil=>exact fun e=>by rw [show _=[] from e]; rfl
  | cons q l ih=>
    rintro es' ⟨t,v',r,rfl,a,b⟩
    rw [List.lookup_cons,List.any_cons]
    cases h:x==q.1 with
    | true=>rw [beq_iff_eq.mp h,d8]; rfl
    | false=>rw [e9 h]; exact ih b
noncomputable def put (x:Str) (v:SV):List (Str×SV)→List (Str×SV)
  | []=>[(x,v)]
  | q::r=>bif x==q.1 then (q.1,v)::r else q::put x v r
theorem ER.put {x:Str} {v:SV} {v':Value} {t:Tok} (hv:VR ρ v v') {es:List (Str×SV)}:∀ {es':List DictEntry},ER ρ P es es'→ER ρ P (put x v es) (putL x (PyData.keyHash P x) (.str x t) v' es'):=by
  induction es with
  | nil=>exact fun e=>by rw [show _=[] from e]; exact ⟨t,v',[],rfl,hv,rfl⟩
  | cons q l ih=>
    rintro es' ⟨u,y,r,rfl,a,b⟩
    unfold Mine.put putL
    cases h:x==q.1 with
    | true=>rw [beq_iff_eq.mp h,d8]; exact ⟨u,v',r,rfl,hv,b⟩
    | false=>rw [e9 h]; exact ⟨u,y,_,rfl,a,ih b⟩
theorem eg {x y:Str} {v:SV} {l:List (Str×SV)}:(put x v l).lookup y=if y=x then some v else l.lookup y:=by
  induction l with
  | nil=>
    unfold put
    rw [List.lookup_cons]
    by_cases h:y=x
    · rw [if_pos h,beq_iff_eq.mpr h]
    · rw [if_neg h,beq_eq_false_iff_ne.mpr h]
  | cons q r ih=>
    unfold put
    cases e:x==q.1 with
    | true=>
      rw [cond_true,List.lookup_cons,List.lookup_cons,← beq_iff_eq.mp e]
      by_cases h:y=x
      · rw [if_pos h,beq_iff_eq.mpr h]
      · rw [if_neg h,beq_eq_false_iff_ne.mpr h]
    | false=>
      have hne:x≠q.1:=beq_eq_false_iff_ne.mp e
      rw [cond_false,List.lookup_cons,List.lookup_cons,ih]
      by_cases h:y=x
      · subst h; rw [beq_eq_false_iff_ne.mpr hne,if_pos rfl]
      · rw [if_neg h,if_neg h]
theorem qh {x:Str} {v:SV} (l:List (Str×SV)):(put x v l).length≤l.length+1:=by
  induction l with
  | nil=>exact Nat.le_refl _
  | cons q r ih=>
    unfold put
    cases x==q.1
    · exact Nat.succ_le_succ ih
    · exact Nat.le_succ _
noncomputable def jB (i:Nat) (q:SO):List (Nat×SO)→List (Nat×SO)
  | []=>[]
  | p::r=>bif i==p.1 then (p.1,q)::r else p::jB i q r
theorem LR.set {i:Nat} {q0 q:SO} {a:Addr} {o:Obj} (ha:ρ[i]?=some a) {l:List (Nat×SO)}:∀ {R:List (Addr×Obj)},LR ρ P l R→R.Pairwise (fun p q=>p.1≠q.1)→l.lookup i=some q0→(a,o)∈R→
    ∃ g,UpdF a o R g∧∀ o',OR ρ P q o'→LR ρ P (jB i q l) (g o'):=by
  induction l with
  | nil=>exact fun _ _ e=>nomatch e
  | cons p l ih=>
    rintro R ⟨b,o1,r,rfl,h1,h2,h3⟩ hn e hm
    have hn':∀ q∈r,q.1≠b:=fun q hq=>Ne.symm ((List.pairwise_cons.mp hn).1 q hq)
    unfold jB
    rcases lookHead e with ⟨rfl,rfl⟩ | ⟨hne,e⟩
    · rw [beq_self_eq_true]
      obtain rfl:a=b:=Option.some.inj (ha.symm.trans h1)
      rcases List.mem_cons.mp hm with hm | hm
      · cases hm
        exact ⟨_,.head hn',fun o' ho=>⟨_,_,_,rfl,ha,ho,h3⟩⟩
      · exact (hn' _ hm rfl).elim
    · rw [hne]
      obtain ⟨x,o2,g1,g2,_⟩:=h3.get e
      obtain rfl:x=a:=Option.some.inj (g1.symm.trans ha)
      have hne:b≠x:=Ne.symm (hn' _ g2)
      rcases List.mem_cons.mp hm with hm | hm
      · cases hm; exact absurd rfl hne
      · obtain ⟨g,u,r⟩:=ih h3 (List.pairwise_cons.mp hn).2 e hm
        exact ⟨_,.tail hne u,fun o' ho=>⟨_,_,_,rfl,h1,h2,r o' ho⟩⟩
theorem fG {d:Addr} {o o':Obj} {R:List (Addr×Obj)} {g:Obj→List (Addr×Obj)} (h:UpdF d o R g):(g o').map (·.1)=R.map (·.1):=by
  induction h with
  | head=>rfl
  | tail _ _ ih=>exact congrArg (_::·) ih
theorem lH {d:Addr} {o:Obj} {R R0:List (Addr×Obj)} {g:Obj→List (Addr×Obj)} (u:UpdF d o R g) (h:∀ q∈R0,q.1≠d):UpdF d o (R++R0) fun o'=>g o'++R0:=by
  induction u with
  | head k=>exact .head fun q hq=>(List.mem_append.mp hq).elim (k q) (h q)
  | tail k _ ih=>exact .tail k (ih)
theorem mQ {d:Addr} {o o':Obj} {R:List (Addr×Obj)} {g:Obj→List (Addr×Obj)} (u:UpdF d o R g):Upd d o o' R (g o'):=by
  induction u with
  | head k=>exact .head k
  | tail k _ ih=>exact .tail k ih
end
end
end
section
set_option backward.match.sparseCases false
noncomputable section
set_option genSizeOf false
set_option genInjectivity false
noncomputable def aa (r:FnR) (L:Addr):Env:=envX r.qual r.scope L r.a (.ref (r.a - 1)) r.cl
structure w0 (P:Params) (r:FnR) where
  oc:Value
  od:Option Addr
  osl:Array (Option Value)
  nm:Str
  params:Arguments
  dV:Value
  kV:Value
  doc:Value
  pm:Value
  an:Option Addr
  ct:Value
  ho:(Mine.hd.heap_1 P).lookup r.a=some ⟨oc,od,.func (fnOf nm r.qual params r.body r.scope dV kV doc pm an (.ref (r.a - 1)) ct),osl⟩
noncomputable abbrev w0.f {P:Params} {r:FnR} (D:w0 P r):FuncData:=fnOf D.nm r.qual D.params r.body r.scope D.dV D.kV D.doc D.pm D.an (.ref (r.a - 1)) D.ct
structure ai (P:Params) (r:FnR):Prop where
  at_:∃ D:w0 P r,
    ∀ (s:Shared) (vs:List Value),vs.length=r.names.length→(Mine.hd.heap_1 P).In s.heap→∃ ex,aC [] (r.extra.map (·.2)) ex∧BindsTo s D.f ⟨vs,[]⟩ (r.names.zip vs++(r.extra.map (·.1)).zip ex)
  cd:codeIn (Mine.hd.heap_1 P) (.ref (r.a - 1)) r.qual=true
  ok:(r.scope.isCoroutine==false&&r.scope.isGenerator==false&&r.scope.kind==.function&&r.scope.names.all (fun x=>x.2 != .cell)&&(r.names++r.extra.map (·.1)).all fun x=>r.scope.names.lookup x==some .local)=true
  cl:r.cl=[]
structure KOk (P:Params) (k:Kit):Prop where
  gl:∀ x v,k.gl.lookup x=some v→∃ v',nsIn (Mine.hd.heap_1 P) mainGlobals x=some (some v')∧VR [] v v'∧(x==("__debug__":Str))=false
  kp:∀ a∈k.kp,keepIn (Mine.hd.heap_1 P) (.ref a)=true
  fn:∀ a n r,k.fn a n=some r→r.a=a∧r.names.length=n∧ai P r
  cl:∀ C g,k.cl C=some g→makesIn (Mine.hd.heap_1 P) C=true∧findIn (Mine.hd.heap_1 P) (.ref C) "__init__"=some (some (.ref g))∧isFn (Mine.hd.heap_1 P) (.ref g)=true
  tb:∀ a l,k.tb.lookup a=some l→∃ es n,(Mine.hd.heap_1 P).lookup a=some ⟨.type "dict",none,.dict es n,#[]⟩∧KeysLit P es.toList∧∀ x v,l.lookup x=some v→∃ v',nsIn (Mine.hd.heap_1 P) a x=some (some v')∧VR [] v v'
  at_:∀ C a,(C,a)∈k.at_→f8 (Mine.hd.heap_1 P) C a=true
  st:∀ C a,(C,a)∈k.st→kl (Mine.hd.heap_1 P) C a=true
  mt:∀ q g,k.mt.lookup q=some g→plainGet (Mine.hd.heap_1 P) q.1 q.2=true∧findIn (Mine.hd.heap_1 P) (.ref q.1) q.2=some (some (.ref g))∧isFn (Mine.hd.heap_1 P) (.ref g)=true∧keepIn (Mine.hd.heap_1 P) (.ref g)=true
  pr:∀ q g,k.pr.lookup q=some g→plainGet (Mine.hd.heap_1 P) q.1 q.2=true∧hasDictIn (Mine.hd.heap_1 P) q.1=true∧∃ p rest,findIn (Mine.hd.heap_1 P) (.ref q.1) q.2=some (some (.ref p))∧specialIn (Mine.hd.heap_1 P) (.ref p) "__get__"=some (some (.builtin "property.__get__"))∧takesIn (Mine.hd.heap_1 P) (.ref p)=some true∧recIn (Mine.hd.heap_1 P) p "property"=some (.ref g::rest)
structure Ct where
  w:World
  p:Program
  loose:List Str
  mean:ExcName→Option Value
  mg:Str→Option Value
  mb:Str→Option Value
  R0:List (Addr×Obj)
  ρ0:List Addr
  lm:Nat
  WP:List (Nat×SV)→List (Addr×Obj)→Prop
  k:Kit
  hk:KOk w.params k
structure Fx where
  A:Around
  E:Value→Shared→Prop
  h₀:Heap
  L:Addr
  s:Shared
structure Vr where
  ρ:List Addr
  Rf:List (Addr×Obj)
  R1:List (Addr×Obj)
  h:Heap
  m:Str→Option Value
@[reducible] noncomputable def Fx.sh (f:Fx) (h:Heap) (tk:Nat):Shared:={ f.s with heap:=h,toks:=tk }
theorem gM {P:Params} {h₀ h:Heap} {L:Addr} {l:List (Addr×Obj)} {p:Addr×Obj} (X:(Mine.hd.heap_1 P).In h₀) (N:News h₀ L h l) (hm:p∈l):(p.1==sysModules)=false:=beq_eq_false_iff_ne.mpr fun e=>by
  have h1:=(N p hm).2.2
  rw [e,X sysModules (Y.og (Y.La P) 1) (by kernel_rfl)] at h1
  cases h1
variable (c:Ct)
structure Fx.Ok (f:Fx) (n:Nat):Prop where
  hd:f.A.handled=none
  dp:f.A.depth+2*n+c.lm≤890
  un:f.A.units+20*n+10*c.lm≤8900
  X:(Mine.hd.heap_1 c.w.params).In f.h₀
  T:Top c.p c.loose c.mean c.mg c.mb f.h₀
structure St (f:Fx) (v:Vr) (σ:Sy):Prop where
  fr:Fr f.h₀ f.L v.h v.m
  lv:∀ x u,σ.loc.lookup x=some u→∃ y,v.m x=some y∧VR v.ρ u y
  nw:News f.h₀ f.L v.h (v.Rf++v.R1)
  lr:LR v.ρ c.w.params σ.fr v.Rf
  ol:∀ i q,σ.ol.lookup i=some q→∃ a o,v.ρ[i]?=some a∧(a,o)∈c.R0∧OR v.ρ c.w.params q o
  sb:∀ p∈c.R0,p∈v.R1
  wp:c.WP σ.wd v.R1
  nx:v.ρ.length=σ.nx
  nd:v.Rf.Pairwise fun p q=>p.1≠q.1
  up:∀ p∈v.Rf,∀ q∈v.R1,q.1≠p.1
  ini:c.ρ0 <+: v.ρ
noncomputable def af {α:Type} (n:Nat) (σ:Sy) (t:Addr→Sem α) (post:List Addr→α→Prop) (σ':Sy):Prop:=
  ∀ (f:Fx) (v:Vr) (tk:Nat) (Q:α→Shared→Prop),f.Ok c n→St c f v σ→(∀ x v' tk',v.ρ <+: v'.ρ→post v'.ρ x→St c f v' σ'→Q x (f.sh v'.h tk'))→wpAny (model PG c.w) f.A (t f.L) Q f.E (f.sh v.h tk)
noncomputable def aO (n:Nat) (σ:Sy) (g:Addr) (vs:List SV) (u:SV) (σ':Sy):Prop:=
  ∀ (f:Fx) (v:Vr) (tk:Nat) (xs:List Value) (Q:Value→Shared→Prop),f.Ok c n→St c f v σ→aC v.ρ vs xs→(∀ x v' tk',v.ρ <+: v'.ρ→VR v'.ρ u x→St c f v' σ'→v'.m=v.m→Q x (f.sh v'.h tk'))→wpAny (model PG c.w) f.A (call (.ref g) xs) Q f.E (f.sh v.h tk)
noncomputable def ak (res:Option SV) (ρ:List Addr) (fl:Flow):Prop:=match res with
  | none=>fl=.next
  | some v=>∃ x,fl=.ret x∧VR ρ v x
structure dy (e:PySem.Expr):Prop where
  star:∀ env es,starEach (e::es) env=(false,eval e env)::starEach es env
  swap:∀ t i env,swapsWith e t i env=pure false
structure br (e:PySem.Expr):Prop where
  star:∀ env es,starEach (e::es) env=(false,eval e env)::starEach es env
structure CE (n:Nat) (r:FnR) (e:PySem.Expr) (σ:Sy) where
  v:SV
  σ':Sy
  ok:af c n σ (fun L=>eval e (aa r L)) (fun ρ x=>VR ρ v x) σ'
structure CT (n:Nat) (r:FnR) (e:PySem.Expr) (σ:Sy) where
  b:Bool
  σ':Sy
  ok:af c n σ (fun L=>isTrue e (aa r L) (eval e (aa r L))) (fun _ x=>x=b) σ'
structure CA (n:Nat) (r:FnR) (es:List PySem.Expr) (σ:Sy) where
  vs:List SV
  σ':Sy
  pl:∀ env pos,(backTo pos (starEach es env)).any (·.1)=false
  ok:∀ pos,af c n σ (fun L=>spliced (backTo pos (starEach es (aa r L)))) (fun ρ xs=>aC ρ vs xs) σ'
structure CS (n:Nat) (r:FnR) (ss:List Stmt) (σ:Sy) where
  res:Option SV
  σ':Sy
  ok:af c n σ (fun L=>execs ss (aa r L)) (ak res) σ'
structure CC (n:Nat) (g:Addr) (vs:List SV) (σ:Sy) where
  v:SV
  σ':Sy
  ok:aO c n σ g vs v σ'
structure ie (n:Nat) where
  E:∀ r e σ,Option (CE c n r e σ)
  T:∀ r e σ,Option (CT c n r e σ)
  A:∀ r es σ,Option (CA c n r es σ)
  S:∀ r ss σ,Option (CS c n r ss σ)
  C:∀ g vs σ,Option (CC c n g vs σ)
variable {c}
theorem Fx.Ok.zero {f:Fx} {n:Nat} (h:f.Ok c n):f.Ok c 0:=⟨h.hd,by have:=h.dp; exact lin (.c _ (.c _ (.c _ .z))) (.c (.a (.a (.v 0) (.m 2 (.v 1))) (.v 2)) (.k 890) .z) (.a (.a (.v 0) (.m 2 (.k 0))) (.v 2)) (.k 890) rfl this,by have:=h.un; exact lin (.c _ (.c _ (.c _ .z))) (.c (.a (.a (.v 0) (.m 20 (.v 1))) (.m 10 (.v 2))) (.k 8900) .z) (.a (.a (.v 0) (.m 20 (.k 0))) (.m 10 (.v 2))) (.k 8900) rfl this,h.X,h.T⟩
noncomputable def bR {α:Type} (o:Option α):Option { a // o=some a }:=Option.rec (motive:=fun o=>Option { a // o=some a }) none (fun a=>some ⟨a,rfl⟩) o
noncomputable def ay (b:Bool):Option (PLift (b=true)):=Bool.rec (motive:=fun b=>Option (PLift (b=true))) none (some ⟨rfl⟩) b
theorem mW {v:SV} {x:Value} {ρ:List Addr} (h:VR [] v x):VR ρ v x:=h.up ⟨ρ,rfl⟩
noncomputable def Sy.look (σ:Sy) (i:Nat):Option SO:=(σ.fr.lookup i).elim (σ.ol.lookup i) some
theorem St.look {f:Fx} {v:Vr} {σ:Sy} (S:St c f v σ) {i:Nat} {q:SO} (e:σ.look i=some q):∃ a o,v.ρ[i]?=some a∧(a,o)∈v.Rf++v.R1∧OR v.ρ c.w.params q o:=by
  unfold Sy.look at e
  cases hq:σ.fr.lookup i with
  | some q'=>
    rw [hq] at e
    cases e
    exact (S.lr.get hq).imp fun a=>Exists.imp fun o h=>⟨h.1,List.mem_append_left _ h.2.1,h.2.2⟩
  | none=>
    rw [hq] at e
    exact (S.ol _ _ e).imp fun a=>Exists.imp fun o h=>⟨h.1,List.mem_append_right _ (S.sb _ h.2.1),h.2.2⟩
section
variable (v:SV)
noncomputable def cI:Option { i:Nat // v=.s i }:=SV.rec (motive:=fun v=>Option { i // v=.s i }) (fun i=>some ⟨i,rfl⟩) (fun z_=>none) (fun z_=>none) (fun z_=>none) (fun z_=>none) (fun z_=>none) none (fun z_ z_ z_=>none) (fun z_=>none) (fun z_ z_ z_=>none) (fun z_ z_ z_ z_=>none) none v
noncomputable def wZ:Option { i:Addr // v=.k i }:=SV.rec (motive:=fun v=>Option { i // v=.k i }) (fun z_=>none) (fun i=>some ⟨i,rfl⟩) (fun z_=>none) (fun z_=>none) (fun z_=>none) (fun z_=>none) none (fun z_ z_ z_=>none) (fun z_=>none) (fun z_ z_ z_=>none) (fun z_ z_ z_ z_=>none) none v
noncomputable def dr:Option { n:Int // ∀ ρ x,VR ρ v x→∃ t,x=.int n t }:=SV.rec (motive:=fun v=>Option { n:Int // ∀ ρ x,VR ρ v x→∃ t,x=.int n t }) (fun z_=>none) (fun z_=>none) (fun n=>some ⟨n,fun _ _ h=>h⟩) (fun z_=>none) (fun z_=>none) (fun z_=>none) none (fun n _ _=>some ⟨n,fun _ _ h=>h⟩) (fun z_=>none) (fun z_ z_ z_=>none) (fun z_ z_ z_ z_=>none) none v
noncomputable def pC:Option { i:Str // v=.t i }:=SV.rec (motive:=fun v=>Option { i // v=.t i }) (fun z_=>none) (fun z_=>none) (fun z_=>none) (fun i=>some ⟨i,rfl⟩) (fun z_=>none) (fun z_=>none) none (fun z_ z_ z_=>none) (fun z_=>none) (fun z_ z_ z_=>none) (fun z_ z_ z_ z_=>none) none v
noncomputable def xZ:Option { i:Bool // v=.o i }:=SV.rec (motive:=fun v=>Option { i // v=.o i }) (fun z_=>none) (fun z_=>none) (fun z_=>none) (fun z_=>none) (fun z_=>none) (fun i=>some ⟨i,rfl⟩) none (fun z_ z_ z_=>none) (fun z_=>none) (fun z_ z_ z_=>none) (fun z_ z_ z_ z_=>none) none v
noncomputable def qT:Option { o:Array UInt8 // ∀ ρ x,VR ρ v x→∃ t,x=.bytes o t }:=SV.rec (motive:=fun v=>Option { n // ∀ ρ x,VR ρ v x→∃ t,x=.bytes n t }) (fun z_=>none) (fun z_=>none) (fun z_=>none) (fun z_=>none) (fun n=>some ⟨n,fun _ _ h=>h⟩) (fun z_=>none) none (fun z_ z_ z_=>none) (fun z_=>none) (fun n _ _=>some ⟨n,fun _ _ h=>h⟩) (fun z_ z_ z_ z_=>none) none v
noncomputable abbrev YB (v:SV):=(x:Array UInt8) ×' (n:Nat) ×' (h:x.size≤n) ×' (∀ ρ y,VR ρ v y→∃ t,y=.bytes x t)
noncomputable abbrev YB.x {v:SV} (q:YB v):Array UInt8:=q.1
noncomputable abbrev YB.n {v:SV} (q:YB v):Nat:=q.2.1
theorem YB.h {v:SV} (q:YB v):q.x.size≤q.n:=q.2.2.1
theorem YB.ok {v:SV} (q:YB v):∀ ρ y,VR ρ v y→∃ t,y=.bytes q.x t:=q.2.2.2
noncomputable def wW:Option (YB v):=SV.rec (motive:=fun v=>Option (YB v)) (fun z_=>none) (fun z_=>none) (fun z_=>none) (fun z_=>none) (fun x=>(ay (Nat.ble x.size 1000)).map fun h=>⟨x,1000,Nat.le_of_ble_eq_true h.down,fun _ _ h=>h⟩) (fun z_=>none) none (fun z_ z_ z_=>none) (fun z_=>none) (fun x n h=>some ⟨x,n,h,fun _ _ h=>h⟩) (fun z_ z_ z_ z_=>none) none v
noncomputable abbrev ZB (v:SV):=(n:Int) ×' (b:Nat) ×' (h:n.natAbs≤b) ×' (∀ ρ y,VR ρ v y→∃ t,y=.int n t)
noncomputable abbrev ZB.n {v:SV} (q:ZB v):Int:=q.1
noncomputable abbrev ZB.b {v:SV} (q:ZB v):Nat:=q.2.1
theorem ZB.h {v:SV} (q:ZB v):q.n.natAbs≤q.b:=q.2.2.1
theorem ZB.ok {v:SV} (q:ZB v):∀ ρ y,VR ρ v y→∃ t,y=.int q.n t:=q.2.2.2
noncomputable def qC:Option (ZB v):=SV.rec (motive:=fun v=>Option (ZB v)) (fun z_=>none) (fun z_=>none) (fun z_=>none) (fun z_=>none) (fun z_=>none) (fun z_=>none) none (fun n b h=>some ⟨n,b,h,fun _ _ h=>h⟩) (fun z_=>none) (fun z_ z_ z_=>none) (fun z_ z_ z_ z_=>none) none v
noncomputable abbrev RB (v:SV):=(n:Int) ×' (c:Int) ×' (b:Bool) ×' (h:decide (c≤n)=b) ×' (∀ ρ y,VR ρ v y→∃ t,y=.int n t)
noncomputable abbrev RB.n {v:SV} (q:RB v):Int:=q.1
noncomputable abbrev RB.cc {v:SV} (q:RB v):Int:=q.2.1
noncomputable abbrev RB.b {v:SV} (q:RB v):Bool:=q.2.2.1
theorem RB.h {v:SV} (q:RB v):decide (q.cc≤q.n)=q.b:=q.2.2.2.1
theorem RB.ok {v:SV} (q:RB v):∀ ρ y,VR ρ v y→∃ t,y=.int q.n t:=q.2.2.2.2
noncomputable def asR:Option (RB v):=SV.rec (motive:=fun v=>Option (RB v)) (fun z_=>none) (fun z_=>none) (fun z_=>none) (fun z_=>none) (fun z_=>none) (fun z_=>none) none (fun z_ z_ z_=>none) (fun z_=>none) (fun z_ z_ z_=>none) (fun n c b h=>some ⟨n,c,b,h,fun _ _ h=>h⟩) none v
noncomputable def w4:Option { b:Bool // ∀ ρ x,VR ρ v x→(x==.none)=b }:=SV.rec (motive:=fun v=>Option { b:Bool // ∀ ρ x,VR ρ v x→(x==.none)=b }) (fun z_=>some ⟨false,fun _ _ ⟨_,_,h⟩=>h▸rfl⟩) (fun z_=>none) (fun z_=>none) (fun z_=>none) (fun z_=>some ⟨false,fun _ _ ⟨_,h⟩=>h▸rfl⟩) (fun z_=>none) (some ⟨true,fun _ x (h:x=Value.none)=>by subst h; rfl⟩) (fun z_ z_ z_=>none) (fun z_=>none) (fun z_ z_ z_=>some ⟨false,fun _ _ ⟨_,h⟩=>h▸rfl⟩) (fun z_ z_ z_ z_=>none) none v
noncomputable def handed:Option (PLift (∀ ρ x,VR ρ v x→handedIn x=true)):=SV.rec (motive:=fun v=>Option (PLift (∀ ρ x,VR ρ v x→handedIn x=true))) (fun z_=>some ⟨fun _ _ ⟨_,_,h⟩=>h▸rfl⟩) (fun z_=>some ⟨fun _ _ h=>(show _=Value.ref _ from h)▸rfl⟩) (fun z_=>some ⟨fun _ _ ⟨_,h⟩=>h▸rfl⟩) (fun z_=>some ⟨fun _ _ ⟨_,h⟩=>h▸rfl⟩) (fun z_=>some ⟨fun _ _ ⟨_,h⟩=>h▸rfl⟩) (fun z_=>some ⟨fun _ _ h=>(show _=Value.bool _ from h)▸rfl⟩) (some ⟨fun _ _ h=>(show _=Value.none from h)▸rfl⟩) (fun z_ z_ z_=>some ⟨fun _ _ ⟨_,h⟩=>h▸rfl⟩) (fun z_=>none) (fun z_ z_ z_=>some ⟨fun _ _ ⟨_,h⟩=>h▸rfl⟩) (fun z_ z_ z_ z_=>some ⟨fun _ _ ⟨_,h⟩=>h▸rfl⟩) none v
end
section
variable (q:SO)
noncomputable def nD:Option { i:Addr×Nat // q=.I i.1 i.2 }:=SO.rec (motive:=fun q=>Option { i:Addr×Nat // q=.I i.1 i.2 }) (fun C d=>some ⟨(C,d),rfl⟩) (fun z_ z_=>none) (fun z_=>none) (fun z_=>none) (fun z_=>none) (fun z_=>none) (fun z_ z_ z_=>none) (fun z_=>none) (fun z_ z_ z_=>none) q
noncomputable def ww:Option { i:List (Str×SV)×Nat // q=.D i.1 i.2 }:=SO.rec (motive:=fun q=>Option { i:List (Str×SV)×Nat // q=.D i.1 i.2 }) (fun z_ z_=>none) (fun C d=>some ⟨(C,d),rfl⟩) (fun z_=>none) (fun z_=>none) (fun z_=>none) (fun z_=>none) (fun z_ z_ z_=>none) (fun z_=>none) (fun z_ z_ z_=>none) q
noncomputable def gQ:Option { i:List SV // q=.T i }:=SO.rec (motive:=fun q=>Option { i:List SV // q=.T i }) (fun z_ z_=>none) (fun z_ z_=>none) (fun i=>some ⟨i,rfl⟩) (fun z_=>none) (fun z_=>none) (fun z_=>none) (fun z_ z_ z_=>none) (fun z_=>none) (fun z_ z_ z_=>none) q
noncomputable def dH:Option { i:List SV // q=.L i }:=SO.rec (motive:=fun q=>Option { i:List SV // q=.L i }) (fun z_ z_=>none) (fun z_ z_=>none) (fun z_=>none) (fun i=>some ⟨i,rfl⟩) (fun z_=>none) (fun z_=>none) (fun z_ z_ z_=>none) (fun z_=>none) (fun z_ z_ z_=>none) q
noncomputable def vR:Option { i:Array UInt8 // q=.B i }:=SO.rec (motive:=fun q=>Option { i:Array UInt8 // q=.B i }) (fun z_ z_=>none) (fun z_ z_=>none) (fun z_=>none) (fun z_=>none) (fun z_=>none) (fun i=>some ⟨i,rfl⟩) (fun z_ z_ z_=>none) (fun z_=>none) (fun z_ z_ z_=>none) q
noncomputable abbrev JB (q:SO):=(bs:List (Array UInt8)) ×' (n:Nat) ×' (h:bs.length+ah bs≤n) ×' (q=.J bs n h)
noncomputable abbrev JB.bs {s:SO} (q:JB s):List (Array UInt8):=q.1
noncomputable abbrev JB.n {s:SO} (q:JB s):Nat:=q.2.1
theorem JB.h {s:SO} (q:JB s):q.bs.length+ah q.bs≤q.n:=q.2.2.1
theorem JB.e {s:SO} (q:JB s):s=.J q.bs q.n q.h:=q.2.2.2
noncomputable def asJ:Option (JB q):=SO.rec (motive:=fun q=>Option (JB q)) (fun z_ z_=>none) (fun z_ z_=>none) (fun z_=>none) (fun z_=>none) (fun z_=>none) (fun z_=>none) (fun bs n h=>some ⟨bs,n,h,rfl⟩) (fun z_=>none) (fun z_ z_ z_=>none) q
noncomputable def xc:Option { i:List (Int×Array UInt8) // q=.N i }:=SO.rec (motive:=fun q=>Option { i:List (Int×Array UInt8) // q=.N i }) (fun z_ z_=>none) (fun z_ z_=>none) (fun z_=>none) (fun z_=>none) (fun z_=>none) (fun z_=>none) (fun z_ z_ z_=>none) (fun i=>some ⟨i,rfl⟩) (fun z_ z_ z_=>none) q
noncomputable abbrev MB (q:SO):=(n:Nat) ×' (b:Nat) ×' (h:n≤b) ×' (q=.M n b h)
noncomputable abbrev MB.n {s:SO} (q:MB s):Nat:=q.1
noncomputable abbrev MB.b {s:SO} (q:MB s):Nat:=q.2.1
theorem MB.h {s:SO} (q:MB s):q.n≤q.b:=q.2.2.1
theorem MB.e {s:SO} (q:MB s):s=.M q.n q.b q.h:=q.2.2.2
noncomputable def asM:Option (MB q):=SO.rec (motive:=fun q=>Option (MB q)) (fun z_ z_=>none) (fun z_ z_=>none) (fun z_=>none) (fun z_=>none) (fun z_=>none) (fun z_=>none) (fun z_ z_ z_=>none) (fun z_=>none) (fun n b h=>some ⟨n,b,h,rfl⟩) q
end
end
end
section
set_option backward.match.sparseCases false
noncomputable section
variable {c:Ct} {n:Nat}
theorem nQ {prog:Program} {w:World} {p:Program} {loose:List Str} {mg mb:Str→Option Value} {A:Around} {E:Value→Shared→Prop} {s:Shared} {h₀:Heap} {m:Str→Option Value} {env:Env} {x:Str} {p1:Pos} {v:Value} {Q:Value→Shared→Prop} (F:Fr h₀ env.locals s.heap m) (X:(Mine.hd.heap_1 w.params).In h₀) (T:TopRead p loose mg mb h₀)
    (e:nsIn (Mine.hd.heap_1 w.params) mainGlobals x=some (some v)) (hd:(x==("__debug__":Str))=false) (h:Q v s) (hk:fQ env x=true) :
    wpAny (model prog w) A (eval (.Name x p1) env) Q E s:=by
  unfold fQ at hk
  obtain ⟨hk,h3⟩:=bA.mp hk
  obtain ⟨h1,h2⟩:=bA.mp hk
  have h3:env.globals=mainGlobals:=by simpa using h3
  exact Name_function_global (by simpa using h1) (by simpa using h2) (loadGlobal_global (by rw [h3]; exact T.g.keeps F.keep) (mg_of X T.g e) h) hd
noncomputable def ej (c:Ct) (op:CmpOp) (a b:SV) (r:Bool):Prop:=∀ {A:Around} {E:Value→Shared→Prop} {s:Shared} {ρ:List Addr} {Q:Value→Shared→Prop} {x y:Value},VR ρ a x→VR ρ b y→Q (.bool r) s→wpAny (model PG c.w) A (compareOp op x y) Q E s
noncomputable def lW (op:CmpOp) (g:Int→Int→Bool) (hg:∀ {A:Around} {E:Value→Shared→Prop} {s:Shared} {Q:Value→Shared→Prop} {i j:Int} {t u:Tok},Q (.bool (g i j)) s→wpAny (model PG c.w) A (compareOp op (.int i t) (.int j u)) Q E s) (a b:SV):Option { r:Bool // ej c op a b r }:=
  (dr a).bind fun i=>(dr b).map fun j=>⟨g i.1 j.1,fun ha hb hq=>by
    obtain ⟨t,rfl⟩:=i.2 _ _ ha
    obtain ⟨u,rfl⟩:=j.2 _ _ hb
    exact hg hq⟩
noncomputable def uT (op:CmpOp) (g:Int→Int→Bool) (d:Int) (neg:Bool) (hd:∀ i j:Int,g i j=(decide (j+d≤i)^^neg)) (hg:∀ {A:Around} {E:Value→Shared→Prop} {s:Shared} {Q:Value→Shared→Prop} {i j:Int} {t u:Tok},Q (.bool (g i j)) s→wpAny (model PG c.w) A (compareOp op (.int i t) (.int j u)) Q E s) (a b:SV):Option { r:Bool // ej c op a b r }:=
  (asR a).elim (lW op g hg a b) fun q=>(dr b).bind fun j=>(ay (j.1+d==q.cc)).map fun h=>⟨q.b^^neg,fun ha hb hq=>by
    obtain ⟨t,rfl⟩:=q.ok _ _ ha
    obtain ⟨u,rfl⟩:=j.2 _ _ hb
    refine hg ?_
    rw [hd,beq_iff_eq.mp h.down,q.h]
    exact hq⟩
noncomputable def xm (op:CmpOp) (a b:SV):Option { r:Bool // ej c op a b r }:=match op with
  | .Eq=>(pC a).elim (lW .Eq (fun x y=>x==y) (fun h=>PyProof.Rows.eq_int h) a b) fun x=>(pC b).map fun y=>⟨x.1==y.1,fun ha hb hq=>by
      rw [x.2] at ha
      rw [y.2] at hb
      obtain ⟨t,rfl⟩:=ha
      obtain ⟨u,rfl⟩:=hb
      exact PyProof.Rows.eq_str hq⟩
  | .NotEq=>(qT a).elim ((pC a).elim (lW .NotEq (fun x y=>x != y) (fun h=>PySem.P.ne_int h) a b) fun x=>(pC b).map fun y=>⟨x.1 != y.1,fun ha hb hq=>by
      rw [x.2] at ha
      rw [y.2] at hb
      obtain ⟨t,rfl⟩:=ha
      obtain ⟨u,rfl⟩:=hb
      exact PyProof.Rows.ne_str hq⟩) fun x=>(qT b).map fun y=>⟨x.1.toList != y.1.toList,fun ha hb hq=>by
      obtain ⟨t,rfl⟩:=x.2 _ _ ha
      obtain ⟨u,rfl⟩:=y.2 _ _ hb
      exact ne_bytes hq⟩
  | .Lt=>lW .Lt (fun x y=>decide (x<y)) (fun h=>PyProof.Rows.lt_int h) a b
  | .LtE=>uT .LtE (fun x y=>decide (x≤y)) 1 true (fun i j=>by rw [Bool.xor_true,← decide_not]; exact decide_eq_decide.mpr (by omega)) (fun h=>PyProof.Rows.le_int h) a b
  | .Gt=>((qC a).bind fun x=>(dr b).bind fun y=>(ay (decide ((x.b:Int)≤y.1))).map fun h=>(⟨false,fun ha hb hq=>by
      obtain ⟨t,rfl⟩:=x.ok _ _ ha
      obtain ⟨u,rfl⟩:=y.2 _ _ hb
      refine PyProof.Rows.gt_int ?_
      rw [decide_eq_false (Int.not_lt.mpr (Int.le_trans (Int.le_trans Int.le_natAbs (Int.ofNat_le.mpr x.h)) (of_decide_eq_true h.down)))]
      exact hq⟩:{ r:Bool // ej c .Gt a b r })).elim (lW .Gt (fun x y=>decide (x > y)) (fun h=>PyProof.Rows.gt_int h) a b) some
  | .GtE=>uT .GtE (fun x y=>decide (x ≥ y)) 0 false (fun i j=>by rw [Bool.xor_false]; exact decide_eq_decide.mpr (by omega)) (fun h=>PyProof.Rows.ge_int h) a b
  | .Is=>(w4 b).bind fun y=>(ay y.1).bind fun h=>(w4 a).map fun x=>⟨x.1,fun ha hb hq=>by
      obtain rfl:=eq_of_beq ((y.2 _ _ hb).trans h.down)
      exact PyProof.Rows.is_none_gen (by rw [x.2 _ _ ha]; exact hq)⟩
  | .IsNot=>(w4 b).bind fun y=>(ay y.1).bind fun h=>(w4 a).map fun x=>⟨!x.1,fun ha hb hq=>by
      obtain rfl:=eq_of_beq ((y.2 _ _ hb).trans h.down)
      exact PyProof.Rows.isnot_none_gen (by rw [x.2 _ _ ha]; exact hq)⟩
  | _=>none
noncomputable def fB (c:Ct) (op:Operator) (a b r:SV):Prop:=∀ {A:Around} {E:Value→Shared→Prop} {s:Shared} {ρ:List Addr} {Q:Value→Shared→Prop} {x y:Value},VR ρ a x→VR ρ b y→(∀ z tk,VR ρ r z→Q z { s with toks:=tk })→wpAny (model PG c.w) A (binaryOp op x y) Q E s
noncomputable def wG (op:Operator) (g:Int→Int→Int) (hg:∀ {A:Around} {E:Value→Shared→Prop} {s:Shared} {Q:Value→Shared→Prop} {i j:Int} {t u:Tok},(∀ t' tk,Q (.int (g i j) t') { s with toks:=tk })→wpAny (model PG c.w) A (binaryOp op (.int i t) (.int j u)) Q E s) (a b:SV):Option { r:SV // fB c op a b r }:=
  (dr a).bind fun i=>(dr b).map fun j=>⟨.i (g i.1 j.1),fun ha hb hq=>by
    obtain ⟨t,rfl⟩:=i.2 _ _ ha
    obtain ⟨u,rfl⟩:=j.2 _ _ hb
    exact hg fun t' tk=>hq _ _ ⟨t',rfl⟩⟩
theorem nR {a b:SV} (x:YB a) (y:YB b) (h:Nat.ble (x.n+y.n) 100000=true):fB c .Add a b (.y (x.x++y.x) (x.n+y.n) (by rw [Array.size_append]; exact Nat.add_le_add x.h y.h)):=fun ha hb hq=>by
  obtain ⟨t,rfl⟩:=x.ok _ _ ha
  obtain ⟨u,rfl⟩:=y.ok _ _ hb
  exact KBy.add_bytes (Nat.le_trans (Nat.add_le_add x.h y.h) (Nat.le_trans (Nat.le_of_ble_eq_true h) (by decide))) fun t' k=>hq _ _ ⟨t',rfl⟩
noncomputable def isZ (v:SV):Bool:=(qC v).isSome
noncomputable def oT (v:SV):Option (ZB v):=SV.rec (motive:=fun v=>Option (ZB v)) (fun z_=>none) (fun z_=>none) (fun n=>some ⟨n,n.natAbs,Nat.le_refl _,fun _ _ h=>h⟩) (fun z_=>none) (fun z_=>none) (fun z_=>none) none (fun n b h=>some ⟨n,b,h,fun _ _ h=>h⟩) (fun z_=>none) (fun z_ z_ z_=>none) (fun z_ z_ z_ z_=>none) none v
theorem uR {a b:SV} (x:ZB a) (y:ZB b):fB c .Add a b (.z (x.n+y.n) (x.b+y.b) (Nat.le_trans (Int.natAbs_add_le _ _) (Nat.add_le_add x.h y.h))):=fun ha hb hq=>by
  obtain ⟨t,rfl⟩:=x.ok _ _ ha
  obtain ⟨u,rfl⟩:=y.ok _ _ hb
  exact PySem.P.add_int (hq _ _ .z)
theorem qy {a b:SV} (x:ZB a) (y:ZB b) {u:SV} (h:(Nat.ble x.b 1000000000&&Nat.ble y.b 1000000000)=true) (hu:∀ ρ t,VR ρ u (.int (x.n*y.n) t)):fB c .Mult a b u:=fun ha hb hq=>by
  obtain ⟨t,rfl⟩:=x.ok _ _ ha
  obtain ⟨v,rfl⟩:=y.ok _ _ hb
  obtain ⟨h1,h2⟩:=bA.mp h
  have h1:=Nat.le_trans x.h (Nat.le_of_ble_eq_true h1)
  have h2:=Nat.le_trans y.h (Nat.le_of_ble_eq_true h2)
  exact PyProof.Rows.mul_int (hq _ _ (hu _ _)) (by mul_fits)
noncomputable def xh (op:Operator) (a b:SV):Option { r:SV // fB c op a b r }:=match op with
  | .Add=>(wW a).elim (cond (isZ a||isZ b) ((oT a).bind fun x=>(oT b).map fun y=>⟨_,uR x y⟩) (wG .Add (fun x y=>x+y) (fun h=>PySem.P.add_int (h _ _)) a b)) fun x=>(wW b).bind fun y=>(ay (Nat.ble (x.n+y.n) 100000)).map fun h=>⟨_,nR x y h.down⟩
  | .Sub=>(qC a).elim (wG .Sub (fun x y=>x - y) (fun h=>PySem.P.sub_int (h _ _)) a b) fun x=>(dr b).map fun y=>⟨.z (x.n - y.1) (x.b+y.1.natAbs) (by have:=x.h; omega),fun ha hb hq=>by
      obtain ⟨t,rfl⟩:=x.ok _ _ ha
      obtain ⟨u,rfl⟩:=y.2 _ _ hb
      exact PySem.P.sub_int (hq _ _ .z)⟩
  | .Mult=>(oT a).bind fun x=>(oT b).bind fun y=>(ay (Nat.ble x.b 1000000000&&Nat.ble y.b 1000000000)).map fun h=>cond (isZ a||isZ b)
      ⟨.z (x.n*y.n) (x.b*y.b) (by rw [Int.natAbs_mul]; exact Nat.mul_le_mul x.h y.h),qy x y h.down fun z_ z_=>.z⟩
      ⟨.i (x.n*y.n),qy x y h.down fun z_ z_=>.i⟩
  | .FloorDiv=>(dr a).bind fun x=>(dr b).bind fun y=>(ay (decide (1≤y.1∧y.1≤1000000))).map fun h=>⟨.i (x.1.fdiv y.1),fun ha hb hq=>by
      obtain ⟨h1,h2⟩:=of_decide_eq_true h.down
      obtain ⟨t,rfl⟩:=x.2 _ _ ha
      obtain ⟨u,rfl⟩:=y.2 _ _ hb
      exact PyProof.Rows.floordiv_int (by exact fun q=>ly .z (.c _ .z) (.c (.k 1) (.v 0) (.c (.v 0) (.k 0) .z)) rfl h1 (oh q)) (hq _ _ .i) (Or.inl (PyProof.noPylong_small (by exact we (ax .z (.c _ .z) (.c (.v 0) (.k 1000000) .z) (.a (.v 0) (.k 1)) (.u (.k 1073741824)) rfl h2) (ax .z (.c _ .z) (.c (.k 1) (.v 0) .z) (.a (.g (.v 0)) (.k 1)) (.u (.k 1073741824)) rfl h1))))⟩
  | .Mod=>(dr a).bind fun x=>(dr b).bind fun y=>(ay (decide (0<y.1))).map fun h=>⟨.z (Int.ofNat (Int.fmod x.1 y.1).toNat) (y.1.toNat - 1) (by
      have h:=of_decide_eq_true h.down
      rw [Int.fmod_eq_emod_of_nonneg _ (by exact ax .z (.c _ .z) (.c (.a (.k 0) (.k 1)) (.v 0) .z) (.k 0) (.v 0) rfl h)]
      have h1:=Int.emod_nonneg x.1 (by exact fun q=>ly .z (.c _ .z) (.c (.a (.k 0) (.k 1)) (.v 0) (.c (.v 0) (.k 0) .z)) rfl h (oh q):y.1≠0)
      have h2:=Int.emod_lt_of_pos x.1 h
      show (Int.toNat (x.1 % y.1))≤_
      exact kN (.c _ (.c _ (.c _ .z))) (.c _ (.c _ .z)) (.c (.a (.v 1) (.k 1)) (.v 0) (.c (.u (.v 0)) (.v 1) (.u (.v 2) (.a (.v 1) (.k 1)) (.c (.v 0) (.u (.v 2)) .z)))) (.v 0) (.v 1) rfl h2 (rD (ax .z (.c _ .z) (.c (.k 0) (.v 0) .z) (.k 0) (.v 0) rfl h1)) (f5 _ _) (Int.self_le_toNat _)),fun ha hb hq=>by
      have h:=of_decide_eq_true h.down
      obtain ⟨t,rfl⟩:=x.2 _ _ ha
      obtain ⟨u,rfl⟩:=y.2 _ _ hb
      refine PyProof.Rows.mod_int (by exact fun q=>ly .z (.c _ .z) (.c (.a (.k 0) (.k 1)) (.v 0) (.c (.v 0) (.k 0) .z)) rfl h (oh q)) ?_
      have e:Int.fmod x.1 y.1=Int.ofNat (Int.fmod x.1 y.1).toNat:=(Int.toNat_of_nonneg (by rw [Int.fmod_eq_emod_of_nonneg _ (by exact ax .z (.c _ .z) (.c (.a (.k 0) (.k 1)) (.v 0) .z) (.k 0) (.v 0) rfl h)]; exact Int.emod_nonneg _ (by exact fun q=>ly .z (.c _ .z) (.c (.a (.k 0) (.k 1)) (.v 0) (.c (.v 0) (.k 0) .z)) rfl h (oh q)))).symm
      rw [e]
      exact hq _ _ .z⟩
  | _=>none
variable {r:FnR} {σ σ1 σ2 σ3:Sy}
theorem ed {x:Str} {ps:Pos} {u:SV} (h:σ.loc.lookup x=some u) (hk:dX (aa r 0) x=true):af c n σ (fun L=>eval (.Name x ps) (aa r L)) (fun ρ y=>VR ρ u y) σ:=fun f v tk Q ok S hq=>by
  obtain ⟨y,h1,h2⟩:=S.lv x u h
  exact dj (env:=aa r f.L) S.fr h1 (hq y v tk (List.prefix_refl _) h2 S) hk
theorem lh {x:Str} {ps:Pos} {u:SV} (h:c.k.gl.lookup x=some u) (hk:fQ (aa r 0) x=true):af c n σ (fun L=>eval (.Name x ps) (aa r L)) (fun ρ y=>VR ρ u y) σ:=fun f v tk Q ok S hq=>by
  obtain ⟨y,h1,h2,h3⟩:=c.hk.gl x u h
  exact nQ (env:=aa r f.L) S.fr ok.X (topRead_of ok.T) h1 h3 (hq y v tk (List.prefix_refl _) (mW h2) S) hk
noncomputable def sP (k:Const):Option { u:SV // ∀ {n r σ i ps},af c n σ (fun L=>eval (.Constant k i ps) (aa r L)) (fun ρ y=>VR ρ u y) σ }:=match k with
  | .int x=>some ⟨.i x,fun f v tk Q ok S hq=>wpAny_Constant_int (hq _ v _ (List.prefix_refl _) ⟨_,rfl⟩ S)⟩
  | .str x=>some ⟨.t x,fun f v tk Q ok S hq=>Calls.Constant_str (hq _ v _ (List.prefix_refl _) ⟨_,rfl⟩ S)⟩
  | .bytes x=>some ⟨.b x.toArray,fun f v tk Q ok S hq=>PySem.W.Constant_bytes (hq _ v _ (List.prefix_refl _) ⟨_,rfl⟩ S)⟩
  | .bool x=>some ⟨.o x,fun f v tk Q ok S hq=>PyProof.Rows.Constant_bool (hq _ v _ (List.prefix_refl _) rfl S)⟩
  | .none=>some ⟨.n,fun f v tk Q ok S hq=>PyProof.Rows.Constant_none (hq _ v _ (List.prefix_refl _) rfl S)⟩
  | _=>none
noncomputable def gn (c:Ct) (σ:Sy) (u:SV) (a:Str) (r:SV):Prop:=∀ {f:Fx} {v:Vr} {tk:Nat} {Q:Value→Shared→Prop} {x:Value} {ex:Bool},(Mine.hd.heap_1 c.w.params).In f.h₀→St c f v σ→VR v.ρ u x→(∀ y tk',VR v.ρ r y→Q y (f.sh v.h tk'))→wpAny (model PG c.w) f.A (getAttr x a ex) Q f.E (f.sh v.h tk)
theorem St.inst {f:Fx} {v:Vr} {u:SV} {i C d m:Nat} {es:List (Str×SV)} {q q':SO} {x:Value} (S:St c f v σ) (hu:u=.s i) (hq:σ.look i=some q) (hC:q=.I C d) (hq':σ.look d=some q') (hD:q'=.D es m) (hv:VR v.ρ u x) :
    ∃ ad dd es',x=.ref ad∧(ad,instObj C dd)∈v.Rf++v.R1∧(dd,dictOf es' m)∈v.Rf++v.R1∧ER v.ρ c.w.params es es':=by
  rw [hu] at hv
  obtain ⟨ad,ha,rfl⟩:=hv
  obtain ⟨a1,o1,g1,m1,r1⟩:=S.look hq
  obtain ⟨a2,o2,g2,m2,r2⟩:=S.look hq'
  obtain rfl:=Option.some.inj (ha.symm.trans g1)
  rw [hC] at r1
  rw [hD] at r2
  obtain ⟨d,hd,rfl⟩:=r1
  obtain rfl:=Option.some.inj (hd.symm.trans g2)
  obtain ⟨es',hE,rfl⟩:=r2
  exact ⟨_,_,es',rfl,m1,m2,hE⟩
noncomputable def uo (σ:Sy) (u:SV) (a:Str):Option { r:SV // gn c σ u a r }:=
  (cI u).bind fun i=>(bR (σ.look i.1)).bind fun q=>(nD q.1).bind fun C=>(bR (σ.look C.1.2)).bind fun q'=>(ww q'.1).bind fun es=>(ay (c.k.at_.contains (C.1.1,a))).bind fun hc=>(bR (es.1.1.lookup a)).bind fun w=>(handed w.1).map fun hh=>⟨w.1,fun X S hv hq=>by
    obtain ⟨ad,dd,es',rfl,m1,m2,hE⟩:=S.inst i.2 q.2 C.2 q'.2 es.2 hv
    obtain ⟨v',hv',hl⟩:=hE.get w.2
    exact nB S.fr X S.nw m1 m2 ⟨c.hk.at_ _ _ (List.contains_iff_mem.mp hc.down),⟨_,_,rfl,hl⟩,hh.down _ _ hv'⟩ (hq _ _ hv')⟩
theorem pZ {y:PySem.Expr} {a:Str} {ps:Pos} {u w:SV} (h1:af c n σ (fun L=>eval y (aa r L)) (fun ρ x=>VR ρ u x) σ1) (h2:gn c σ1 u a w)
    (he:∀ env:Env,eval (.Attribute y a ps) env=(do
      let o ← eval y env
      standAt ps.atName
      let r ← holding [o] (getAttr o a true)
      letTemporaryGo y o r
      pure r)):af c n σ (fun L=>eval (.Attribute y a ps) (aa r L)) (fun ρ x=>VR ρ w x) σ1:=fun f v tk Q ok S hq=>
  PyProof.Rows.Attribute_any_ (h1 f v tk _ ok S fun x v1 t1 p1 q1 S1=>h2 ok.X S1 q1 fun y tk' hy=>hq y v1 tk' p1 hy S1) (he _)
theorem jE {x y:PySem.Expr} {op:Operator} {ps:Pos} {a b u:SV} (h1:af c n σ (fun L=>eval x (aa r L)) (fun ρ x=>VR ρ a x) σ1) (h2:af c n σ1 (fun L=>eval y (aa r L)) (fun ρ x=>VR ρ b x) σ2) (h3:fB c op a b u) :
    af c n σ (fun L=>eval (.BinOp x op y ps) (aa r L)) (fun ρ x=>VR ρ u x) σ2:=fun f v tk Q ok S hq=>
  wpAny_BinOp (h1 f v tk _ ok S fun x v1 t1 p1 q1 S1=>h2 f v1 t1 _ ok S1 fun y v2 t2 p2 q2 S2=>h3 (q1.up p2) q2 fun z tk hz=>hq z v2 tk (p1.trans p2) hz S2)
noncomputable def ce (c:Ct) (op:CmpOp) (σ:Sy) (a b:SV) (r:Bool):Prop:=∀ {f:Fx} {v:Vr} {tk:Nat} {Q:Value→Shared→Prop} {x y:Value},(Mine.hd.heap_1 c.w.params).In f.h₀→St c f v σ→VR v.ρ a x→VR v.ρ b y→(∀ tk',Q (.bool r) (f.sh v.h tk'))→wpAny (model PG c.w) f.A (compareOp op x y) Q f.E (f.sh v.h tk)
theorem lE {x y:PySem.Expr} {op:CmpOp} {ps:Pos} {a b:SV} {u:Bool} (h1:af c n σ (fun L=>eval x (aa r L)) (fun ρ x=>VR ρ a x) σ1) (h2:af c n σ1 (fun L=>eval y (aa r L)) (fun ρ x=>VR ρ b x) σ2) (h3:ce c op σ2 a b u) (hm:behindInMarks op y=false) :
    af c n σ (fun L=>eval (.Compare x [op] [y] ps) (aa r L)) (fun ρ x=>VR ρ (.o u) x) σ2:=fun f v tk Q ok S hq=>
  wpAny_Compare1 (h1 f v tk _ ok S fun x v1 t1 p1 q1 S1=>h2 f v1 t1 _ ok S1 fun y v2 t2 p2 q2 S2=>h3 ok.X S2 (q1.up p2) q2 fun t'=>hq _ v2 t' (p1.trans p2) rfl S2) hm
theorem ke {x y:PySem.Expr} {op:CmpOp} {ps:Pos} {a b:SV} {u:Bool} (h1:af c n σ (fun L=>eval x (aa r L)) (fun ρ x=>VR ρ a x) σ1) (h2:af c n σ1 (fun L=>eval y (aa r L)) (fun ρ x=>VR ρ b x) σ2) (h3:ce c op σ2 a b u) (hm:behindInMarks op y=false) :
    af c n σ (fun L=>isTrue (.Compare x [op] [y] ps) (aa r L) (eval (.Compare x [op] [y] ps) (aa r L))) (fun _ x=>x=u) σ2:=fun f v tk Q ok S hq=>
  wpAny_isTrue_Compare1 (h1 f v tk _ ok S fun x v1 t1 p1 q1 S1=>h2 f v1 t1 _ ok S1 fun y v2 t2 p2 q2 S2=>h3 ok.X S2 (q1.up p2) q2 fun t'=>wpAny_truthy_bool (hq _ v2 t' (p1.trans p2) rfl S2)) hm
noncomputable def ef (c:Ct) (σ:Sy) (a b r:SV):Prop:=∀ {f:Fx} {v:Vr} {tk:Nat} {Q:Value→Shared→Prop} {x y:Value} {value slice:PySem.Expr},(Mine.hd.heap_1 c.w.params).In f.h₀→St c f v σ→VR v.ρ a x→VR v.ρ b y→(∀ z tk',VR v.ρ r z→Q z (f.sh v.h tk'))→(∀ x y,subscripted slice false x y=operate [x,y] (getItem x y))→wpAny (model PG c.w) f.A (subscriptTail value slice x y) Q f.E (f.sh v.h tk)
theorem aC.get {ρ:List Addr} {vs:List SV}:∀ {xs:List Value},aC ρ vs xs→∀ {j:Nat} {v:SV},vs[j]?=some v→∃ x,xs[j]?=some x∧VR ρ v x:=by
  induction vs with
  | nil=>intro xs _ j v e; cases e
  | cons u vs ih=>
    rintro xs ⟨x,r,rfl,a,b⟩ j v e
    cases j with
    | zero=>cases e; exact ⟨x,rfl,a⟩
    | succ j=>exact ih b e
noncomputable def itC (σ:Sy) (a b:SV) (vs:List SV) (ho:∀ {f:Fx} {v:Vr} {x:Value},St c f v σ→VR v.ρ a x→∃ d xs,x=.ref d∧aC v.ρ vs xs∧(IsTup v.h d xs.toArray∨v.h.IsList d xs.toArray)):Option { r:SV // ef c σ a b r }:=
  (dr b).bind fun j=>(ay (decide (0≤j.1∧j.1≤1000))).bind fun hj=>(bR (vs[j.1.toNat]?)).map fun u=>⟨u.1,fun X S ha hb hq hs=>by
    obtain ⟨d,xs,rfl,hv,ht⟩:=ho S ha
    obtain ⟨t,rfl⟩:=j.2 _ _ hb
    obtain ⟨z,e1,e2⟩:=hv.get u.2
    have hj:=of_decide_eq_true hj.down
    have hlt:=(List.getElem?_eq_some_iff.mp e1).1
    rcases ht with ht | ht
    · exact tail_any ht.typeIs slot_tuple_getitem.lookup (PyProof.Rows.getItem_tuple (j:=j.1.toNat) ht (by exact ax .z (.c _ .z) (.c (.k 0) (.v 0) .z) (.g (.k 9223372036854775808)) (.v 0) rfl hj.1) (by exact ax .z (.c _ .z) (.c (.v 0) (.k 1000) .z) (.a (.v 0) (.k 1)) (.k 9223372036854775808) rfl hj.2) (by unfold seqIndex?; rw [List.size_toArray]; simp; omega) (by simpa using e1) (hq z _ e2)) (hs _ _)
    · exact tail_any ht.typeIs slot_list_getitem.lookup (PyProof.Rows.getItem_listL ht (by exact ax .z (.c _ .z) (.c (.k 0) (.v 0) .z) (.k 0) (.v 0) rfl hj.1) (by exact ax .z (.c _ .z) (.c (.v 0) (.k 1000) .z) (.a (.v 0) (.k 1)) (.k 9223372036854775808) rfl hj.2) (by simpa using e1) (hq z _ e2)) (hs _ _)⟩
structure wg (vs:List SV) where
  xs:List Int
  b:Nat
  h:∀ j,(xs.getD j 0).natAbs≤b
  len:xs.length=vs.length
  ok:∀ ρ ys,aC ρ vs ys→∀ (j:Nat) y,ys[j]?=some y→∃ t,y=.int (xs.getD j 0) t
noncomputable def allInts (vs:List SV):Option (wg vs):=List.rec (motive:=fun vs=>Option (wg vs)) (some ⟨[],0,fun z_=>Nat.le_refl _,rfl,fun ρ ys h j y e=>by obtain rfl:ys=[]:=h; cases e⟩)
  (fun v vs ih=>(dr v).bind fun x=>ih.map fun r=>⟨x.1::r.xs,x.1.natAbs+r.b,fun j=>by cases j with | zero=>exact Nat.le_add_right _ _ | succ j=>exact Nat.le_trans (r.h j) (Nat.le_add_left _ _),congrArg (·+1) r.len,fun ρ ys ⟨y,r',e,h1,h2⟩ j z hz=>by
    subst e
    cases j with
    | zero=>cases hz; exact x.2 _ _ h1
    | succ j=>exact r.ok _ _ h2 j z hz⟩) vs
noncomputable def vA (n:Int):Option { m:Nat // n=(m:Int) }:=Int.rec (motive:=fun n=>Option { m:Nat // n=(m:Int) }) (fun m=>some ⟨m,rfl⟩) (fun z_=>none) n
noncomputable def xR (σ:Sy) (a b:SV) (vs:List SV) (ho:∀ {f:Fx} {v:Vr} {x:Value},St c f v σ→VR v.ρ a x→∃ d xs,x=.ref d∧aC v.ρ vs xs∧v.h.IsList d xs.toArray):Option { r:SV // ef c σ a b r }:=
  (qC b).bind fun z=>(vA z.n).bind fun m=>(ay (Nat.blt z.b vs.length&&Nat.ble vs.length 1000)).bind fun hb=>(allInts vs).map fun r=>⟨.z (r.xs.getD m.1 0) r.b (r.h m.1),fun X S ha hy hq hs=>by
    obtain ⟨d,xs,rfl,hv,ht⟩:=ho S ha
    obtain ⟨t,rfl⟩:=z.ok _ _ hy
    obtain ⟨h1,h2⟩:=bA.mp hb.down
    have h1:=Nat.le_of_ble_eq_true h1
    have h2:=Nat.le_of_ble_eq_true h2
    have h3:=z.h
    have h4:=m.2
    have h5:=hv.len
    have hlt:m.1<xs.length:=by omega
    have h6:z.n.toNat=m.1:=by exact Nat.le_antisymm (kN (.c _ (.c _ .z)) (.c _ .z) (.c (.v 0) (.u (.v 0)) (.c (.u (.v 1)) (.v 0) .z)) (.v 1) (.v 0) rfl (oh h4) (rD (ax (.c _ .z) (.c _ .z) (.c (.u (.v 0)) (.v 0) .z) (.k 0) (.v 0) rfl (wR h4)))) (kN (.c _ (.c _ .z)) (.c _ .z) (.c (.u (.v 0)) (.v 0) (.c (.v 0) (.u (.v 1)) .z)) (.v 0) (.v 1) rfl (wR h4) (Int.self_le_toNat _))
    obtain ⟨u,e⟩:=r.ok _ _ hv m.1 xs[m.1] (List.getElem?_eq_getElem hlt)
    exact tail_any ht.typeIs slot_list_getitem.lookup (PyProof.Rows.getItem_listL (x:=xs[m.1]) ht (by exact ax (.c _ .z) (.c _ .z) (.c (.u (.v 0)) (.v 0) .z) (.k 0) (.v 0) rfl (wR h4)) (by exact ax (.c _ (.c _ (.c _ .z))) (.c _ .z) (.u (.v 0) (.k 1000) (.c (.v 0) (.u (.v 1)) (.u (.v 2) (.v 0) (.u (.a (.v 1) (.k 1)) (.v 2) .z)))) (.a (.v 0) (.k 1)) (.k 9223372036854775808) rfl h2 (oh h4) (cr h5) hlt) (by rw [h6]; exact List.getElem?_eq_getElem hlt) (hq _ _ (by rw [e]; exact .z))) (hs _ _)⟩
noncomputable def wt (σ:Sy) (a b:SV):Option { r:SV // ef c σ a b r }:=(wZ a).elim
  ((cI a).bind fun i=>(bR (σ.look i.1)).bind fun q=>(gQ q.1).elim
    ((dH q.1).bind fun vs=>
      have ho:∀ {f:Fx} {v:Vr} {x:Value},St c f v σ→VR v.ρ a x→∃ d xs,x=.ref d∧aC v.ρ vs.1 xs∧v.h.IsList d xs.toArray:=fun S ha=>by
        rw [i.2] at ha
        obtain ⟨d,hd,rfl⟩:=ha
        obtain ⟨a1,o1,g1,m1,r1⟩:=S.look q.2
        obtain rfl:=Option.some.inj (hd.symm.trans g1)
        rw [vs.2] at r1
        obtain ⟨xs,n,hv,rfl⟩:=r1
        exact ⟨_,xs,rfl,hv,⟨_,(S.nw _ m1).1,rfl,n,rfl⟩⟩
      (qC b).elim (itC σ a b vs.1 fun S ha=>(ho S ha).imp fun z_=>Exists.imp fun _ h=>⟨h.1,h.2.1,.inr h.2.2⟩) fun z_=>xR σ a b vs.1 ho)
    fun vs=>itC σ a b vs.1 fun S ha=>by
      rw [i.2] at ha
      obtain ⟨d,hd,rfl⟩:=ha
      obtain ⟨a1,o1,g1,m1,r1⟩:=S.look q.2
      obtain rfl:=Option.some.inj (hd.symm.trans g1)
      rw [vs.2] at r1
      obtain ⟨xs,n,hv,rfl⟩:=r1
      exact ⟨_,xs,rfl,hv,.inl ⟨_,(S.nw _ m1).1,rfl,n,rfl⟩⟩)
  fun fa=>(bR (c.k.tb.lookup fa.1)).bind fun l=>(pC b).bind fun x=>(bR (l.1.lookup x.1)).map fun u=>⟨u.1,fun X S ha hb hq hs=>by
    rw [fa.2] at ha
    rw [x.2] at hb
    obtain rfl:_=Value.ref _:=ha
    obtain ⟨t,rfl⟩:=hb
    obtain ⟨es,n,g1,g2,g3⟩:=c.hk.tb _ _ l.2
    obtain ⟨v',g4,g5⟩:=g3 _ _ u.2
    exact topItem_K S.fr X g1 g2 g4 (hq _ _ (mW g5)) (hs _ _)⟩
theorem ry {x y:PySem.Expr} {ps:Pos} {a b u:SV} (h1:af c n σ (fun L=>eval x (aa r L)) (fun ρ x=>VR ρ a x) σ1) (h2:af c n σ1 (fun L=>eval y (aa r L)) (fun ρ x=>VR ρ b x) σ2) (h3:ef c σ2 a b u) (hs:∀ a b,subscripted y false a b=operate [a,b] (getItem a b)) :
    af c n σ (fun L=>eval (.Subscript x y ps) (aa r L)) (fun ρ x=>VR ρ u x) σ2:=fun f v tk Q ok S hq=>
  PyProof.Rows.Subscript_ (h1 f v tk _ ok S fun x v1 t1 p1 q1 S1=>h2 f v1 t1 _ ok S1 fun y v2 t2 p2 q2 S2=>h3 ok.X S2 (q1.up p2) q2 (fun z tk hz=>hq z v2 tk (p1.trans p2) hz S2) hs)
theorem ml {t x y:PySem.Expr} {ps:Pos} {b:Bool} {u:SV} (h1:af c n σ (fun L=>isTrue t (aa r L) (eval t (aa r L))) (fun _ x=>x=b) σ1) (h2:af c n σ1 (fun L=>eval (cond b x y) (aa r L)) (fun ρ x=>VR ρ u x) σ2) :
    af c n σ (fun L=>eval (.IfExp t x y ps) (aa r L)) (fun ρ x=>VR ρ u x) σ2:=fun f v tk Q ok S hq=>
  PyProof.Rows.IfExp_ (h1 f v tk _ ok S fun b' v1 t1 p1 q1 S1=>by
    subst q1
    have:=h2 f v1 t1 Q ok S1 fun x v2 t2 p2 q2 S2=>hq x v2 t2 (p1.trans p2) q2 S2
    cases b' <;> exact this)
end
end
section
set_option backward.match.sparseCases false
noncomputable section
variable {c:Ct} {n:Nat} {r:FnR} {σ σ1 σ2 σ3:Sy}
theorem and1 {x y:PySem.Expr} {zs:List PySem.Expr} {ps:Pos} {u:SV} (h1:af c n σ (fun L=>eval x (aa r L)) (fun ρ x=>VR ρ (.o true) x) σ1) (h2:af c n σ1 (fun L=>eval (.BoolOp .And (y::zs) ps) (aa r L)) (fun ρ x=>VR ρ u x) σ2) :
    af c n σ (fun L=>eval (.BoolOp .And (x::y::zs) ps) (aa r L)) (fun ρ x=>VR ρ u x) σ2:=fun f v tk Q ok S hq=>
  PyProof.Rows.BoolOp_and (h1 f v tk _ ok S fun x v1 t1 p1 q1 S1=>by
    obtain rfl:x=.bool true:=q1
    exact wpAny_truthy_bool (h2 f v1 t1 Q ok S1 fun x v2 t2 p2 q2 S2=>hq x v2 t2 (p1.trans p2) q2 S2))
theorem and0 {x y:PySem.Expr} {zs:List PySem.Expr} {ps:Pos} (h1:af c n σ (fun L=>eval x (aa r L)) (fun ρ x=>VR ρ (.o false) x) σ1) :
    af c n σ (fun L=>eval (.BoolOp .And (x::y::zs) ps) (aa r L)) (fun ρ x=>VR ρ (.o false) x) σ1:=fun f v tk Q ok S hq=>
  PyProof.Rows.BoolOp_and (h1 f v tk _ ok S fun x v1 t1 p1 q1 S1=>by
    obtain rfl:x=.bool false:=q1
    exact wpAny_truthy_bool (hq _ v1 t1 p1 rfl S1))
theorem or0 {x y:PySem.Expr} {zs:List PySem.Expr} {ps:Pos} {u:SV} (h1:af c n σ (fun L=>eval x (aa r L)) (fun ρ x=>VR ρ (.o false) x) σ1) (h2:af c n σ1 (fun L=>eval (.BoolOp .Or (y::zs) ps) (aa r L)) (fun ρ x=>VR ρ u x) σ2) :
    af c n σ (fun L=>eval (.BoolOp .Or (x::y::zs) ps) (aa r L)) (fun ρ x=>VR ρ u x) σ2:=fun f v tk Q ok S hq=>
  PyProof.Rows.BoolOp_or (h1 f v tk _ ok S fun x v1 t1 p1 q1 S1=>by
    obtain rfl:x=.bool false:=q1
    exact wpAny_truthy_bool (h2 f v1 t1 Q ok S1 fun x v2 t2 p2 q2 S2=>hq x v2 t2 (p1.trans p2) q2 S2))
theorem or1 {x y:PySem.Expr} {zs:List PySem.Expr} {ps:Pos} (h1:af c n σ (fun L=>eval x (aa r L)) (fun ρ x=>VR ρ (.o true) x) σ1) :
    af c n σ (fun L=>eval (.BoolOp .Or (x::y::zs) ps) (aa r L)) (fun ρ x=>VR ρ (.o true) x) σ1:=fun f v tk Q ok S hq=>
  PyProof.Rows.BoolOp_or (h1 f v tk _ ok S fun x v1 t1 p1 q1 S1=>by
    obtain rfl:x=.bool true:=q1
    exact wpAny_truthy_bool (hq _ v1 t1 p1 rfl S1))
theorem tZ {op:BoolOp} {x:PySem.Expr} {ps:Pos} {u:SV} (h1:af c n σ (fun L=>eval x (aa r L)) (fun ρ x=>VR ρ u x) σ1) :
    af c n σ (fun L=>eval (.BoolOp op [x] ps) (aa r L)) (fun ρ x=>VR ρ u x) σ1:=fun f v tk Q ok S hq=>PyProof.Rows.BoolOp_one (h1 f v tk Q ok S hq)
noncomputable def uU (e:Value→Bool) (G:Value→Prop) (one:∀ v,Option { b:Bool // ∀ ρ y,VR ρ v y→e y=b∧G y }) (vs:List SV):Option { r:Bool // ∀ ρ ys,aC ρ vs ys→ys.any e=r∧∀ y∈ys,G y }:=
  List.rec (motive:=fun vs=>Option { r:Bool // ∀ ρ ys,aC ρ vs ys→ys.any e=r∧∀ y∈ys,G y }) (some ⟨false,fun ρ ys h=>by obtain rfl:ys=[]:=h; exact ⟨rfl,fun _ h=>nomatch h⟩⟩)
    (fun v vs ih=>(one v).bind fun b=>ih.map fun r=>⟨b.1||r.1,fun ρ ys ⟨y,r',e,h1,h2⟩=>by
      subst e
      rw [List.any_cons,(b.2 _ _ h1).1,(r.2 _ _ h2).1]
      exact ⟨rfl,fC ⟨(b.2 _ _ h1).2,(r.2 _ _ h2).2⟩⟩⟩) vs
noncomputable def xM (x:Str) (v:Value):Bool:=match v with
  | .str y _=>y==x
  | _=>false
noncomputable def w8 (x:Int) (v:Value):Bool:=match v with
  | .int y _=>y==x
  | _=>false
theorem qS {a b:SV} {i:Nat} {q:SO} {vs:List SV} {e:Value→Bool} {G:Value→Prop} {r:Bool} (hb:b=.s i) (hq:σ.look i=some q) (hv:q=.T vs) (hm:∀ ρ ys,aC ρ vs ys→ys.any e=r∧∀ y∈ys,G y) (hG:∀ ρ x y A s,VR ρ a x→G y→PySem.SeqAt.EqAt A s y x (e y)):ce c .In σ a b r:=by
  intro f v tk Q x y X S ha hy hr
  rw [hb] at hy
  obtain ⟨d,hd,rfl⟩:=hy
  obtain ⟨a1,o,g1,m1,r1⟩:=S.look hq
  obtain rfl:=Option.some.inj (hd.symm.trans g1)
  rw [hv] at r1
  obtain ⟨xs,n,hx,rfl⟩:=r1
  obtain ⟨h1,h2⟩:=hm _ _ hx
  refine PySem.SeqAt.in_tupleAt (items:=xs.toArray) e ⟨_,(S.nw _ m1).1,rfl,n,rfl⟩ (fun z hz=>hG _ _ _ _ _ ha (h2 z (List.mem_toArray.mp hz))) ?_
  rw [List.any_toArray,h1]
  exact hr _
noncomputable def inC (σ:Sy) (a b:SV):Option { r:Bool // ce c .In σ a b r }:=
  (cI b).bind fun i=>(bR (σ.look i.1)).bind fun q=>(gQ q.1).bind fun vs=>(pC a).elim
    ((dr a).bind fun x=>(uU (w8 x.1) (fun y=>∃ n t,y=.int n t) (fun v=>(dr v).map fun y=>⟨y.1==x.1,fun ρ z h=>by obtain ⟨t,rfl⟩:=y.2 _ _ h; exact ⟨rfl,_,_,rfl⟩⟩) vs.1).map fun r=>⟨r.1,qS i.2 q.2 vs.2 r.2 fun ρ z y A s h hg=>by
      obtain ⟨t,rfl⟩:=x.2 _ _ h
      obtain ⟨m,u,rfl⟩:=hg
      exact PySem.SeqAt.EqAt.int_int _ _ _ _⟩)
    fun x=>(uU (xM x.1) (fun y=>∃ n t,y=.str n t) (fun v=>(pC v).map fun y=>⟨y.1==x.1,fun ρ z h=>by rw [y.2] at h; obtain ⟨t,rfl⟩:=h; exact ⟨rfl,_,_,rfl⟩⟩) vs.1).map fun r=>⟨r.1,qS i.2 q.2 vs.2 r.2 fun ρ z y A s h hg=>by
      rw [x.2] at h
      obtain ⟨t,rfl⟩:=h
      obtain ⟨m,u,rfl⟩:=hg
      exact PySem.SeqAt.EqAt.str_str _ _ _ _⟩
theorem St.push {f:Fx} {v:Vr} {h':Heap} {D:Addr} {q:SO} {o:Obj} (S:St c f v σ) (F:Fr f.h₀ f.L h' v.m)
    (N:News f.h₀ f.L h' ((D,o)::(v.Rf++v.R1))) (hD:∀ p∈v.Rf++v.R1,p.1<D) (ho:OR v.ρ c.w.params q o):St c f ⟨v.ρ++[D],(D,o)::v.Rf,v.R1,h',v.m⟩ { σ with fr:=(σ.nx,q)::σ.fr,nx:=σ.nx+1 }:=
  have hp:v.ρ <+: v.ρ++[D]:=⟨_,rfl⟩
  { fr:=F
    lv:=fun x u e=>(S.lv x u e).imp fun y h=>⟨h.1,h.2.up hp⟩
    nw:=N
    lr:=⟨D,o,_,rfl,by rw [← S.nx]; exact List.getElem?_concat_length,ho.up hp,S.lr.up hp⟩
    ol:=fun i q e=>(S.ol i q e).imp fun a=>Exists.imp fun o h=>⟨az hp h.1,h.2.1,h.2.2.up hp⟩
    sb:=S.sb
    wp:=S.wp
    nx:=by rw [List.length_append,S.nx]; rfl
    nd:=List.pairwise_cons.mpr ⟨fun p hp=>Nat.ne_of_gt (hD p (List.mem_append_left _ hp)),S.nd⟩
    up:=fC ⟨fun q hq=>Nat.ne_of_lt (hD q (List.mem_append_right _ hq)),S.up⟩
    ini:=S.ini.trans hp }
theorem St.pushM {f:Fx} {v:Vr} {h':Heap} {D:Addr} {q:SO} {o:Obj} {m':Str→Option Value} {loc':List (Str×SV)} (S:St c f v σ) (F:Fr f.h₀ f.L h' m') (lv:∀ x u,loc'.lookup x=some u→∃ y,m' x=some y∧VR (v.ρ++[D]) u y)
    (N:News f.h₀ f.L h' ((D,o)::(v.Rf++v.R1))) (hD:∀ p∈v.Rf++v.R1,p.1≠D) (ho:OR v.ρ c.w.params q o):St c f ⟨v.ρ++[D],(D,o)::v.Rf,v.R1,h',m'⟩ { σ with loc:=loc',fr:=(σ.nx,q)::σ.fr,nx:=σ.nx+1 }:=
  have hp:v.ρ <+: v.ρ++[D]:=⟨_,rfl⟩
  { fr:=F
    lv:=lv
    nw:=N
    lr:=⟨D,o,_,rfl,by rw [← S.nx]; exact List.getElem?_concat_length,ho.up hp,S.lr.up hp⟩
    ol:=fun i q e=>(S.ol i q e).imp fun a=>Exists.imp fun o h=>⟨az hp h.1,h.2.1,h.2.2.up hp⟩
    sb:=S.sb
    wp:=S.wp
    nx:=by rw [List.length_append,S.nx]; rfl
    nd:=List.pairwise_cons.mpr ⟨fun p hp=>Ne.symm (hD p (List.mem_append_left _ hp)),S.nd⟩
    up:=fC ⟨fun q hq=>hD q (List.mem_append_right _ hq),S.up⟩
    ini:=S.ini.trans hp }
theorem St.lvUp {f:Fx} {v:Vr} {D:Addr} (S:St c f v σ):∀ x u,σ.loc.lookup x=some u→∃ y,v.m x=some y∧VR (v.ρ++[D]) u y:=fun x u e=>(S.lv x u e).imp fun y h=>⟨h.1,h.2.up ⟨_,rfl⟩⟩
theorem St.pushN {f:Fx} {v:Vr} {h':Heap} {D:Addr} {q:SO} {o:Obj} (S:St c f v σ) (F:Fr f.h₀ f.L h' v.m)
    (N:News f.h₀ f.L h' ((D,o)::(v.Rf++v.R1))) (hD:∀ p∈v.Rf++v.R1,p.1≠D) (ho:OR v.ρ c.w.params q o):St c f ⟨v.ρ++[D],(D,o)::v.Rf,v.R1,h',v.m⟩ { σ with fr:=(σ.nx,q)::σ.fr,nx:=σ.nx+1 }:=
  S.pushM F S.lvUp N hD ho
theorem St.pushL {f:Fx} {v:Vr} {h':Heap} {D:Addr} {vs:List SV} {o:Obj} (S:St c f v σ) (F:Fr f.h₀ f.L h' v.m)
    (N:News f.h₀ f.L h' ((D,o)::(v.Rf++v.R1))) (hD:∀ p∈v.Rf++v.R1,p.1≠D) (ho:OR v.ρ c.w.params (.L vs) o):St c f ⟨v.ρ++[D],(D,o)::v.Rf,v.R1,h',v.m⟩ { σ with fr:=(σ.nx,.L vs)::σ.fr,nx:=σ.nx+1 }:=
  S.pushN F N hD ho
theorem St.top {f:Fx} {v:Vr} {D:Addr} (S:St c f v σ):(v.ρ++[D])[σ.nx]?=some D:=by rw [← S.nx]; exact List.getElem?_concat_length
theorem iJ {es:List PySem.Expr} {i:Nat} {pt:Pos} {vs:List SV} (h1:∀ pos,af c n σ (fun L=>spliced (backTo pos (starEach es (aa r L)))) (fun ρ xs=>aC ρ vs xs) σ1) (hl:Nat.ble vs.length 100=true) :
    af c n σ (fun L=>eval (.Tuple es i pt) (aa r L)) (fun ρ x=>VR ρ (.s σ1.nx) x) { σ1 with fr:=(σ1.nx,.T vs)::σ1.fr,nx:=σ1.nx+1 }:=fun f v tk Q ok S hq=>
  PyProof.Rows.Tuple_ (h1 pt f v tk _ ok S fun xs v1 t1 p1 q1 S1=>by
    have hlen:=q1.len
    refine kup_newTuple S1.fr S1.nw (fun D h2' F2 N2 hD=>?_) (by rw [sizeLine_eq]; have:=Nat.le_of_ble_eq_true hl; exact lin (.c _ (.c _ .z)) (.c (.v 1) (.v 0) (.c (.v 0) (.k 100) .z)) (.v 1) (.k 16777216) rfl (cr hlen) this)
    exact hq _ _ _ (p1.trans ⟨_,rfl⟩) ⟨D,S1.top,rfl⟩ (S1.push F2 N2 hD ⟨xs,0,q1,rfl⟩))
theorem sj {es:List PySem.Expr} {pt:Pos} {vs:List SV} (h1:∀ pos,af c n σ (fun L=>spliced (backTo pos (starEach es (aa r L)))) (fun ρ xs=>aC ρ vs xs) σ1) (hl:Nat.ble vs.length 100=true) :
    af c n σ (fun L=>eval (.List es pt) (aa r L)) (fun ρ x=>VR ρ (.s σ1.nx) x) { σ1 with fr:=(σ1.nx,.L vs)::σ1.fr,nx:=σ1.nx+1 }:=fun f v tk Q ok S hq=>
  PyProof.Rows.List_ (h1 pt f v tk _ ok S fun xs v1 t1 p1 q1 S1=>by
    have hlen:=q1.len
    refine PyProof.Rows.newList_N S1.fr S1.nw (fun h2' F2 N2=>?_) (by rw [sizeLine_eq]; have:=Nat.le_of_ble_eq_true hl; exact lin (.c _ (.c _ .z)) (.c (.v 1) (.v 0) (.c (.v 0) (.k 100) .z)) (.v 1) (.k 16777216) rfl (cr hlen) this)
    exact hq _ _ _ (p1.trans ⟨_,rfl⟩) ⟨_,S1.top,rfl⟩ (S1.push F2 N2 (fun p hp=>Heap.lt_size (S1.nw p hp).1) ⟨xs,0,q1,rfl⟩))
theorem s6 {pt:Pos}:af c n σ (fun L=>eval (.Dict [] [] pt) (aa r L)) (fun ρ x=>VR ρ (.s σ.nx) x) { σ with fr:=(σ.nx,.D [] 0)::σ.fr,nx:=σ.nx+1 }:=fun f v tk Q ok S hq=>
  wpAny_Dict_empty (hq _ _ _ ⟨_,rfl⟩ ⟨_,S.top,rfl⟩ (S.push (S.fr.push _) (News.push S.fr S.nw (dictOf [] 0)) (fun p hp=>Heap.lt_size (S.nw p hp).1) ⟨[],rfl,rfl⟩))
theorem uw {x:Str} {pf pc:Pos} {fa:Addr} {u:SV} (h1:af c n σ (fun L=>eval (.Name x pf) (aa r L)) (fun ρ x=>VR ρ (.k fa) x) σ1) (hk:c.k.kp.contains fa=true) (h2:aO c n σ1 fa [] u σ2) :
    af c n σ (fun L=>eval (.Call (.Name x pf) [] [] pc) (aa r L)) (fun ρ x=>VR ρ u x) σ2:=fun f v tk Q ok S hq=>
  wpAny_Call_NameR (h1 f v tk _ ok S fun y v1 t1 p1 q1 S1=>by
    obtain rfl:y=.ref fa:=q1
    exact callWith_K0 (ok.X.keeps S1.fr.keep) (c.hk.kp _ (List.contains_iff_mem.mp hk)) (h2 f v1 t1 [] Q ok S1 rfl fun x v2 t2 p2 q2 S2 _=>hq x v2 t2 (p1.trans p2) q2 S2))
theorem wB {x:Str} {pf pc:Pos} {e:PySem.Expr} {es:List PySem.Expr} {fa:Addr} {vs:List SV} {u:SV} (h1:af c n σ (fun L=>eval (.Name x pf) (aa r L)) (fun ρ x=>VR ρ (.k fa) x) σ1) (hk:c.k.kp.contains fa=true) (hp:br e) (hpl:∀ env pos,(backTo pos (starEach (e::es) env)).any (·.1)=false)
    (hA:∀ pos,af c n σ1 (fun L=>spliced (backTo pos (starEach (e::es) (aa r L)))) (fun ρ xs=>aC ρ vs xs) σ2) (h2:aO c n σ2 fa vs u σ3) :
    af c n σ (fun L=>eval (.Call (.Name x pf) (e::es) [] pc) (aa r L)) (fun ρ x=>VR ρ u x) σ3:=fun f v tk Q ok S hq=>
  wpAny_Call_NameR (h1 f v tk _ ok S fun y v1 t1 p1 q1 S1=>by
    obtain rfl:y=.ref fa:=q1
    have hs:=hpl (aa r f.L) pc
    rw [hp.star] at hs
    refine callWith_K ok.X (c.hk.kp _ (List.contains_iff_mem.mp hk)) (hA pc f v1 t1 _ ok S1 fun xs v2 t2 p2 q2 S2=>⟨ok.X.keeps S2.fr.keep,?_⟩) (hp.star _ _) hs
    exact h2 f v2 t2 xs Q ok S2 q2 fun x v3 t3 p3 q3 S3 _=>hq x v3 t3 (p1.trans (p2.trans p3)) q3 S3)
theorem sk {e:PySem.Expr} {b:Bool} (he:∀ (env:Env) (whole:Sem Value),isTrue e env whole=(do let v ← whole; standAt e.pos; holding [v] (truthy v)))
    (h1:af c n σ (fun L=>eval e (aa r L)) (fun ρ x=>VR ρ (.o b) x) σ1):af c n σ (fun L=>isTrue e (aa r L) (eval e (aa r L))) (fun _ x=>x=b) σ1:=fun f v tk Q ok S hq=>
  PyProof.Rows.isTrue_plain (h1 f v tk _ ok S fun y v1 t1 p1 q1 S1=>by
    obtain rfl:y=.bool b:=q1
    exact wpAny_truthy_bool (hq _ v1 t1 p1 rfl S1)) (he _ _)
theorem sO {x:PySem.Expr} {ps:Pos} {b:Bool} (h1:af c n σ (fun L=>isTrue x (aa r L) (eval x (aa r L))) (fun _ y=>y=b) σ1):af c n σ (fun L=>isTrue (.UnaryOp .Not x ps) (aa r L) (eval (.UnaryOp .Not x ps) (aa r L))) (fun _ y=>y=!b) σ1:=fun f v tk Q ok S hq=>
  PyProof.Rows.isTrue_not (h1 f v tk _ ok S fun y v1 t1 p1 q1 S1=>hq _ v1 t1 p1 (congrArg (!·) q1) S1)
theorem qG {x:PySem.Expr} {xs:List PySem.Expr} {ps:Pos} {b:Bool} (h1:af c n σ (fun L=>isTrue x (aa r L) (eval x (aa r L))) (fun _ y=>y=true) σ1) (h2:af c n σ1 (fun L=>isTrue (.BoolOp .And xs ps) (aa r L) (eval (.BoolOp .And xs ps) (aa r L))) (fun _ y=>y=b) σ2) :
    af c n σ (fun L=>isTrue (.BoolOp .And (x::xs) ps) (aa r L) (eval (.BoolOp .And (x::xs) ps) (aa r L))) (fun _ y=>y=b) σ2:=fun f v tk Q ok S hq=>
  PyProof.Rows.isTrue_and (h1 f v tk _ ok S fun y v1 t1 p1 q1 S1=>by
    subst q1
    exact h2 f v1 t1 Q ok S1 fun x v2 t2 p2 q2 S2=>hq x v2 t2 (p1.trans p2) q2 S2)
theorem re {x:PySem.Expr} {xs:List PySem.Expr} {ps:Pos} (h1:af c n σ (fun L=>isTrue x (aa r L) (eval x (aa r L))) (fun _ y=>y=false) σ1) :
    af c n σ (fun L=>isTrue (.BoolOp .And (x::xs) ps) (aa r L) (eval (.BoolOp .And (x::xs) ps) (aa r L))) (fun _ y=>y=false) σ1:=fun f v tk Q ok S hq=>
  PyProof.Rows.isTrue_and (h1 f v tk _ ok S fun y v1 t1 p1 q1 S1=>by
    subst q1
    exact hq _ v1 t1 p1 rfl S1)
theorem kQ {x:PySem.Expr} {xs:List PySem.Expr} {ps:Pos} {b:Bool} (h1:af c n σ (fun L=>isTrue x (aa r L) (eval x (aa r L))) (fun _ y=>y=false) σ1) (h2:af c n σ1 (fun L=>isTrue (.BoolOp .Or xs ps) (aa r L) (eval (.BoolOp .Or xs ps) (aa r L))) (fun _ y=>y=b) σ2) :
    af c n σ (fun L=>isTrue (.BoolOp .Or (x::xs) ps) (aa r L) (eval (.BoolOp .Or (x::xs) ps) (aa r L))) (fun _ y=>y=b) σ2:=fun f v tk Q ok S hq=>
  PyProof.Rows.isTrue_or (h1 f v tk _ ok S fun y v1 t1 p1 q1 S1=>by
    subst q1
    exact h2 f v1 t1 Q ok S1 fun x v2 t2 p2 q2 S2=>hq x v2 t2 (p1.trans p2) q2 S2)
theorem xq {x:PySem.Expr} {xs:List PySem.Expr} {ps:Pos} (h1:af c n σ (fun L=>isTrue x (aa r L) (eval x (aa r L))) (fun _ y=>y=true) σ1) :
    af c n σ (fun L=>isTrue (.BoolOp .Or (x::xs) ps) (aa r L) (eval (.BoolOp .Or (x::xs) ps) (aa r L))) (fun _ y=>y=true) σ1:=fun f v tk Q ok S hq=>
  PyProof.Rows.isTrue_or (h1 f v tk _ ok S fun y v1 t1 p1 q1 S1=>by
    subst q1
    exact hq _ v1 t1 p1 rfl S1)
theorem wI {ps:Pos}:af c n σ (fun L=>isTrue (.BoolOp .And [] ps) (aa r L) (eval (.BoolOp .And [] ps) (aa r L))) (fun _ y=>y=true) σ:=fun f v tk Q ok S hq=>PyProof.Rows.isTrue_and_nil (hq _ v tk (List.prefix_refl _) rfl S)
theorem wo {ps:Pos}:af c n σ (fun L=>isTrue (.BoolOp .Or [] ps) (aa r L) (eval (.BoolOp .Or [] ps) (aa r L))) (fun _ y=>y=false) σ:=fun f v tk Q ok S hq=>PyProof.Rows.isTrue_or_nil (hq _ v tk (List.prefix_refl _) rfl S)
theorem mG (pos:Pos):af c n σ (fun L=>spliced (backTo pos (starEach [] (aa r L)))) (fun ρ xs=>aC ρ [] xs) σ:=fun f v tk Q ok S hq=>PyProof.Rows.args_nil (hq _ v tk (List.prefix_refl _) rfl S)
theorem gV {x:PySem.Expr} {xs:List PySem.Expr} {u:SV} {us:List SV} (hp:br x) (h1:af c n σ (fun L=>eval x (aa r L)) (fun ρ y=>VR ρ u y) σ1) (h2:∀ pos,af c n σ1 (fun L=>spliced (backTo pos (starEach xs (aa r L)))) (fun ρ ys=>aC ρ us ys) σ2) (pos:Pos) :
    af c n σ (fun L=>spliced (backTo pos (starEach (x::xs) (aa r L)))) (fun ρ ys=>aC ρ (u::us) ys) σ2:=fun f v tk Q ok S hq=>
  PyProof.Rows.args_cons (h1 f v tk _ ok S fun y v1 t1 p1 q1 S1=>h2 pos f v1 t1 _ ok S1 fun ys v2 t2 p2 q2 S2=>hq _ v2 t2 (p1.trans p2) ⟨y,ys,rfl,q1.up p2,q2⟩ S2) (hp.star _ _)
theorem plN (env:Env) (pos:Pos):(backTo pos (starEach [] env)).any (·.1)=false:=rfl
theorem plC {x:PySem.Expr} {xs:List PySem.Expr} (hp:br x) (h:∀ env pos,(backTo pos (starEach xs env)).any (·.1)=false) (env:Env) (pos:Pos):(backTo pos (starEach (x::xs) env)).any (·.1)=false:=by
  have:=h env pos
  rw [hp.star]
  unfold backTo at this ⊢
  simpa using this
end
end
section
noncomputable section
section
variable (ρ:List Addr)
noncomputable def AL:List (Str×SV)→List (Str×Value)→Prop
  | [],l'=>l'=[]
  | q::l,l'=>∃ y r,l'=(q.1,y)::r∧VR ρ q.2 y∧AL l r
end
section
variable {ρ:List Addr}
theorem AL.look {z:Str} {u:SV} {l:List (Str×SV)}:∀ {l':List (Str×Value)},AL ρ l l'→l.lookup z=some u→∃ y,l'.lookup z=some y∧VR ρ u y:=by
  induction l with
  | nil=>exact fun _ e=>nomatch e
  | cons q l ih=>
    rintro l' ⟨y,r,rfl,a,b⟩ e
    rcases lookHead e with ⟨rfl,rfl⟩ | ⟨hne,e⟩
    · exact ⟨y,by rw [List.lookup_cons,beq_self_eq_true],a⟩
    · exact (ih b e).imp fun _ h=>⟨by rw [List.lookup_cons,hne]; exact h.1,h.2⟩
theorem AL.app {a:List (Str×SV)} {a':List (Str×Value)} (h2:AL ρ a a') {l:List (Str×SV)}:∀ {l':List (Str×Value)},AL ρ l l'→AL ρ (l++a) (l'++a'):=by
  induction l with
  | nil=>exact fun e=>by rw [show _=[] from e]; exact h2
  | cons q l ih=>exact fun ⟨y,r,e,a,b⟩=>by rw [e]; exact ⟨y,_,rfl,a,ih b⟩
theorem AL.rev {l:List (Str×SV)}:∀ {l':List (Str×Value)},AL ρ l l'→AL ρ l.reverse l'.reverse:=by
  induction l with
  | nil=>exact fun e=>by rw [show _=[] from e]; rfl
  | cons q l ih=>exact fun ⟨y,r,e,a,b⟩=>by rw [e,List.reverse_cons,List.reverse_cons]; exact AL.app (show AL ρ [q] [(q.1,y)] from ⟨y,[],rfl,a,rfl⟩) (ih b)
theorem AL.zip {xs:List Str}:∀ {vs:List SV} {ys:List Value},aC ρ vs ys→AL ρ (xs.zip vs) (xs.zip ys):=by
  induction xs with
  | nil=>exact fun z_=>rfl
  | cons x xs ih=>
    intro vs ys h
    cases vs with
    | nil=>rw [show ys=[] from h]; rfl
    | cons v vs=>obtain ⟨y,r,rfl,a,b⟩:=h; exact ⟨y,_,rfl,a,ih b⟩
theorem AL.ofMap {l:List (Str×SV)}:∀ {ys:List Value},aC ρ (l.map (·.2)) ys→AL ρ l ((l.map (·.1)).zip ys):=by
  induction l with
  | nil=>exact fun z_=>rfl
  | cons q l ih=>exact fun ⟨y,r,e,a,b⟩=>by rw [e]; exact ⟨y,_,rfl,a,ih b⟩
end
variable {c:Ct} {n:Nat} {r:FnR} {σ σ1 σ2 σ3:Sy}
theorem dF {env:Env} {x:Str} (hk:dX env x=true):env.scope.kind=.function∧env.kindOf x=some .local:=by
  unfold dX at hk
  obtain ⟨hk,h3⟩:=bA.mp hk
  obtain ⟨h1,h2⟩:=bA.mp hk
  exact ⟨by simpa using h1,by simpa using h2⟩
theorem eJ {x:Str} {u:SV} (hx:dX (aa r 0) x=true) {f:Fx} {v:Vr} {tk:Nat} {Q:Unit→Shared→Prop} {y:Value} (S:St c f v σ) (hu:VR v.ρ u y)
    (hq:∀ v' tk',v'.ρ=v.ρ→St c f v' { σ with loc:=put x u σ.loc }→Q () (f.sh v'.h tk')):wpAny (model PG c.w) f.A (storeName (aa r f.L) x y) Q f.E (f.sh v.h tk):=by
  obtain ⟨h1,h2⟩:=dF hx
  refine wpAny_storeName_local (env:=aa r f.L) h2 S.fr.ns (fun h' hn hs=>hq ⟨v.ρ,v.Rf,v.R1,h',fun z=>if z=x then some y else v.m z⟩ _ rfl { S with fr:=S.fr.set hn hs,nw:=S.nw.set hs,lv:=fun z w e=>?_ }) ?_
  · show ∃ y',(if z=x then some y else v.m z)=some y'∧_
    rw [eg] at e
    split at e
    · rw [if_pos ‹_›]; cases e; exact ⟨y,rfl,hu⟩
    · rw [if_neg ‹_›]; exact S.lv z w e
  · show (r.scope.kind==.class||(r.scope.kind==.module&&f.L != mainGlobals))=false
    rw [show r.scope.kind=.function from h1]; rfl
noncomputable def l7 (c:Ct) (σ:Sy) (u:SV) (a:Str) (w:SV) (σ':Sy):Prop:=∀ {f:Fx} {v:Vr} {tk:Nat} {Q:Unit→Shared→Prop} {x y:Value},(Mine.hd.heap_1 c.w.params).In f.h₀→St c f v σ→VR v.ρ u x→VR v.ρ w y→(∀ v' tk',v'.ρ=v.ρ→St c f v' σ'→Q () (f.sh v'.h tk'))→wpAny (model PG c.w) f.A (setAttr x a y) Q f.E (f.sh v.h tk)
theorem St.turn {σ:Sy} {i:Nat} {q0 q:SO} {f:Fx} {v:Vr} (S:St c f v σ) (e:σ.fr.lookup i=some q0):∃ (a:Addr) (o:Obj) (g:Obj→List (Addr×Obj)),v.ρ[i]?=some a∧(a,o)∈v.Rf∧OR v.ρ c.w.params q0 o∧UpdF a o (v.Rf++v.R1) (fun o'=>g o'++v.R1)∧
    ∀ {o' h'},OR v.ρ c.w.params q o'→Fr f.h₀ f.L h' v.m→News f.h₀ f.L h' (g o'++v.R1)→St c f ⟨v.ρ,g o',v.R1,h',v.m⟩ { σ with fr:=jB i q σ.fr }:=by
  obtain ⟨a,o,ha,hm,ho⟩:=S.lr.get e
  obtain ⟨g,U,hl⟩:=LR.set (q:=q) ha S.lr S.nd e hm
  refine ⟨a,o,g,ha,hm,ho,lH U (S.up _ hm),fun ho' F' N'=>{ S with fr:=F',nw:=N',lr:=hl _ ho',nd:=?_,up:=fun p hp q hq=>?_ }⟩
  · have:(v.Rf.map (·.1)).Pairwise (·≠·):=List.pairwise_map.mpr S.nd
    rw [← fG U] at this
    exact List.pairwise_map.mp this
  · have:p.1∈v.Rf.map (·.1):=by rw [← fG U]; exact List.mem_map_of_mem hp
    obtain ⟨p',hp',e⟩:=List.mem_map.mp this
    rw [← e]
    exact S.up p' hp' q hq
theorem rk {σ:Sy} {i C d n:Nat} {a:Str} {w:SV} {es:List (Str×SV)} {q q':SO} (hq:σ.look i=some q) (hC:q=.I C d) (hq':σ.fr.lookup d=some q') (hD:q'=.D es n) (hc:c.k.st.contains (C,a)=true) (hl:Nat.ble es.length 100=true) :
    l7 c σ (.s i) a w { σ with fr:=jB d (.D (put a w es) (cond (es.lookup a).isSome n (n+1))) σ.fr }:=by
  rintro f v tk Q x y X S ⟨ad,ha,rfl⟩ hw hk
  obtain ⟨a1,o1,g1,m1,r1⟩:=S.look hq
  obtain ⟨a2,o2,g,g2,m2,r2,U,hS⟩:=S.turn (q:=.D (put a w es) (cond (es.lookup a).isSome n (n+1))) hq'
  obtain rfl:=Option.some.inj (ha.symm.trans g1)
  rw [hC] at r1
  rw [hD] at r2
  obtain ⟨d',hd,rfl⟩:=r1
  obtain rfl:=Option.some.inj (hd.symm.trans g2)
  obtain ⟨es',hE,rfl⟩:=r2
  have ok:=c.hk.st _ _ (List.contains_iff_mem.mp hc)
  unfold kl at ok
  obtain ⟨ok,o4⟩:=bA.mp ok
  obtain ⟨ok,o3⟩:=bA.mp ok
  obtain ⟨o1,o2⟩:=bA.mp ok
  have hE2:=hE.put (x:=a) (t:=(f.sh v.h tk).toks+1) hw
  have hN:cond (es.lookup a).isSome n (n+1)=putN a es' n:=by
    unfold putN
    rw [hE.any]
    cases es'.any (·.key.isStr a) <;> rfl
  refine set_dict S.fr X S.nw (InstAt.of_news S.nw m1 (List.mem_append_left _ m2)) rfl (beq_iff_eq.mp o1) o2 (beq_iff_eq.mp o3) o4 hE.some rfl (mQ U) ?_ fun h' F' N'=>hk ⟨v.ρ,_,v.R1,h',v.m⟩ _ rfl (hS ⟨_,hE2,by rw [hN]⟩ F' N')
  have e1:=hE2.len
  have e2:=qh (x:=a) (v:=w) es
  have e3:=Nat.le_of_ble_eq_true hl
  exact lin (.c _ (.c _ (.c _ .z))) (.c (.v 1) (.v 0) (.c (.v 0) (.a (.v 2) (.k 1)) (.c (.v 2) (.k 100) .z))) (.v 1) (.k 1000) rfl (cr e1) e2 e3
noncomputable def xU (σ:Sy) (u:SV) (a:Str) (w:SV):Option { σ':Sy // l7 c σ u a w σ' }:=
  (cI u).bind fun i=>(bR (σ.look i.1)).bind fun q=>(nD q.1).bind fun C=>(bR (σ.fr.lookup C.1.2)).bind fun q'=>(ww q'.1).bind fun es=>(ay (c.k.st.contains (C.1.1,a))).bind fun hc=>(ay (Nat.ble es.1.1.length 100)).map fun hl=>
    ⟨_,by rw [i.2]; exact rk q.2 C.2 q'.2 es.2 hc.down hl.down⟩
theorem oV:af c n σ (fun L=>execs [] (aa r L)) (ak none) σ:=fun f v tk Q ok S hq=>wpAny_execs_nil (hq _ v tk (List.prefix_refl _) rfl S)
theorem ny {e:PySem.Expr} {ps:Pos} {rest:List Stmt} {u:SV} (h1:af c n σ (fun L=>eval e (aa r L)) (fun ρ x=>VR ρ u x) σ1):af c n σ (fun L=>execs (.Return (some e) ps::rest) (aa r L)) (ak (some u)) σ1:=fun f v tk Q ok S hq=>
  wpAny_execs_cons (wpAny_Return_some (h1 f v tk _ ok S fun x v1 t1 p1 q1 S1=>hq (.ret x) v1 t1 p1 ⟨x,rfl,q1⟩ S1))
theorem qH {x:Str} {px ps:Pos} {e:PySem.Expr} {rest:List Stmt} {u:SV} {res:Option SV} (hp:dy e) (hx:dX (aa r 0) x=true) (h1:af c n σ (fun L=>eval e (aa r L)) (fun ρ x=>VR ρ u x) σ1) (h2:af c n { σ1 with loc:=put x u σ1.loc } (fun L=>execs rest (aa r L)) (ak res) σ2) :
    af c n σ (fun L=>execs (.Assign [.Name x px] e ps::rest) (aa r L)) (ak res) σ2:=fun f v tk Q ok S hq=>
  wpAny_execs_cons (wpAny_Assign_Name (h1 f v tk _ ok S fun y v1 t1 p1 q1 S1=>eJ hx S1 q1 fun v2 t2 e2 S2=>h2 f v2 t2 _ ok S2 fun z v3 t3 p3 q3 S3=>hq z v3 t3 (p1.trans (e2▸p3)) q3 S3) (hp.swap _ _ _))
theorem wf {y e:PySem.Expr} {a:Str} {pa ps:Pos} {rest:List Stmt} {u w:SV} {res:Option SV} (hp:dy e) (h1:af c n σ (fun L=>eval e (aa r L)) (fun ρ x=>VR ρ w x) σ1) (h2:af c n σ1 (fun L=>eval y (aa r L)) (fun ρ x=>VR ρ u x) σ2) (h3:l7 c σ2 u a w σ3) {σ4:Sy} (h4:af c n σ3 (fun L=>execs rest (aa r L)) (ak res) σ4) :
    af c n σ (fun L=>execs (.Assign [.Attribute y a pa] e ps::rest) (aa r L)) (ak res) σ4:=fun f v tk Q ok S hq=>
  wpAny_execs_cons (plainObj_wpAny_Assign_Attribute (h1 f v tk _ ok S fun x v1 t1 p1 q1 S1=>h2 f v1 t1 _ ok S1 fun o v2 t2 p2 q2 S2=>h3 ok.X S2 q2 (q1.up p2) fun v3 t3 e3 S3=>h4 f v3 t3 _ ok S3 fun z v4 t4 p4 q4 S4=>hq z v4 t4 (p1.trans (p2.trans (e3▸p4))) q4 S4) (hp.swap _ _ _))
theorem tD {e:PySem.Expr} {ps:Pos} {rest:List Stmt} {u:SV} {res:Option SV} (hp:dy e) (hk:(r.scope.kind==.function)=true) (h1:af c n σ (fun L=>eval e (aa r L)) (fun ρ x=>VR ρ u x) σ1) (h2:af c n σ1 (fun L=>execs rest (aa r L)) (ak res) σ2) :
    af c n σ (fun L=>execs (.Expr e ps::rest) (aa r L)) (ak res) σ2:=fun f v tk Q ok S hq=>
  wpAny_execs_cons (wpAny_Expr_any (h1 f v tk _ ok S fun x v1 t1 p1 q1 S1=>h2 f v1 t1 _ ok S1 fun z v2 t2 p2 q2 S2=>hq z v2 t2 (p1.trans p2) q2 S2) (by show (r.scope.kind==.module&&_)=false; rw [beq_iff_eq.mp hk]; rfl) (hp.swap _ _ _))
theorem oX {t:PySem.Expr} {x y rest:List Stmt} {ps:Pos} {b:Bool} {u:SV} (h1:af c n σ (fun L=>isTrue t (aa r L) (eval t (aa r L))) (fun _ z=>z=b) σ1) (h2:af c n σ1 (fun L=>execs (cond b x y) (aa r L)) (ak (some u)) σ2) :
    af c n σ (fun L=>execs (.If t x y ps::rest) (aa r L)) (ak (some u)) σ2:=fun f v tk Q ok S hq=>
  wpAny_execs_cons (wpAny_If (h1 f v tk _ ok S fun z v1 t1 p1 q1 S1=>by
    subst q1
    have:=h2 f v1 t1 (fun fl s'=>match fl with | .next=>wpAny (model PG c.w) f.A (execs rest (aa r f.L)) Q f.E s' | fl=>Q fl s') ok S1 fun fl v2 t2 p2 q2 S2=>by
      obtain ⟨x2,rfl,hx2⟩:=q2
      exact hq (.ret x2) v2 t2 (p1.trans p2) ⟨x2,rfl,hx2⟩ S2
    cases z <;> exact this))
theorem oY {t:PySem.Expr} {x y rest:List Stmt} {ps:Pos} {b:Bool} {res:Option SV} (h1:af c n σ (fun L=>isTrue t (aa r L) (eval t (aa r L))) (fun _ z=>z=b) σ1) (h2:af c n σ1 (fun L=>execs (cond b x y) (aa r L)) (ak none) σ2) (h3:af c n σ2 (fun L=>execs rest (aa r L)) (ak res) σ3) :
    af c n σ (fun L=>execs (.If t x y ps::rest) (aa r L)) (ak res) σ3:=fun f v tk Q ok S hq=>
  wpAny_execs_cons (wpAny_If (h1 f v tk _ ok S fun z v1 t1 p1 q1 S1=>by
    subst q1
    have:=h2 f v1 t1 (fun fl s'=>match fl with | .next=>wpAny (model PG c.w) f.A (execs rest (aa r f.L)) Q f.E s' | fl=>Q fl s') ok S1 fun fl v2 t2 p2 q2 S2=>by
      obtain rfl:fl=.next:=q2
      exact h3 f v2 t2 Q ok S2 fun fl v3 t3 p3 q3 S3=>hq fl v3 t3 (p1.trans (p2.trans p3)) q3 S3
    cases z <;> exact this))
theorem cn {res:Option SV} (fok:ai c.w.params r) (hS:af c n σ (fun L=>execs r.body (aa r L)) (ak res) σ1) {f:Fx} {v:Vr} {tk:Nat} {loc:List (Str×SV)} {vs:List SV} {xs:List Value} {R:Result→Shared→Prop} (hd:f.A.handled=none) (hdp:f.A.depth+1+2*n+c.lm≤890) (hun:f.A.units+3+20*n+10*c.lm≤8900)
    (X:(Mine.hd.heap_1 c.w.params).In f.h₀) (T:Top c.p c.loose c.mean c.mg c.mb f.h₀) (S:St c f v { σ with loc:=loc }) (hl:σ.loc=(r.names.zip vs++r.extra).reverse) (hv:aC v.ρ vs xs) (hn:vs.length=r.names.length)
    (hq:∀ x v' tk',v.ρ <+: v'.ρ→VR v'.ρ (res.getD .n) x→St c f v' { σ1 with loc:=loc }→v'.m=v.m→Fr f.h₀ f.L v'.h v.m→But ((v.Rf++v.R1).map (·.1)) v.h v'.h→R (.ok (.ret x)) (f.sh v'.h tk')):codeAny (model PG c.w) f.A (.call (.ref r.a) ⟨xs,[]⟩) R (f.sh v.h tk):=by
  obtain ⟨⟨D,hb⟩,hcd,hok,hcl⟩:=fok
  simp only [Bool.and_eq_true,beq_iff_eq,List.all_eq_true,bne_iff_ne] at hok
  obtain ⟨⟨⟨⟨o1,o2⟩,o3⟩,o4⟩,o5⟩:=hok
  obtain ⟨ex,hx,hbi⟩:=hb (f.sh v.h tk) xs (hv.len▸hn) (X.keeps S.fr.keep)
  have hal:AL v.ρ (r.names.zip vs++r.extra) (r.names.zip xs++(r.extra.map (·.1)).zip ex):=AL.app (AL.ofMap (hx.up ⟨v.ρ,rfl⟩)) (AL.zip hv)
  refine enterC S.fr X S.nw T D.ho hcd (by show f.A.depth<1000; exact lin (.c _ (.c _ (.c _ .z))) (.c (.a (.a (.a (.v 0) (.k 1)) (.m 2 (.v 1))) (.v 2)) (.k 890) .z) (.a (.v 0) (.k 1)) (.k 1000) rfl hdp) hbi (fun y hy=>?_) (fun g L' h₁ FG F' N' st bt X' T' _=>?_) o1 o2 o3 o4
  · refine o5 _ ?_
    rcases List.mem_append.mp hy with q | q
    · exact List.mem_append_left _ (List.of_mem_zip q).1
    · exact List.mem_append_right _ (List.of_mem_zip q).1
  · have he:envOf r.qual r.scope L' r.a (.ref (r.a - 1))=aa r L':=by unfold aa; rw [hcl]; rfl
    rw [he]
    refine hS ⟨f.A.deeper (aa r L'),fun z_ z_=>False,g,L',f.s⟩ ⟨v.ρ,v.Rf,v.R1,h₁,_⟩ _ _ ⟨hd,hdp,hun,X',T'⟩ { S with fr:=F',nw:=N',lv:=fun z u e=>hal.rev.look (hl▸e) } fun fl v1 tk1 p1 q1 S1=>?_
    refine leaveK_ S1.fr S1.nw fun F2 N2=>?_
    have SS:St c f ⟨v1.ρ,v1.Rf,v1.R1,v1.h,v.m⟩ { σ1 with loc:=loc }:={ S1 with fr:=F2,nw:=N2,lv:=fun z u e=>(S.lv z u e).imp fun y h=>⟨h.1,h.2.up p1⟩ }
    cases res with
    | none=>
      obtain rfl:fl=.next:=q1
      exact hq .none ⟨v1.ρ,v1.Rf,v1.R1,v1.h,v.m⟩ tk1 p1 rfl SS rfl F2 (bt.of S1.fr)
    | some u=>
      obtain ⟨x,rfl,hx⟩:=q1
      exact hq x ⟨v1.ρ,v1.Rf,v1.R1,v1.h,v.m⟩ tk1 p1 hx SS rfl F2 (bt.of S1.fr)
theorem uK {g:Addr} {vs:List SV} {res:Option SV} (hf:c.k.fn g vs.length=some r) (hS:af c n { σ with loc:=(r.names.zip vs++r.extra).reverse } (fun L=>execs r.body (aa r L)) (ak res) σ1):aO c (n+1) σ g vs (res.getD .n) { σ1 with loc:=σ.loc }:=fun f v tk xs Q ok S hx hq=>by
  obtain ⟨rfl,hlen,fok⟩:=c.hk.fn _ _ _ hf
  exact wpAny_call (cn fok hS ok.hd (by have:=ok.dp; exact lin (.c _ (.c _ (.c _ .z))) (.c (.a (.a (.v 0) (.m 2 (.a (.v 1) (.k 1)))) (.v 2)) (.k 890) .z) (.a (.a (.a (.v 0) (.k 1)) (.m 2 (.v 1))) (.v 2)) (.k 890) rfl this) (by have:=ok.un; exact lin (.c _ (.c _ (.c _ .z))) (.c (.a (.a (.v 0) (.m 20 (.a (.v 1) (.k 1)))) (.m 10 (.v 2))) (.k 8900) .z) (.a (.a (.a (.v 0) (.k 3)) (.m 20 (.v 1))) (.m 10 (.v 2))) (.k 8900) rfl this) ok.X ok.T S rfl hx hlen.symm fun x v' tk' p q S' e _ _=>hq x v' tk' p q S' e)
theorem sx {C g:Addr} {vs:List SV} (hc:c.k.cl C=some g) (hf:c.k.fn g (vs.length+1)=some r) (hS:af c n { σ with loc:=(r.names.zip (.s (σ.nx+1)::vs)++r.extra).reverse,fr:=(σ.nx+1,.I C σ.nx)::(σ.nx,.D [] 0)::σ.fr,nx:=σ.nx+2 } (fun L=>execs r.body (aa r L)) (ak none) σ1):aO c (n+1) σ C vs (.s (σ.nx+1)) { σ1 with loc:=σ.loc }:=fun f v tk xs Q ok S hx hq=>by
  obtain ⟨rfl,hlen,fok⟩:=c.hk.fn _ _ _ hf
  obtain ⟨c1,c2,c3⟩:=c.hk.cl _ _ hc
  refine call_cls S.fr ok.X S.nw c1 c2 c3 fun x dx h1' F1 N1 l1 l2=>?_
  have S1:=S.push (q:=.D [] 0) F1 (ag N1 fun p hp=>.tail _ hp) l1 ⟨[],rfl,rfl⟩
  have S2:=S1.push (q:=.I C σ.nx) F1 N1 (fC ⟨l2,fun p hp=>Nat.lt_trans (l1 p hp) l2⟩) ⟨dx,S.top,rfl⟩
  have hp:v.ρ <+: (v.ρ++[dx])++[x]:=⟨[dx,x],by simp⟩
  have hs:VR ((v.ρ++[dx])++[x]) (.s (σ.nx+1)) (.ref x):=⟨x,S1.top,rfl⟩
  refine cn (f:={ f with A:=f.A.under (.builtin "type.__call__" ⟨.ref C::xs,[]⟩) }) (v:=⟨(v.ρ++[dx])++[x],(x,instObj C dx)::(dx,dictOf [] 0)::v.Rf,v.R1,h1',v.m⟩) (loc:=σ.loc) (vs:=.s (σ.nx+1)::vs) fok hS ok.hd (by have:=ok.dp; show f.A.depth+1+1+2*n+c.lm≤890; exact lin (.c _ (.c _ (.c _ .z))) (.c (.a (.a (.v 0) (.m 2 (.a (.v 1) (.k 1)))) (.v 2)) (.k 890) .z) (.a (.a (.a (.a (.v 0) (.k 1)) (.k 1)) (.m 2 (.v 1))) (.v 2)) (.k 890) rfl this) (by have:=ok.un; have e:(f.A.under (.builtin "type.__call__" ⟨.ref C::xs,[]⟩)).units=f.A.units+1:=rfl; rw [e]; exact lin (.c _ (.c _ (.c _ .z))) (.c (.a (.a (.v 0) (.m 20 (.a (.v 1) (.k 1)))) (.m 10 (.v 2))) (.k 8900) .z) (.a (.a (.a (.a (.v 0) (.k 1)) (.k 3)) (.m 20 (.v 1))) (.m 10 (.v 2))) (.k 8900) rfl this) ok.X ok.T { S2 with } rfl ⟨.ref x,xs,rfl,hs,hx.up hp⟩ hlen.symm fun y v' tk' p q S' e _ _=>?_
  obtain rfl:y=.none:=q
  exact ⟨rfl,hq (.ref x) v' tk' (hp.trans p) (hs.up p) { S' with } e⟩
end
end
section
noncomputable section
variable {c:Ct} {n:Nat} {r:FnR} {σ σ1 σ2 σ3:Sy}
noncomputable abbrev tL (r:FnR) (ts vs:List PySem.Expr):=(N:List Str) ×' (∀ k p k2 p2 L,swappedStores [.Tuple ts k p] (.Tuple vs k2 p2) (aa r L)=pure (some N))
noncomputable abbrev tL.N {r:FnR} {ts vs:List PySem.Expr} (q:tL r ts vs):List Str:=q.1
theorem tL.ok {r:FnR} {ts vs:List PySem.Expr} (q:tL r ts vs):∀ k p k2 p2 L,swappedStores [.Tuple ts k p] (.Tuple vs k2 p2) (aa r L)=pure (some q.N):=q.2
theorem u7 {ts vs:List PySem.Expr} {N:List Str} (h1:(!(ts.length==2||ts.length==3)||vs.length != ts.length||(aa r 0).blockKind != .function)=false) (h2:(vs.any fun | .Starred ..=>true | _=>false)=false)
    (h3:(ts.filterMap fun | .Name id pos=>if (aa r 0).kindOf id==some .local&&pos.line==(ts.head?.map (·.pos.line)).getD 0 then some id else none | _=>none)=N)
    (h4:(N.length != ts.length||N.eraseDups.length != N.length)=false) (h5:vs.all (foldedForSure 8)=false) (h6:vs.all (constantsAlone 8)=false) (k p k2 p2 L):swappedStores [.Tuple ts k p] (.Tuple vs k2 p2) (aa r L)=pure (some N):=by
  subst h3
  exact (if_neg (Bool.eq_false_iff.mp h1)).trans ((if_neg (Bool.eq_false_iff.mp h2)).trans ((if_neg (Bool.eq_false_iff.mp h4)).trans ((if_neg (Bool.eq_false_iff.mp h5)).trans (if_neg (Bool.eq_false_iff.mp h6)))))
noncomputable def swC (r:FnR) (ts vs:List PySem.Expr):Option (tL r ts vs):=
  (ay (!(!(ts.length==2||ts.length==3)||vs.length != ts.length||(aa r 0).blockKind != .function))).bind fun h1=>(ay (!(vs.any fun | .Starred ..=>true | _=>false))).bind fun h2=>
    let N:=ts.filterMap fun | .Name id pos=>if (aa r 0).kindOf id==some .local&&pos.line==(ts.head?.map (·.pos.line)).getD 0 then some id else none | _=>none
    (ay (!(N.length != ts.length||N.eraseDups.length != N.length))).bind fun h4=>(ay (!(vs.all (foldedForSure 8)))).bind fun h5=>(ay (!(vs.all (constantsAlone 8)))).map fun h6=>
      ⟨N,u7 ((Bool.not_eq_true' _).mp h1.down) ((Bool.not_eq_true' _).mp h2.down) rfl ((Bool.not_eq_true' _).mp h4.down) ((Bool.not_eq_true' _).mp h5.down) ((Bool.not_eq_true' _).mp h6.down)⟩
noncomputable def putAll (l:List (Str×SV)) (loc:List (Str×SV)):List (Str×SV):=List.rec (motive:=fun z_=>List (Str×SV)→List (Str×SV)) (fun loc=>loc) (fun q _ ih loc=>ih (put q.1 q.2 loc)) l loc
theorem pU {l:List (Str×SV)} {f:Fx} {Q:Unit→Shared→Prop}:∀ {σ:Sy} {v:Vr} {tk:Nat} {xs:List Value},(l.all fun q=>dX (aa r 0) q.1)=true→St c f v σ→aC v.ρ (l.map (·.2)) xs→(∀ v' tk',v'.ρ=v.ρ→St c f v' { σ with loc:=putAll l σ.loc }→Q () (f.sh v'.h tk'))→
    wpAny (model PG c.w) f.A (assignInOrder (l.map fun q=>bindName (aa r f.L) q.1) xs) Q f.E (f.sh v.h tk):=by
  induction l with
  | nil=>
    intro σ v tk xs _ S hx hq
    obtain rfl:xs=[]:=hx
    exact PyProof.Rows.assignInOrder_nil (hq v tk rfl S)
  | cons q l ih=>
    rintro σ v tk xs ha S ⟨x,r',rfl,h1,h2⟩ hq
    rw [List.all_cons] at ha
    obtain ⟨a1,a2⟩:=bA.mp ha
    exact PyProof.Rows.assignInOrder_cons (PyProof.Rows.bindName_ (eJ a1 S h1 fun v' tk' e S'=>ih a2 S' (by rw [e]; exact h2) fun v2 tk2 e2 S2=>hq v2 tk2 (e2.trans e) S2))
theorem aC.rev {ρ:List Addr} {vs:List SV} {xs:List Value} (h:aC ρ vs xs):aC ρ vs.reverse xs.reverse:=by
  have app:∀ {as bs:List SV} {x y:List Value},aC ρ as x→aC ρ bs y→aC ρ (as++bs) (x++y):=by
    intro as
    induction as with
    | nil=>intro bs x y h1 h2; obtain rfl:x=[]:=h1; exact h2
    | cons a as ih=>rintro bs x y ⟨z,r,rfl,h1,h3⟩ h2; exact ⟨z,_,rfl,h1,ih h3 h2⟩
  induction vs generalizing xs with
  | nil=>obtain rfl:xs=[]:=h; rfl
  | cons v vs ih=>
    obtain ⟨x,r,rfl,h1,h2⟩:=h
    rw [List.reverse_cons,List.reverse_cons]
    exact app (ih h2) (.cons h1 .nil)
theorem xF {ts vs:List PySem.Expr} {k k2:Nat} {p p2 ps:Pos} {rest:List Stmt} {N:List Str} {us:List SV} {i:Nat} {res:Option SV} (hsw:∀ k p k2 p2 L,swappedStores [.Tuple ts k p] (.Tuple vs k2 p2) (aa r L)=pure (some N)) (hN:(N.length==us.length)=true) (ha:((N.zip us).reverse.all fun q=>dX (aa r 0) q.1)=true)
    (h1:af c n σ (fun L=>eval (.Tuple vs k2 p2) (aa r L)) (fun ρ x=>VR ρ (.s i) x) σ1) (hq:σ1.look i=some (.T us)) (h2:af c n { σ1 with loc:=putAll (N.zip us).reverse σ1.loc } (fun L=>execs rest (aa r L)) (ak res) σ2) :
    af c n σ (fun L=>execs (.Assign [.Tuple ts k p] (.Tuple vs k2 p2) ps::rest) (aa r L)) (ak res) σ2:=fun f v tk Q ok S hQ=>
  wpAny_execs_cons (PyProof.Rows.Assign_Tuple_swapped (names:=N) (h1 f v tk _ ok S fun x v1 t1 p1 q1 S1=>by
    obtain ⟨d,hd,rfl⟩:=q1
    obtain ⟨a1,o,g1,m1,xs,n5,hx,rfl⟩:=S1.look hq
    obtain rfl:=Option.some.inj (hd.symm.trans g1)
    have hN:=beq_iff_eq.mp hN
    refine unpackItemsN_ S1.fr S1.nw (items:=xs.toArray) ⟨_,(S1.nw _ m1).1,rfl,n5,rfl⟩ ok.hd (by rw [List.size_toArray,hN,hx.len]) fun h' F' N'=>?_
    have e1:(N.reverse.map fun z=>bindName (aa r f.L) z)=(N.zip us).reverse.map fun q=>bindName (aa r f.L) q.1:=by
      have z:(N.zip us).reverse.map Prod.fst=N.reverse:=by rw [List.map_reverse,List.map_fst_zip (Nat.le_of_eq hN)]
      rw [← z,List.map_map]
      rfl
    rw [e1]
    refine pU (v:=⟨v1.ρ,v1.Rf,v1.R1,h',v1.m⟩) ha { S1 with fr:=F',nw:=N' } ?_ fun v2 t2 e2 S2=>h2 f v2 t2 _ ok S2 fun z v3 t3 p3 q3 S3=>hQ z v3 t3 (p1.trans (e2▸p3)) q3 S3
    rw [List.map_reverse,show (N.zip us).map (·.2)=us from List.map_snd_zip (Nat.le_of_eq hN.symm)]
    exact hx.rev) rfl (hsw _ _ _ _ _))
end
end
section
set_option backward.match.sparseCases false
noncomputable section
variable {c:Ct} {n:Nat} {r:FnR} {σ σ1 σ2 σ3:Sy}
theorem lJ {x:Str} {ps:Pos} {v:Value} (e:nsIn (Mine.hd.heap_1 c.w.params) mainGlobals x=some none) (hv:bootBuiltins x=some v) (hn:x≠Str.ofString "__name__") (hd:(x==("__debug__":Str))=false) (hk:fQ (aa r 0) x=true) {f:Fx} {v':Vr} {tk:Nat} {Q:Value→Shared→Prop} (ok:f.Ok c n) (F:Fr f.h₀ f.L v'.h v'.m) (h:Q v (f.sh v'.h tk)):wpAny (model PG c.w) f.A (eval (.Name x ps) (aa r f.L)) Q f.E (f.sh v'.h tk):=by
  unfold fQ at hk
  obtain ⟨hk,h3⟩:=bA.mp hk
  obtain ⟨h1,h2⟩:=bA.mp hk
  have T:=topRead_of ok.T
  have e1:(aa r 0).scope.kind=.function:=by simpa using h1
  have e2:(aa r 0).kindOf x=some .globalImplicit:=by simpa using h2
  exact Name_function_global (env:=aa r f.L) e1 e2 (loadGlobal_builtin (env:=aa r f.L) (T.g.keeps F.keep) (mg_none_of ok.X T.g e) (T.b.keeps F.keep) ((T.builtins x hn).trans hv) h) hd
theorem jD {x:Str} {ps:Pos} {v:Value} (e:nsIn (Mine.hd.heap_1 c.w.params) mainGlobals x=some none) (hv:bootBuiltins x=some v) (hn:x≠Str.ofString "__name__") (hd:(x==("__debug__":Str))=false) (hk:fQ (aa r 0) x=true) :
    af c n σ (fun L=>eval (.Name x ps) (aa r L)) (fun _ y=>y=v) σ:=fun f v' tk Q ok S hq=>lJ e hv hn hd hk ok S.fr (hq v v' tk (List.prefix_refl _) rfl S)
noncomputable def qx (c:Ct) (σ:Sy) (u:SV) (k:Nat):Prop:=∀ {f:Fx} {v:Vr} {tk:Nat} {Q:Value→Shared→Prop} {x:Value},St c f v σ→VR v.ρ u x→(∀ t tk',Q (.int (k:Int) t) (f.sh v.h tk'))→wpAny (model PG c.w) f.A (call (.builtin "len") [x]) Q f.E (f.sh v.h tk)
section
open Builtin
theorem dK:Slot "bytearray" "__len__" "bytearray.__len__":=
  .of (owner:="bytearray") (n:="__len__") (by rw [typeLookup_type,builtinLookup_eq_fast]; kernel_rfl) (by decide +kernel) (by decide +kernel) (by decide +kernel)
    (by first | exact .inl (by decide +kernel) | exact .inr (by decide +kernel)) (by rw [isSubtype_type]; kernel_rfl)
theorem fU:entryFor table "bytearray.__len__"=some Builtin.«bytearray.__len__»:=by first | exact entryFor_of_fast (by kernel_rfl) | exact entryFor_of_tree (by kernel_rfl)
theorem gZ (a:Value):argsOk "bytearray.__len__" ⟨[a],[]⟩:=by unfold argsOk; kernel_rfl
theorem l4 {prog:Program} {w:World} {A:Around} {E:Value→Shared→Prop} {s:Shared} {h₀:Heap} {L a:Addr} {news:List (Addr×Obj)} {b:Array UInt8} {Q:Value→Shared→Prop}
    (N:News h₀ L s.heap news) (hm:(a,a8 b)∈news) (hz:b.size≤1000) (h:∀ t k,Q (.int (b.size:Int) t) { s with toks:=k }):wpAny (model prog w) A (call (.builtin "len") [.ref a]) Q E s:=by
  have ho:s.heap.get? a=some (a8 b):=(N _ hm).1
  have hT:s.TypeIs (.ref a) "bytearray":=⟨_,ho,rfl⟩
  refine call_len_slot hT dK (fun Q' hq=>wpAny_call_entry dK hT fU ?_ (gZ _)) (by exact fun q=>ly (.c _ .z) .z (.c (.a (.u (.v 0)) (.k 1)) (.k 0) .z) rfl q) (by exact fun q=>ly (.c _ .z) .z (.u (.v 0) (.k 1000) (.c (.k 9223372036854775808) (.u (.v 0)) .z)) rfl hz q) (h _ _)
  unfold Builtin.«bytearray.__len__»
  refine wpAny_bind (wpAny_of_eq (a:=(.ref a,[])) rfl ?_)
  dsimp only
  refine wpAny_bind (cN ho ?_)
  exact wpAny_bind (wpAny_mkInt (wpAny_pure ⟨_,rfl,hq⟩))
end
theorem gA {prog:Program} {w:World} {A:Around} {E:Value→Shared→Prop} {s:Shared} {h₀:Heap} {L tl:Addr} {news:List (Addr×Obj)} {vs:List Value} {n:Nat} {Q:Value→Shared→Prop}
    (N:News h₀ L s.heap news) (hm:(tl,listOf vs.toArray n)∈news) (hz:vs.length≤1000) (h:∀ t k,Q (.int (vs.length:Int) t) { s with toks:=k }):wpAny (model prog w) A (call (.builtin "len") [.ref tl]) Q E s:=by
  refine PyProof.Rows.len_list (News.isList N hm) (by simp only [List.size_toArray]; exact ax (.c _ .z) .z (.u (.v 0) (.k 1000) .z) (.a (.u (.v 0)) (.k 1)) (.k 9223372036854775808) rfl hz) ?_
  have:=h (s.toks+1) (s.toks+1+1)
  simpa using this
noncomputable def xI (σ:Sy) (u:SV):Option { k:Nat // qx c σ u k }:=(qT u).elim
  ((cI u).bind fun i=>(bR (σ.look i.1)).bind fun q=>(dH q.1).elim
    ((vR q.1).bind fun o=>(ay (Nat.ble o.1.size 1000)).map fun h=>⟨o.1.size,fun {f v tk Q x} S hu hq=>by
      rw [i.2] at hu
      obtain ⟨d,hd,rfl⟩:=hu
      obtain ⟨a1,o1,g1,m1,r1⟩:=S.look q.2
      obtain rfl:=Option.some.inj (hd.symm.trans g1)
      rw [o.2] at r1
      obtain rfl:o1=a8 o.1:=r1
      exact l4 (s:=f.sh v.h tk) S.nw m1 (Nat.le_of_ble_eq_true h.down) hq⟩)
    fun vs=>(ay (Nat.ble vs.1.length 100)).map fun h=>⟨vs.1.length,fun {f v tk Q x} S hu hq=>by
      rw [i.2] at hu
      obtain ⟨d,hd,rfl⟩:=hu
      obtain ⟨a1,o1,g1,m1,r1⟩:=S.look q.2
      obtain rfl:=Option.some.inj (hd.symm.trans g1)
      rw [vs.2] at r1
      obtain ⟨xs,m,hv,rfl⟩:=r1
      have hl:=hv.len
      have:=Nat.le_of_ble_eq_true h.down
      rw [hl] at hq
      exact gA (s:=f.sh v.h tk) S.nw m1 (by exact lin (.c _ (.c _ .z)) (.c (.v 1) (.v 0) (.c (.v 0) (.k 100) .z)) (.v 1) (.k 1000) rfl (cr hl) this) hq⟩)
  fun b=>(ay (Nat.ble b.1.size 1000)).map fun h=>⟨b.1.size,fun {f v tk Q x} S hu hq=>by
    obtain ⟨t,rfl⟩:=b.2 _ _ hu
    exact len_bytes (by have:=Nat.le_of_ble_eq_true h.down; exact lin (.c _ .z) (.c (.v 0) (.k 1000) .z) (.v 0) (.k 1099511627776) rfl this) (hq _ _)⟩
theorem oB {x e1:PySem.Expr} {p1 ps:Pos} {u w:SV} {o:Array UInt8} (ho:∀ ρ y,VR ρ u y→∃ t,y=.bytes o t) (hw:w=.i 1) (hz:Nat.ble (KBy.picked o (some 1) none).size 1000=true) (hne:KBy.whole o (some 1) none=false) (h1:af c n σ (fun L=>eval x (aa r L)) (fun ρ y=>VR ρ u y) σ1) (h2:af c n σ1 (fun L=>eval e1 (aa r L)) (fun ρ y=>VR ρ w y) σ2)
    (hs:∀ a b,subscripted (.Slice (some e1) none none p1) false a b=operate [b,a] (getItem a b)) (ht:∀ o t r,letTemporaryGo x (.bytes o t) r=pure ()) :
    af c n σ (fun L=>eval (.Subscript x (.Slice (some e1) none none p1) ps) (aa r L)) (fun ρ y=>VR ρ (.b (KBy.picked o (some 1) none)) y) σ2:=fun f v tk Q ok S hq=>by
  refine Subscript_ (h1 f v tk _ ok S fun y v1 t1 p1 q1 S1=>wpAny_Slice (evalPart_some_step (h2 f v1 t1 _ ok S1 fun z v2 t2 p2 q2 S2=>evalPart_none_step (evalPart_none_step ?_))))
  obtain ⟨t,rfl⟩:=ho _ _ q1
  rw [hw] at q2
  obtain ⟨t',rfl⟩:=q2
  have hz:=Nat.le_of_ble_eq_true hz
  refine KBy.slice_N (s:=f.sh v2.h t2) S2.fr S2.nw (IsPart.int _ _) IsPart.none hne (by exact lin (.c _ .z) (.c (.v 0) (.k 1000) .z) (.v 0) (.k 16777216) rfl hz) (fun h' t'' k F' N'=>?_) (hs _ _) (ht _ _)
  exact hq _ ⟨v2.ρ,v2.Rf,v2.R1,h',v2.m⟩ k (p1.trans p2) ⟨_,rfl⟩ { S2 with fr:=F',nw:=N' }
theorem mc:∀ (zs:List Value),zs.length≤3→(slicePick zs.toArray (some 1) none none).toList=zs.drop 1
  | [],_=>by kernel_rfl
  | [_],_=>by kernel_rfl
  | [_,_],_=>by kernel_rfl
  | [_,_,_],_=>by kernel_rfl
  | _::_::_::_::_,h=>absurd h (by simp)
theorem aC.drop1 {ρ:List Addr} {vs:List SV} {xs:List Value} (h:aC ρ vs xs):aC ρ (vs.drop 1) (xs.drop 1):=by
  cases vs with
  | nil=>obtain rfl:xs=[]:=h; exact rfl
  | cons v vs=>obtain ⟨x,r,rfl,_,b⟩:=h; exact b
theorem pW {x e1:PySem.Expr} {p1 ps:Pos} {w:SV} {i:Nat} {vs:List SV} (hl:σ1.look i=some (.L vs)) (hw:w=.i 1) (hz:Nat.ble vs.length 3=true) (h1:af c n σ (fun L=>eval x (aa r L)) (fun ρ y=>VR ρ (.s i) y) σ1) (h2:af c n σ1 (fun L=>eval e1 (aa r L)) (fun ρ y=>VR ρ w y) σ1)
    (hs:∀ a b,subscripted (.Slice (some e1) none none p1) false a b=operate [b,a] (getItem a b)) (ht:∀ a r,letTemporaryGo x (.ref a) r=pure ()) :
    af c n σ (fun L=>eval (.Subscript x (.Slice (some e1) none none p1) ps) (aa r L)) (fun ρ y=>VR ρ (.s σ1.nx) y) { σ1 with fr:=(σ1.nx,.L (vs.drop 1))::σ1.fr,nx:=σ1.nx+1 }:=fun f v tk Q ok S hq=>by
  refine Subscript_ (h1 f v tk _ ok S fun y v1 t1 p1 q1 S1=>wpAny_Slice (evalPart_some_step (h2 f v1 t1 _ ok S1 fun z v2 t2 p2 q2 S2=>evalPart_none_step (evalPart_none_step ?_))))
  obtain ⟨d,hd,rfl⟩:=q1
  rw [hw] at q2
  obtain ⟨t',rfl⟩:=q2
  obtain ⟨a1,o1,g1,m1,r1⟩:=S2.look hl
  obtain rfl:=Option.some.inj ((az p2 hd).symm.trans g1)
  obtain ⟨xs,m,hv,rfl⟩:=r1
  have hz:=Nat.le_of_ble_eq_true hz
  have hlen:=hv.len
  refine kmk_slice_lit (s:=f.sh v2.h t2) S2.fr S2.nw ⟨_,(S2.nw _ m1).1,rfl,m,rfl⟩ (IsPart.int _ _) IsPart.none (mc xs (by exact lin (.c _ (.c _ .z)) (.c (.v 0) (.k 3) (.c (.v 1) (.v 0) .z)) (.v 1) (.k 3) rfl hz (cr hlen))) (fun D h' F' N' l1=>?_) (hs _ _) (ht _) (by rw [List.size_toArray,sizeLine_eq]; exact lin (.c _ (.c _ .z)) (.c (.v 0) (.k 3) (.c (.v 1) (.v 0) .z)) (.v 1) (.k 16777216) rfl hz (cr hlen))
  have S3:=S2.pushL (vs:=vs.drop 1) F' N' (fun p hp=>Nat.ne_of_lt (l1 p hp)) ⟨xs.drop 1,0,hv.drop1,rfl⟩
  exact hq _ _ t2 ((p1.trans p2).trans ⟨[D],rfl⟩) ⟨D,by rw [← S2.nx]; exact List.getElem?_concat_length,rfl⟩ S3
theorem aC.app {ρ:List Addr} {us:List SV} {zs:List Value} (h2:aC ρ us zs) {vs:List SV}:∀ {xs:List Value},aC ρ vs xs→aC ρ (vs++us) (xs++zs):=by
  induction vs with
  | nil=>exact fun e=>by rw [show _=[] from e]; exact h2
  | cons v vs ih=>exact fun ⟨x,r,e,a,b⟩=>by rw [e]; exact ⟨x,_,rfl,a,ih b⟩
noncomputable abbrev o8 (σ:Sy) (k:Nat) (vs:List SV):=(us:List SV) ×' (len:us.length=vs.length) ×' (∀ (j:Nat) (w:SV),us[j]?=some w→∃ i ws,vs[j]?=some (.s i)∧σ.look i=some (.T ws)∧ws[k]?=some w)
noncomputable abbrev o8.us {σ:Sy} {k:Nat} {vs:List SV} (q:o8 σ k vs):List SV:=q.1
theorem o8.len {σ:Sy} {k:Nat} {vs:List SV} (q:o8 σ k vs):q.us.length=vs.length:=q.2.1
theorem o8.ok {σ:Sy} {k:Nat} {vs:List SV} (q:o8 σ k vs):∀ (j:Nat) (w:SV),q.us[j]?=some w→∃ i ws,vs[j]?=some (.s i)∧σ.look i=some (.T ws)∧ws[k]?=some w:=q.2.2
noncomputable def w6 (σ:Sy) (k:Nat) (vs:List SV):Option (o8 σ k vs):=List.rec (motive:=fun vs=>Option (o8 σ k vs)) (some ⟨[],rfl,fun j w e=>by cases e⟩)
  (fun v vs ih=>(cI v).bind fun i=>(bR (σ.look i.1)).bind fun q=>(gQ q.1).bind fun ws=>(bR (ws.1[k]?)).bind fun w=>ih.map fun r=>⟨w.1::r.us,congrArg (·+1) r.len,fun j u e=>by
    cases j with
    | zero=>
      cases e
      exact ⟨i.1,ws.1,congrArg some i.2,q.2.trans (congrArg some ws.2),w.2⟩
    | succ j=>exact r.ok j u e⟩) vs
noncomputable def sR (scope:Scope) (x:Str):Bool:=scope.kind==.function&&(scope.names.all fun y=>y.2 != .cell&&y.2 != .free&&(y.2 != .local||scope.names.lookup y.1==some .local))&&scope.names.lookup x==some .local&&(x==("__debug__":Str))==false
theorem h9 {env:Env}:∀ {l:List (Str×NameKind)} (cs:List (Str×Addr)),(∀ y∈l,y.2≠.free)→(forIn l cs fun (x:Str×NameKind) r=>match x with | (name,kind)=>if (kind==NameKind.free)=true then do let __do_lift ← cellOf env name; pure (ForInStep.yield ((name,__do_lift)::r)) else pure (ForInStep.yield r))=(pure cs:Sem (List (Str×Addr))):=by
  intro l
  induction l with
  | nil=>intro cs _; rfl
  | cons q l ih=>
    intro cs h
    obtain ⟨a,b⟩:=q
    have hb:(b==NameKind.free)=false:=by simpa using h (a,b) (.head _)
    rw [List.forIn_cons]
    simp only [hb]
    exact ih cs fun y hy=>h y (.tail _ hy)
theorem cV {scope:Scope} {env:Env} (h:∀ y∈scope.names,y.2≠.free):closureFor scope env=pure []:=by
  unfold closureFor
  have e:=h9 (env:=env) (l:=scope.names) [] h
  simp only at e ⊢
  rw [e]
  rfl
theorem de {D:Addr}:∀ {l:List (Addr×Obj)},LCg.Off1 D l→∀ p∈l,p.1≠D
  | [],_,_,h=>nomatch h
  | _::_,o,p,h=>by
    rcases List.mem_cons.mp h with rfl | h
    · exact o.1
    · exact de o.2 p h
theorem qO {α β:Type} {P1 P2 P3:α→β→Prop} {G:Prop} (x:∃ a b,P1 a b∧P2 a b∧P3 a b) (k:∀ a b,P1 a b→P2 a b→P3 a b→G):G:=x.elim fun a x=>x.elim fun b x=>k a b x.1 x.2.1 x.2.2
theorem nO {α:Type} {P1 P2:α→Prop} {G:Prop} (x:∃ a,P1 a∧P2 a) (k:∀ a,P1 a→P2 a→G):G:=x.elim fun a x=>k a x.1 x.2
open LCg in
theorem s7 {x y:Str} {p1 p2 p3 px py pos:Pos} {kz:Int} {ki:Nat} {scope:Scope} {i:Nat} {vs:List SV} (q:o8 σ kz.toNat vs) (hk:(decide (0≤kz∧kz≤1000))=true) (hsc:sR scope x=true) (hl:σ.look i=some (.L vs)) (hz:Nat.ble vs.length 100=true)
    (hy:σ.loc.lookup y=some (.s i)) (hn:dX (aa r 0) y=true) :
    af c n σ (fun L=>eval (.ListComp (.Subscript (.Name x p1) (.Constant (.int kz) ki p2) p3) [⟨.Name x px,.Name y py,[],0⟩] scope pos) (aa r L)) (fun ρ y=>VR ρ (.s σ.nx) y) { σ with fr:=(σ.nx,.L q.us)::σ.fr,nx:=σ.nx+1 }:=fun f v tk Q ok S hq=>by
  unfold sR at hsc
  simp only [Bool.and_eq_true,beq_iff_eq,List.all_eq_true,bne_iff_ne,Bool.or_eq_true] at hsc
  have c1:=hsc.1.1.1
  have c2:=hsc.1.1.2
  have c3:=hsc.1.2
  have c4:=hsc.2
  have hkz:=of_decide_eq_true hk
  have hz:=Nat.le_of_ble_eq_true hz
  refine ListComp_U S.fr (cV fun y hy=>(c2 y hy).1.2) (fun y hy=>(c2 y hy).1.1) c1 (fun y hy e=>(c2 y hy).2.resolve_left fun hn=>hn e) c3 ?_ (fun z_=>rfl)
  obtain ⟨yv,hyv,d,hd,rfl⟩:=S.lv _ _ hy
  refine dj (env:=aa r f.L) S.fr hyv ?_ hn
  obtain ⟨a1,o1,g1,m1,r1⟩:=S.look hl
  obtain rfl:=Option.some.inj (hd.symm.trans g1)
  obtain ⟨xs,m,hv,rfl⟩:=r1
  have hlen:=hv.len
  refine CompSrc.ledger (s₁:=f.sh v.h tk) ok.hd S.fr S.nw m1 (by rw [List.size_toArray,sizeLine_eq]; exact lin (.c _ (.c _ .z)) (.c (.v 0) (.k 100) (.c (.v 1) (.v 0) .z)) (.v 1) (.k 16777216) rfl hz (cr hlen)) (fun g=>?_)
  rw [List.size_toArray]
  suffices rest:∀ j i ys,i+j=xs.length→aC v.ρ (q.us.take i) ys→CompRest _ _ _ _ _ _ _ _ _ _ _ _ _ _ _ j i ys _ from rest xs.length 0 [] (by exact Nat.le_antisymm (lin (.c _ .z) .z (.a (.k 0) (.v 0)) (.v 0) rfl ) (lin (.c _ .z) .z (.v 0) (.a (.k 0) (.v 0)) rfl )) rfl
  intro j
  induction j with
  | zero=>
    intro i ys hi hys
    rw [List.take_of_length_le (by rw [q.len]; exact lin (.c _ (.c _ (.c _ .z))) (.c (.v 0) (.v 1) (.c (.v 1) (.a (.v 2) (.k 0)) .z)) (.v 0) (.v 2) rfl (cb hlen) (cr hi))] at hys
    refine CompRest.zero fun D h tk2 FD ND offD=>?_
    have off:∀ p∈v.Rf++v.R1,p.1≠D:=by
      intro p hp
      exact de offD p hp
    have S3:=S.pushL (h':=h) (vs:=q.us) FD ND off ⟨ys,_,hys,rfl⟩
    exact hq _ _ tk2 ⟨[D],rfl⟩ ⟨D,by rw [← S.nx]; exact List.getElem?_concat_length,rfl⟩ S3
  | succ j ih=>
    intro i ys hi hys
    refine CompRest.succ fun y I oI C oC D m₂ h tk2 E' hp hoC hm₂ FC NC off hne=>?_
    have hil:i<q.us.length:=by rw [q.len]; exact lin (.c _ (.c _ (.c _ (.c _ .z)))) (.c (.v 1) (.v 0) (.c (.a (.v 2) (.a (.v 3) (.k 1))) (.v 1) .z)) (.a (.v 2) (.k 1)) (.v 0) rfl (cr hlen) (cb hi)
    have hw:=List.getElem?_eq_getElem hil
    refine qO (q.ok i _ hw) fun b ws g1 g2 g3=>?_
    refine nO (hv.get g1) fun y' g4 g5=>?_
    obtain rfl:y=y':=Option.some.inj ((by simpa using hp:xs[i]?=some y).symm.trans g4)
    refine nO g5 fun e he ey=>?_
    subst ey
    refine qO (S.look g2) fun a2 o2 g6 m2 r2=>?_
    obtain rfl:=Option.some.inj (he.symm.trans g6)
    refine qZ r2 fun zs nz hzs eo=>?_
    subst eo
    refine nO (hzs.get g3) fun z g7 g8=>?_
    have ht:IsTup h e zs.toArray:=⟨_,(NC _ (.tail _ (.tail _ (.tail _ m2)))).1,rfl,_,rfl⟩
    have hlt:=(List.getElem?_eq_some_iff.mp g7).1
    refine Subscript_ (LCgL.ld_own NC (.tail _ (.head _)) hoC hm₂ (wpAny_Constant_int ?_) (by simp [compEnvC,relabel,c1]) (lookup_relabel_local c3) (by simpa using c4))
    refine tail_any (s:={ f.sh h tk2 with toks:=_ }) ht.typeIs slot_tuple_getitem.lookup (PyProof.Rows.getItem_tuple (j:=kz.toNat) ht (by exact ax .z (.c _ .z) (.c (.k 0) (.v 0) .z) (.g (.k 9223372036854775808)) (.v 0) rfl hkz.1) (by exact ax .z (.c _ .z) (.c (.v 0) (.k 1000) .z) (.a (.v 0) (.k 1)) (.k 9223372036854775808) rfl hkz.2) (by unfold seqIndex?; rw [List.size_toArray]; simp; omega) (by simpa using g7) ?_) (by rfl)
    refine CompEnd.intro FC NC _ (fun p hp=>hp) off (Or.inr ⟨_,m1,rfl,_,rfl⟩) (ih (i+1) _ (by exact Nat.le_antisymm (lin (.c _ (.c _ (.c _ .z))) (.c (.a (.v 1) (.a (.v 2) (.k 1))) (.v 0) .z) (.a (.a (.v 1) (.k 1)) (.v 2)) (.v 0) rfl (cb hi)) (lin (.c _ (.c _ (.c _ .z))) (.c (.v 0) (.a (.v 1) (.a (.v 2) (.k 1))) .z) (.v 0) (.a (.a (.v 1) (.k 1)) (.v 2)) rfl (cr hi))) ?_)
    rw [List.take_add_one,hw]
    exact aC.app (show aC _ [q.us[i]] [z] from ⟨_,_,rfl,g8,rfl⟩) hys
end
end
section
set_option backward.match.sparseCases false
noncomputable section
variable {c:Ct} {n:Nat} {r:FnR} {σ σ1 σ2 σ3:Sy}
theorem NR.val {es:List (Int×Array UInt8)} {k:Int} {b:Array UInt8}:∀ {kvs:List (Int×Value)},NR es kvs→es.lookup k=some b→∃ t,valueAt kvs k=some (.bytes b t):=by
  induction es with
  | nil=>exact fun _ e=>nomatch e
  | cons q l ih=>
    rintro kvs ⟨t,r,rfl,h⟩ e
    unfold valueAt
    rcases lookHead e with ⟨rfl,rfl⟩ | ⟨hne,e⟩
    · exact ⟨t,by rw [List.find?_cons,decide_eq_true rfl]; rfl⟩
    · exact (ih h e).imp fun u hu=>by
        rw [List.find?_cons,decide_eq_false (Ne.symm (beq_eq_false_iff_ne.mp hne))]
        exact hu
theorem NR.none {es:List (Int×Array UInt8)} {k:Int}:∀ {kvs:List (Int×Value)},NR es kvs→(valueAt kvs k).isSome=(es.lookup k).isSome:=by
  induction es with
  | nil=>exact fun e=>by rw [show _=[] from e]; rfl
  | cons q l ih=>
    rintro kvs ⟨t,r,rfl,h⟩
    unfold valueAt
    rw [List.lookup_cons]
    cases e:k==q.1 with
    | true=>rw [List.find?_cons,decide_eq_true (beq_iff_eq.mp e).symm]; rfl
    | false=>
      rw [List.find?_cons,decide_eq_false (Ne.symm (beq_eq_false_iff_ne.mp e))]
      exact ih h
theorem sg {w w':World} {es:List DictEntry} {kvs:List (Int×Value)} (h:Pairs (intKind PG w) es kvs):Pairs (intKind PG w') es kvs:=by
  induction h with
  | nil=>exact .nil
  | cons a b _ ih=>exact .cons a b ih
theorem intD {w w':World} {o:Obj} {kvs:List (Int×Value)}:o.IsDictOf (intKind PG w) kvs→o.IsDictOf (intKind PG w') kvs:=fun ⟨es,ep,a,b,c,d,e⟩=>⟨es,ep,a,b,c,sg d,e⟩
theorem rX {a b:SV} {i:Nat} {es:List (Int×Array UInt8)} {k:Int} (hb:b=.s i) (hq:σ.look i=some (.N es)) (ha:∀ ρ x,VR ρ a x→∃ t,x=.int k t):ce c .In σ a b (es.lookup k).isSome:=by
  intro f v tk Q x y X S hx hy hr
  obtain ⟨t,rfl⟩:=ha _ _ hx
  rw [hb] at hy
  obtain ⟨d,hd,rfl⟩:=hy
  obtain ⟨a1,o,g1,m1,w',kvs,ho,hn⟩:=S.look hq
  obtain rfl:=Option.some.inj (hd.symm.trans g1)
  exact kda_in (s:=f.sh v.h tk) S.nw m1 (intD ho) (gM X S.nw m1) (intKind_is _ _ _ _) _ hn.none (hr _)
noncomputable def xK (σ:Sy) (a b:SV):Option { r:Bool // ce c .In σ a b r }:=
  (cI b).bind fun i=>(bR (σ.look i.1)).bind fun q=>(xc q.1).bind fun es=>(dr a).map fun k=>⟨_,rX i.2 (q.2.trans (congrArg some es.2)) k.2⟩
noncomputable abbrev cg (σ:Sy) (a b:SV):=(i:Nat) ×' (es:List (Int×Array UInt8)) ×' (k:Int) ×' (o:Array UInt8) ×' (ha:a=.s i) ×' (hq:σ.look i=some (.N es)) ×' (hb:∀ ρ x,VR ρ b x→∃ t,x=.int k t) ×' (es.lookup k=some o)
noncomputable abbrev cg.i {σ:Sy} {a b:SV} (q:cg σ a b):Nat:=q.1
noncomputable abbrev cg.es {σ:Sy} {a b:SV} (q:cg σ a b):List (Int×Array UInt8):=q.2.1
noncomputable abbrev cg.k {σ:Sy} {a b:SV} (q:cg σ a b):Int:=q.2.2.1
noncomputable abbrev cg.o {σ:Sy} {a b:SV} (q:cg σ a b):Array UInt8:=q.2.2.2.1
theorem cg.ha {σ:Sy} {a b:SV} (q:cg σ a b):a=.s q.i:=q.2.2.2.2.1
theorem cg.hq {σ:Sy} {a b:SV} (q:cg σ a b):σ.look q.i=some (.N q.es):=q.2.2.2.2.2.1
theorem cg.hb {σ:Sy} {a b:SV} (q:cg σ a b):∀ ρ x,VR ρ b x→∃ t,x=.int q.k t:=q.2.2.2.2.2.2.1
theorem cg.he {σ:Sy} {a b:SV} (q:cg σ a b):q.es.lookup q.k=some q.o:=q.2.2.2.2.2.2.2
noncomputable def uA (σ:Sy) (a b:SV):Option (cg σ a b):=
  (cI a).bind fun i=>(bR (σ.look i.1)).bind fun q=>(xc q.1).bind fun es=>(dr b).bind fun k=>(bR (es.1.lookup k.1)).map fun o=>⟨i.1,es.1,k.1,o.1,i.2,q.2.trans (congrArg some es.2),k.2,o.2⟩
theorem pA {z y:Str} {pz py ps:Pos} {a b:SV} (q:cg σ2 a b) (h1:af c n σ (fun L=>eval (.Name z pz) (aa r L)) (fun ρ x=>VR ρ a x) σ1) (h2:af c n σ1 (fun L=>eval (.Name y py) (aa r L)) (fun ρ x=>VR ρ b x) σ2) :
    af c n σ (fun L=>eval (.Subscript (.Name z pz) (.Name y py) ps) (aa r L)) (fun ρ x=>VR ρ (.b q.o) x) σ2:=fun f v tk Q ok S hr=>
  Subscript_ (h1 f v tk _ ok S fun x v1 t1 p1 q1 S1=>h2 f v1 t1 _ ok S1 fun y v2 t2 p2 q2 S2=>by
    obtain ⟨t,rfl⟩:=q.hb _ _ q2
    rw [q.ha] at q1
    obtain ⟨d,hd,rfl⟩:=q1.up p2
    obtain ⟨a1,o1,g1,m1,w',kvs,ho,hn⟩:=S2.look q.hq
    obtain rfl:=Option.some.inj (hd.symm.trans g1)
    obtain ⟨u,hu⟩:=hn.val q.he
    exact kda_item (s:=f.sh v2.h t2) S2.nw m1 (intD ho) (intKind_is _ _ _ _) hu (hr _ v2 _ (p1.trans p2) .b S2))
theorem s5 {x y z:PySem.Expr} {p q:CmpOp} {ps:Pos} {a b d:SV} {u:Bool} (h1:af c n σ (fun L=>eval x (aa r L)) (fun ρ x=>VR ρ a x) σ1) (h2:af c n σ1 (fun L=>eval y (aa r L)) (fun ρ x=>VR ρ b x) σ2) (h3:ce c p σ2 a b true)
    (h4:af c n σ2 (fun L=>eval z (aa r L)) (fun ρ x=>VR ρ d x) σ3) (h5:ce c q σ3 b d u) (hm:lastMarks [p,q] [y,z]=false) :
    af c n σ (fun L=>isTrue (.Compare x [p,q] [y,z] ps) (aa r L) (eval (.Compare x [p,q] [y,z] ps) (aa r L))) (fun _ x=>x=u) σ3:=fun f v tk Q ok S hq=>
  isTrue_chain (h1 f v tk _ ok S fun x v1 t1 p1 q1 S1=>test_link (h2 f v1 t1 _ ok S1 fun y v2 t2 p2 q2 S2=>h3 ok.X S2 (q1.up p2) q2 fun t'=>wpAny_truthy_bool (test_last (h4 f v2 t' _ ok S2 fun z v3 t3 p3 q3 S3=>h5 ok.X S3 (q2.up p3) q3 fun t4=>wpAny_truthy_bool (hq _ v3 t4 (p1.trans (p2.trans p3)) rfl S3))))) hm
theorem sQ {x y z:PySem.Expr} {p q:CmpOp} {ps:Pos} {a b:SV} (h1:af c n σ (fun L=>eval x (aa r L)) (fun ρ x=>VR ρ a x) σ1) (h2:af c n σ1 (fun L=>eval y (aa r L)) (fun ρ x=>VR ρ b x) σ2) (h3:ce c p σ2 a b false) (hm:lastMarks [p,q] [y,z]=false) :
    af c n σ (fun L=>isTrue (.Compare x [p,q] [y,z] ps) (aa r L) (eval (.Compare x [p,q] [y,z] ps) (aa r L))) (fun _ x=>x=false) σ2:=fun f v tk Q ok S hq=>
  isTrue_chain (h1 f v tk _ ok S fun x v1 t1 p1 q1 S1=>test_link (h2 f v1 t1 _ ok S1 fun y v2 t2 p2 q2 S2=>h3 ok.X S2 (q1.up p2) q2 fun t'=>wpAny_truthy_bool (hq _ v2 t' (p1.trans p2) rfl S2))) hm
noncomputable def vW (vs:List SV):Option { ns:List Int // ∀ ρ xs,aC ρ vs xs→IntsAre xs ns }:=List.rec (motive:=fun vs=>Option { ns:List Int // ∀ ρ xs,aC ρ vs xs→IntsAre xs ns }) (some ⟨[],fun ρ xs h=>by rw [show xs=[] from h]; exact .nil⟩)
  (fun v vs ih=>(dr v).bind fun k=>ih.map fun q=>⟨k.1::q.1,fun ρ xs ⟨x,r,e,h1,h2⟩=>by
    obtain ⟨t,rfl⟩:=k.2 _ _ h1
    rw [e]
    exact .cons _ _ (q.2 _ _ h2)⟩) vs
theorem sM {x:Str} {pf pc pl:Pos} {es:List PySem.Expr} {vs:List SV} {ns:List Int} (hx:(x==Str.ofString "bytes")=true) (hk:fQ (aa r 0) x=true) (h1:∀ pos,af c n σ (fun L=>spliced (backTo pos (starEach es (aa r L)))) (fun ρ xs=>aC ρ vs xs) σ1) (hi:∀ ρ xs,aC ρ vs xs→IntsAre xs ns) (hr:(ns.all fun n=>decide (0≤n∧n<256))=true) (hl:Nat.ble vs.length 100=true) (hn:Nat.ble ns.length 100=true) :
    af c n σ (fun L=>eval (.Call (.Name x pf) [.List es pl] [] pc) (aa r L)) (fun ρ y=>VR ρ (.b (byteArr ns)) y) σ1:=fun f v tk Q ok S hq=>by
  obtain rfl:=beq_iff_eq.mp hx
  refine wpAny_Call_NameR (jD (n:=0) (v:=.type "bytes") (by kernel_rfl) (by kernel_rfl) (by decide) (by decide) hk f v tk _ ok.zero S fun y v1 t1 p1 q1 S1=>?_)
  subst q1
  refine PyProof.Rows.callWith_type1 ?_ rfl rfl
  show wpAny _ _ (spliced [(false,_)]) _ _ _
  refine Calls.spliced_cons (PyProof.Rows.List_ (h1 pl f v1 t1 _ ok S1 fun xs v2 t2 p2 q2 S2=>?_))
  refine PyProof.Rows.newList_N S2.fr S2.nw (fun h2' F2 N2=>Calls.spliced_nil ?_) (by rw [sizeLine_eq]; exact Nat.le_trans (q2.len▸Nat.le_of_ble_eq_true hl) (by decide))
  exact KBa.make_K (s:=f.sh h2' t2) F2 N2 ok.hd (News.isList N2 (.head _)) (hi _ _ q2) (fun n hm=>of_decide_eq_true (List.all_eq_true.mp hr n hm)) (Nat.le_trans (Nat.le_of_ble_eq_true hn) (by decide)) fun h' t' k F' N' _=>hq _ ⟨v2.ρ,v2.Rf,v2.R1,h',v2.m⟩ k (p1.trans p2) .b { S2 with fr:=F',nw:=ag N' fun p hp=>.tail _ hp }
noncomputable def PR:List (Int×Array UInt8)→List (Value×Value)→Prop
  | [],rs=>rs=[]
  | q::l,rs=>∃ t u r,rs=(.int q.1 t,.bytes q.2 u)::r∧PR l r
theorem PR.keys {es:List (Int×Array UInt8)}:∀ {rs:List (Value×Value)},PR es rs→allIntKeys rs=true∧(intKeyPairs rs).map (·.1)=es.map (·.1)∧NR es (intKeyPairs rs):=by
  induction es with
  | nil=>exact fun e=>by rw [show _=[] from e]; exact ⟨rfl,rfl,rfl⟩
  | cons q l ih=>
    rintro rs ⟨t,u,r,rfl,h⟩
    obtain ⟨h1,h2,h3⟩:=ih h
    exact ⟨h1,congrArg (q.1::·) h2,u,_,rfl,h3⟩
noncomputable abbrev CP (c:Ct) (n:Nat) (r:FnR) (keys:List (Option PySem.Expr)) (vals:List PySem.Expr) (σ:Sy):=(es:List (Int×Array UInt8)) ×' (σ':Sy) ×' (∀ pos,af c n σ (fun L=>evalPairs (pairTrees keys vals (aa r L) pos)) (fun _ rs=>PR es rs) σ')
noncomputable abbrev CP.es {c:Ct} {n:Nat} {r:FnR} {keys:List (Option PySem.Expr)} {vals:List PySem.Expr} {σ:Sy} (q:CP c n r keys vals σ):List (Int×Array UInt8):=q.1
noncomputable abbrev CP.σ' {c:Ct} {n:Nat} {r:FnR} {keys:List (Option PySem.Expr)} {vals:List PySem.Expr} {σ:Sy} (q:CP c n r keys vals σ):Sy:=q.2.1
theorem CP.ok {c:Ct} {n:Nat} {r:FnR} {keys:List (Option PySem.Expr)} {vals:List PySem.Expr} {σ:Sy} (q:CP c n r keys vals σ):∀ pos,af c n σ (fun L=>evalPairs (pairTrees keys vals (aa r L) pos)) (fun _ rs=>PR q.es rs) q.σ':=q.2.2
theorem oy {k v:PySem.Expr} {ks:List (Option PySem.Expr)} {vs:List PySem.Expr} {i:Int} {b:Array UInt8} {es:List (Int×Array UInt8)} {u w:SV} (hu:∀ ρ x,VR ρ u x→∃ t,x=.int i t) (hw:∀ ρ x,VR ρ w x→∃ t,x=.bytes b t) (h1:af c n σ (fun L=>eval k (aa r L)) (fun ρ x=>VR ρ u x) σ1) (h2:af c n σ1 (fun L=>eval v (aa r L)) (fun ρ x=>VR ρ w x) σ2)
    (h3:∀ pos,af c n σ2 (fun L=>evalPairs (pairTrees ks vs (aa r L) pos)) (fun _ rs=>PR es rs) σ3) (pos:Pos):af c n σ (fun L=>evalPairs (pairTrees (some k::ks) (v::vs) (aa r L) pos)) (fun _ rs=>PR ((i,b)::es) rs) σ3:=fun f v tk Q ok S hq=>
  pairTrees_cons_walk (h1 f v tk _ ok S fun x v1 t1 p1 q1 S1=>h2 f v1 t1 _ ok S1 fun y v2 t2 p2 q2 S2=>h3 pos f v2 t2 _ ok S2 fun rs v3 t3 p3 q3 S3=>by
    obtain ⟨t,rfl⟩:=hu _ _ q1
    obtain ⟨t',rfl⟩:=hw _ _ q2
    exact hq _ v3 t3 (p1.trans (p2.trans p3)) ⟨t,t',rs,rfl,q3⟩ S3)
noncomputable def pairD (R:ie c n) (r:FnR) (keys:List (Option PySem.Expr)):∀ (vals:List PySem.Expr) (σ:Sy),Option (CP c n r keys vals σ):=
  List.rec (motive:=fun keys=>∀ (vals:List PySem.Expr) (σ:Sy),Option (CP c n r keys vals σ)) (fun vals σ=>match vals with
    | []=>some ⟨[],σ,fun pos f v tk Q ok S hq=>pairTrees_nil_walk (hq [] v tk (List.prefix_refl _) rfl S)⟩
    | _=>none)
  (fun k ks ih vals σ=>match k,vals with
    | some k,v::vs=>(R.E r k σ).bind fun q1=>(dr q1.v).bind fun i=>(R.E r v q1.σ').bind fun q2=>(qT q2.v).bind fun b=>(ih vs q2.σ').map fun q3=>⟨_,q3.σ',oy i.2 b.2 q1.ok q2.ok q3.ok⟩
    | _,_=>none) keys
noncomputable def vw (l:List (Nat×SO)):Option { q:Nat×List (Nat×SO) // l=(q.1,.N [])::q.2 }:=match l with
  | []=>none
  | p::r=>(xc p.2).bind fun es=>match es with
    | ⟨[],h⟩=>some ⟨(p.1,r),congrArg (·::r) (Prod.ext rfl h)⟩
    | _=>none
theorem nC {keys:List (Option PySem.Expr)} {vals:List PySem.Expr} {pos:Pos} {es:List (Int×Array UInt8)} {fr:List (Nat×SO)} (hk:(keys.all (·.isSome)&&keys.length==vals.length&&!keys.isEmpty&&Nat.ble keys.length 15&&decide (es.map (·.1)).Nodup)=true)
    (hP:∀ pos,af c n { σ with fr:=(σ.nx,.N [])::σ.fr,nx:=σ.nx+1 } (fun L=>evalPairs (pairTrees keys vals (aa r L) pos)) (fun _ rs=>PR es rs) σ1) (hf:σ1.fr=(σ.nx,.N [])::fr) :
    af c n σ (fun L=>eval (.Dict keys vals pos) (aa r L)) (fun ρ x=>VR ρ (.s σ.nx) x) { σ1 with fr:=(σ.nx,.N es)::fr }:=fun f v tk Q ok S hq=>by
  simp only [Bool.and_eq_true,beq_iff_eq,Bool.not_eq_true',List.isEmpty_eq_false_iff,decide_eq_true_eq] at hk
  obtain ⟨⟨⟨⟨k1,k2⟩,k3⟩,k4⟩,k5⟩:=hk
  refine kdn_eval (knd:=intKind PG c.w) S.fr S.nw ok.T.nolimit k1 k2 k3 (Nat.le_of_ble_eq_true k4) fun d h' o F' N' hd lo ho=>?_
  have S0:=S.pushN (q:=.N []) F' N' (fun p hp=>Nat.ne_of_lt (hd p hp)) ⟨c.w,[],ho,rfl⟩
  refine hP pos f ⟨v.ρ++[d],(d,o)::v.Rf,v.R1,h',v.m⟩ tk _ ok S0 fun rs v1 t1 p1 hrs S1=>?_
  obtain ⟨ρ1,Rf1,R1,h1,m1⟩:=v1
  have hl:=S1.lr
  rw [hf] at hl
  obtain ⟨a,o1,Rf2,rfl,ha,⟨w',kvs,ho1,hkv⟩,hl2⟩:=hl
  obtain rfl:d=a:=Option.some.inj ((az p1 S.top).symm.trans ha)
  obtain rfl:kvs=[]:=hkv
  obtain ⟨r1,r2,r3⟩:=hrs.keys
  have hnd:=List.pairwise_cons.mp S1.nd
  have hup:=S1.up _ (.head _)
  refine kdn_made_int S1.fr S1.nw (UpdF.head fun q hq=>(List.mem_append.mp hq).elim (fun h=>Ne.symm (hnd.1 q h)) (hup q)) (intD ho1) r1 (r2▸k5) fun h2 o' F2 N2 ho2=>?_
  exact hq (.ref d) ⟨ρ1,(d,o')::Rf2,R1,h2,m1⟩ _ (.trans ⟨[d],rfl⟩ p1) ⟨d,ha,rfl⟩ { S1 with
    fr:=F2,nw:=N2,lr:=⟨d,o',Rf2,rfl,ha,⟨c.w,_,ho2,r3⟩,hl2⟩,nd:=List.pairwise_cons.mpr hnd,up:=fC ⟨hup,fun p hp=>S1.up p (.tail _ hp)⟩ }
end
end
section
set_option backward.match.sparseCases false
noncomputable section
variable {c:Ct} {n:Nat} {r:FnR} {σ σ1 σ2 σ3 σ4:Sy}
theorem ER.non {P:Params} {ρ:List Addr} {x:Str} {es:List (Str×SV)} {es':List DictEntry} (h:ER ρ P es es') (e:(es.lookup x).isNone=true):PySem.W.getL x es'=Option.some Option.none:=by
  have h1:=h.any (x:=x)
  have h2:=h.noRef
  unfold PySem.W.getL
  rw [Option.isNone_iff_eq_none.mp e] at h1
  rw [List.find?_eq_none.mpr (fun y hy=>by simpa using List.any_eq_false.mp h1.symm y hy)]
  dsimp only
  rw [h2]
  rfl
structure BV (P:Params) (x:Str) (v:Value):Prop where
  ns:nsIn (Mine.hd.heap_1 P) mainGlobals x=some none
  bt:bootBuiltins x=some v
  nn:x≠Str.ofString "__name__"
  dd:(x==("__debug__":Str))=false
noncomputable def j5 (c:Ct) (n:Nat) (σ:Sy) (g:Value) (vs:List SV) (u:SV) (σ':Sy):Prop:=
  ∀ (f:Fx) (v:Vr) (tk:Nat) (xs:List Value) (Q:Value→Shared→Prop),f.Ok c n→St c f v σ→aC v.ρ vs xs→(∀ x v' tk',v.ρ <+: v'.ρ→VR v'.ρ u x→St c f v' σ'→Q x (f.sh v'.h tk'))→wpAny (model PG c.w) f.A (call g xs) Q f.E (f.sh v.h tk)
noncomputable abbrev BA (c:Ct) (n:Nat) (σ:Sy) (x:Str) (vs:List SV):=(v:Value) ×' (bv:BV c.w.params x v) ×' (isB:(∃ id,v=.builtin id)∨∃ T,v=.type T) ×' (u:SV) ×' (σ':Sy) ×' (j5 c n σ v vs u σ')
noncomputable abbrev BA.v {c:Ct} {n:Nat} {σ:Sy} {x:Str} {vs:List SV} (q:BA c n σ x vs):Value:=q.1
theorem BA.bv {c:Ct} {n:Nat} {σ:Sy} {x:Str} {vs:List SV} (q:BA c n σ x vs):BV c.w.params x q.v:=q.2.1
theorem BA.isB {c:Ct} {n:Nat} {σ:Sy} {x:Str} {vs:List SV} (q:BA c n σ x vs):(∃ id,q.v=.builtin id)∨∃ T,q.v=.type T:=q.2.2.1
noncomputable abbrev BA.u {c:Ct} {n:Nat} {σ:Sy} {x:Str} {vs:List SV} (q:BA c n σ x vs):SV:=q.2.2.2.1
noncomputable abbrev BA.σ' {c:Ct} {n:Nat} {σ:Sy} {x:Str} {vs:List SV} (q:BA c n σ x vs):Sy:=q.2.2.2.2.1
theorem BA.ok {c:Ct} {n:Nat} {σ:Sy} {x:Str} {vs:List SV} (q:BA c n σ x vs):j5 c n σ q.v vs q.u q.σ':=q.2.2.2.2.2
theorem mq {x:Str} {pf pc:Pos} {e:PySem.Expr} {es:List PySem.Expr} {vs:List SV} (b:BA c n σ1 x vs) (hk:fQ (aa r 0) x=true) (hp:br e) (hpl:∀ env pos,(backTo pos (starEach (e::es) env)).any (·.1)=false)
    (hA:∀ pos,af c n σ (fun L=>spliced (backTo pos (starEach (e::es) (aa r L)))) (fun ρ xs=>aC ρ vs xs) σ1):af c n σ (fun L=>eval (.Call (.Name x pf) (e::es) [] pc) (aa r L)) (fun ρ x=>VR ρ b.u x) b.σ':=fun f v tk Q ok S hq=>by
  have hs:=hpl (aa r f.L) pc
  rw [hp.star] at hs
  refine wpAny_Call_NameR (jD (n:=n) b.bv.ns b.bv.bt b.bv.nn b.bv.dd hk f v tk _ ok S fun y v1 t1 p1 q1 S1=>?_)
  subst q1
  have h2:=hA pc f v1 t1 (fun xs s=>wpAny (model PG c.w) f.A (call b.v xs) Q f.E s) ok S1 fun xs v2 t2 p2 q2 S2=>b.ok f v2 t2 xs Q ok S2 q2 fun x v3 t3 p3 q3 S3=>hq x v3 t3 (p1.trans (p2.trans p3)) q3 S3
  rcases b.isB with ⟨id,e⟩ | ⟨T,e⟩
  · rw [e] at h2 ⊢; exact PyProof.Rows.callWith_builtin1 h2 (hp.star _ _) hs
  · rw [e] at h2 ⊢; exact PyProof.Rows.callWith_type1 h2 (hp.star _ _) hs
noncomputable def qB (v:Value):Bool:=match v with
  | .type T=>T == "int"
  | _=>false
theorem nG {v:Value} (h:qB v=true):v=.type "int":=by
  cases v <;> first | exact congrArg Value.type (beq_iff_eq.mp h) | cases h
noncomputable def asU (v:SV):Option { x:Value // v=.u x }:=SV.rec (motive:=fun v=>Option { x:Value // v=.u x }) (fun z_=>none) (fun z_=>none) (fun z_=>none) (fun z_=>none) (fun z_=>none) (fun z_=>none) none (fun z_ z_ z_=>none) (fun x=>some ⟨x,rfl⟩) (fun z_ z_ z_=>none) (fun z_ z_ z_ z_=>none) none v
theorem mv {P:Params} {x y:Str} {v:Value} (h:(x==y)=true) (k:BV P y v):BV P x v:=beq_iff_eq.mp h▸k
noncomputable def xH {a:SV} (x:Str) (h:(x==Str.ofString "len")=true) (k:{ k:Nat // qx c σ a k }):BA c n σ x [a]:=⟨.builtin "len",mv h ⟨by kernel_rfl,by kernel_rfl,by decide,by decide⟩,.inl ⟨_,rfl⟩,.i (k.1:Int),σ,fun f v tk xs Q ok S ⟨y,r',e,h1,h2⟩ hq=>by
  subst e
  rw [show r'=[] from h2]
  exact k.2 S h1 fun t tk'=>hq _ v tk' (List.prefix_refl _) ⟨t,rfl⟩ S⟩
theorem pS {a:SV} {i:Nat} {vs:List SV} (ha:a=.s i) (hl:σ.look i=some (.L vs)) (hz:Nat.ble vs.length 100=true):j5 c n σ (.type "list") [a] (.s σ.nx) { σ with fr:=(σ.nx,.L vs)::σ.fr,nx:=σ.nx+1 }:=fun f v tk xs Q ok S ⟨y,r',e,h1,h2⟩ hq=>by
  subst e ha
  rw [show r'=[] from h2]
  obtain ⟨d,hd,rfl⟩:=h1
  obtain ⟨a1,o1,g1,m1,ys,m,hv,rfl⟩:=S.look hl
  obtain rfl:=Option.some.inj (hd.symm.trans g1)
  exact list_copyK (s:=f.sh v.h tk) S.fr S.nw (News.isList S.nw m1) (fun D k h' F' N' l1=>hq _ _ tk ⟨[D],rfl⟩ ⟨D,S.top,rfl⟩ (S.pushL F' N' (fun p hp=>Nat.ne_of_lt (l1 p hp)) ⟨ys,k,hv,rfl⟩)) (by rw [List.size_toArray,← hv.len,sizeLine_eq]; exact Nat.le_trans (Nat.le_of_ble_eq_true hz) (by decide))
theorem sA {a:SV} {i:Nat} {vs:List SV} (ha:a=.s i) (hl:σ.look i=some (.L vs)):j5 c n σ (.builtin "isinstance") [a,.u (.type "int")] (.o false) σ:=fun f v tk xs Q ok S ⟨y,r',e,h1,z,r2,e2,h2,h3⟩ hq=>by
  subst e e2 ha
  rw [show r2=[] from h3,show z=.type "int" from h2]
  obtain ⟨d,hd,rfl⟩:=h1
  obtain ⟨a1,o1,g1,m1,ys,m,hv,rfl⟩:=S.look hl
  obtain rfl:=Option.some.inj (hd.symm.trans g1)
  exact kia_one kitx_list (ok.X.keeps S.fr.keep) (kitAt_N S.nw m1 rfl) (by kernel_rfl) (by intro h; cases h) fun tk'=>hq _ v tk' (List.prefix_refl _) rfl S
noncomputable def xV (σ:Sy) (x:Str) (vs:List SV):Option (BA c n σ x vs):=match vs with
  | [a]=>(ay (x==Str.ofString "len")).elim
    ((ay (x==Str.ofString "list")).bind fun h=>(cI a).bind fun i=>(bR (σ.look i.1)).bind fun q=>(dH q.1).bind fun vs=>(ay (Nat.ble vs.1.length 100)).map fun hz=>⟨.type "list",mv h.down ⟨by kernel_rfl,by kernel_rfl,by decide,by decide⟩,.inr ⟨_,rfl⟩,_,_,pS i.2 (q.2.trans (congrArg some vs.2)) hz.down⟩)
    fun h=>(xI σ a).map (xH x h.down)
  | [a,b]=>(ay (x==Str.ofString "isinstance")).bind fun h=>(asU b).bind fun t=>(ay (qB t.1)).bind fun ht=>(cI a).bind fun i=>(bR (σ.look i.1)).bind fun q=>(dH q.1).map fun vs=>⟨.builtin "isinstance",mv h.down ⟨by kernel_rfl,by kernel_rfl,by decide,by decide⟩,.inl ⟨_,rfl⟩,.o false,σ,by rw [t.2,nG ht.down]; exact sA i.2 (q.2.trans (congrArg some vs.2))⟩
  | _=>none
noncomputable def sK (r:FnR) (x:Str) (ps:Pos) (σ:Sy):Option (CE c n r (.Name x ps) σ):=(ay (fQ (aa r 0) x)).bind fun hk=>(ay (x==Str.ofString "int")).map fun h=>⟨.u (.type "int"),σ,by
  rw [beq_iff_eq.mp h.down] at hk ⊢
  exact jD (v:=.type "int") (by kernel_rfl) (by kernel_rfl) (by decide) (by decide) hk.down⟩
theorem vD {y k e:PySem.Expr} {p ps:Pos} {rest:List Stmt} {w kk:SV} {i m b:Nat} {hb:m≤b} {z:Int} {res:Option SV} (hp:dy e) (h1:af c n σ (fun L=>eval e (aa r L)) (fun ρ x=>VR ρ w x) σ1) (h2:af c n σ1 (fun L=>eval y (aa r L)) (fun ρ x=>VR ρ (.s i) x) σ2) (h3:af c n σ2 (fun L=>eval k (aa r L)) (fun ρ x=>VR ρ kk x) σ3)
    (hk:∀ ρ x,VR ρ kk x→∃ t,x=.int z t) (hl:σ3.fr.lookup i=some (.M m b hb)) (hm:Nat.ble b 1000=true) (h4:af c n { σ3 with fr:=jB i (.M (m+1) (b+1) (Nat.succ_le_succ hb)) σ3.fr } (fun L=>execs rest (aa r L)) (ak res) σ4) :
    af c n σ (fun L=>execs (.Assign [.Subscript y k p] e ps::rest) (aa r L)) (ak res) σ4:=fun f v tk Q ok S hq=>
  wpAny_execs_cons (wpAny_Assign_Subscript (h1 f v tk _ ok S fun x v1 t1 p1 q1 S1=>h2 f v1 t1 _ ok S1 fun o v2 t2 p2 q2 S2=>h3 f v2 t2 _ ok S2 fun kx v3 t3 p3 q3 S3=>by
    obtain ⟨t,rfl⟩:=hk _ _ q3
    obtain ⟨d,hd,rfl⟩:=q2.up p3
    obtain ⟨a1,o1,g,ha,hm1,⟨w',kvs,ho,hlen⟩,U,hS⟩:=S3.turn (q:=.M (m+1) (b+1) (Nat.succ_le_succ hb)) hl
    obtain rfl:=Option.some.inj (hd.symm.trans ha)
    refine kda_set (s:=f.sh v3.h t3) S3.fr S3.nw U (intD (w':=c.w) ho) (intKind_is _ _ _ _) (by rw [sizeLine_eq]; exact Nat.le_trans hlen (Nat.le_trans hb (Nat.le_trans (Nat.le_of_ble_eq_true hm) (by decide)))) fun h' o' F' N' hd'=>?_
    refine h4 f _ _ Q ok (hS ⟨c.w,_,hd',?_⟩ F' N') fun z v4 t4 p4 q4 S4=>hq z v4 t4 (p1.trans (p2.trans (p3.trans p4))) q4 S4
    refine Nat.le_trans ?_ (Nat.succ_le_succ hlen)
    unfold stored
    split
    · rw [List.length_map]; exact Nat.le_succ _
    · rw [List.length_append]; exact Nat.le_refl _) (hp.swap _ _ _))
theorem oP {y:PySem.Expr} {a:Str} {ps:Pos} {u w:SV} {i C d m:Nat} {es:List (Str×SV)} {q q':SO} {g:Addr} {r':FnR} (hu:u=.s i) (hq:σ1.look i=some q) (hC:q=.I C d) (hq':σ1.look d=some q') (hD:q'=.D es m) (hp:c.k.pr.lookup (C,a)=some g) (hf:c.k.fn g 1=some r')
    (h1:af c (n+1) σ (fun L=>eval y (aa r L)) (fun ρ x=>VR ρ u x) σ1) (hS:af c n { σ1 with loc:=(r'.names.zip [u]++r'.extra).reverse } (fun L=>execs r'.body (aa r' L)) (ak (some w)) σ2) (hw:∀ ρ x,VR ρ w x→handedIn x=true)
    (he:∀ env:Env,eval (.Attribute y a ps) env=(do
      let o ← eval y env
      standAt ps.atName
      let r ← holding [o] (getAttr o a true)
      letTemporaryGo y o r
      pure r)):af c (n+1) σ (fun L=>eval (.Attribute y a ps) (aa r L)) (fun ρ x=>VR ρ w x) { σ2 with loc:=σ1.loc }:=fun f v tk Q ok S hQ=>
  PyProof.Rows.Attribute_any_ (h1 f v tk _ ok S fun x v1 t1 p1 q1 S1=>by
    obtain ⟨ad,dd,es',rfl,m1,m2,hE⟩:=S1.inst hu hq hC hq' hD q1
    obtain ⟨k1,k2,p,rest,k3,k4,k5,k6⟩:=c.hk.pr _ _ hp
    obtain ⟨rfl,hlen,fok⟩:=c.hk.fn _ _ _ hf
    refine get_prop (s:=f.sh v1.h t1) S1.fr ok.X (InstAt.of_news S1.nw m1 m2) k1 k2 k3 k4 k5 k6 ?_
    refine cn (f:={ f with A:=f.A.in1 }) (vs:=[u]) (loc:=σ1.loc) (tk:=t1+1) (res:=some w) fok hS ok.hd (by have:=ok.dp; show f.A.depth+1+2*n+c.lm≤890; exact lin (.c _ (.c _ (.c _ .z))) (.c (.a (.a (.v 0) (.m 2 (.a (.v 1) (.k 1)))) (.v 2)) (.k 890) .z) (.a (.a (.a (.v 0) (.k 1)) (.m 2 (.v 1))) (.v 2)) (.k 890) rfl this) (by have:=ok.un; show f.A.units+1+3+20*n+10*c.lm≤8900; exact lin (.c _ (.c _ (.c _ .z))) (.c (.a (.a (.v 0) (.m 20 (.a (.v 1) (.k 1)))) (.m 10 (.v 2))) (.k 8900) .z) (.a (.a (.a (.a (.v 0) (.k 1)) (.k 3)) (.m 20 (.v 1))) (.m 10 (.v 2))) (.k 8900) rfl this) ok.X ok.T { S1 with } rfl ⟨_,_,rfl,q1,rfl⟩ hlen.symm fun x v' tk' p q S' e _ _=>?_
    exact handed_on (hw _ _ q) (hQ x v' tk' (p1.trans p) q { S' with })) (he _)
end
end
section
set_option backward.match.sparseCases false
noncomputable section
variable {c:Ct} {n:Nat}
noncomputable def s9 (e:PySem.Expr):Option (PLift (dy e)):=match e with
  | .Name ..=>some ⟨⟨fun z_ z_=>rfl,fun z_ z_ z_=>rfl⟩⟩
  | .Constant ..=>some ⟨⟨fun z_ z_=>rfl,fun z_ z_ z_=>rfl⟩⟩
  | .Attribute ..=>some ⟨⟨fun z_ z_=>rfl,fun z_ z_ z_=>rfl⟩⟩
  | .Call ..=>some ⟨⟨fun z_ z_=>rfl,fun z_ z_ z_=>rfl⟩⟩
  | .BinOp ..=>some ⟨⟨fun z_ z_=>rfl,fun z_ z_ z_=>rfl⟩⟩
  | .Subscript ..=>some ⟨⟨fun z_ z_=>rfl,fun z_ z_ z_=>rfl⟩⟩
  | .Compare ..=>some ⟨⟨fun z_ z_=>rfl,fun z_ z_ z_=>rfl⟩⟩
  | .IfExp ..=>some ⟨⟨fun z_ z_=>rfl,fun z_ z_ z_=>rfl⟩⟩
  | .BoolOp ..=>some ⟨⟨fun z_ z_=>rfl,fun z_ z_ z_=>rfl⟩⟩
  | .Tuple ..=>some ⟨⟨fun z_ z_=>rfl,fun z_ z_ z_=>rfl⟩⟩
  | .List ..=>some ⟨⟨fun z_ z_=>rfl,fun z_ z_ z_=>rfl⟩⟩
  | .Dict ..=>some ⟨⟨fun z_ z_=>rfl,fun z_ z_ z_=>rfl⟩⟩
  | .UnaryOp ..=>some ⟨⟨fun z_ z_=>rfl,fun z_ z_ z_=>rfl⟩⟩
  | _=>none
noncomputable def rT (e:PySem.Expr):Option (PLift (br e)):=match e with
  | .ListComp ..=>some ⟨⟨fun z_ z_=>rfl⟩⟩
  | e=>(s9 e).map fun h=>⟨⟨h.down.star⟩⟩
theorem mJ {sep:List UInt8} {bs:List (Array UInt8)} {m:Nat} (hs:sep.length≤1) (hb:bs.length+ah bs≤m):sep.toArray.size*bs.length+ah bs≤m:=
  Nat.le_trans (Nat.add_le_add_right (Nat.le_trans (Nat.mul_le_mul_right _ hs) (Nat.le_of_eq (Nat.one_mul _))) _) hb
theorem rc {sep:List UInt8} {bs:List (Array UInt8)} {m:Nat} (hs:sep.length≤1) (hb:bs.length+ah bs≤m):(Builtin.Bytes.joined sep.toArray bs).size≤m:=Nat.le_trans (dk _ _) (mJ hs hb)
theorem iA {σ:Sy} {op:CmpOp} {a b:SV} {r:Bool} (h:ej c op a b r):ce c op σ a b r:=fun _ _ ha hb hq=>h ha hb (hq _)
noncomputable abbrev rU (c:Ct) (op:CmpOp) (y:PySem.Expr) (σ:Sy) (a b:SV):=(r:Bool) ×' (ok:ce c op σ a b r) ×' (behindInMarks op y=false)
noncomputable abbrev rU.r {c:Ct} {op:CmpOp} {y:PySem.Expr} {σ:Sy} {a b:SV} (q:rU c op y σ a b):Bool:=q.1
theorem rU.ok {c:Ct} {op:CmpOp} {y:PySem.Expr} {σ:Sy} {a b:SV} (q:rU c op y σ a b):ce c op σ a b q.r:=q.2.1
theorem rU.hm {c:Ct} {op:CmpOp} {y:PySem.Expr} {σ:Sy} {a b:SV} (q:rU c op y σ a b):behindInMarks op y=false:=q.2.2
noncomputable def rh (op:CmpOp) (y:PySem.Expr):Option (PLift (behindInMarks op y=false)):=match y with
  | .Name ..=>some ⟨rfl⟩
  | .Constant ..=>some ⟨rfl⟩
  | .Attribute ..=>some ⟨rfl⟩
  | .Call ..=>some ⟨rfl⟩
  | .Tuple ..=>some ⟨rfl⟩
  | _=>none
noncomputable def on (op:CmpOp) (y:PySem.Expr) (σ:Sy) (a b:SV):Option (rU c op y σ a b):=(rh op y).bind fun hm=>match op with
  | .In=>(xK σ a b).elim ((inC σ a b).map fun r=>⟨r.1,r.2,hm.down⟩) fun r=>some ⟨r.1,r.2,hm.down⟩
  | .NotIn=>none
  | op=>(xm op a b).map fun r=>⟨r.1,iA r.2,hm.down⟩
variable (R:ie c n) (orc:∀ g vs σ,Option (CC c 0 g vs σ))
noncomputable def mB (r:FnR) (x:Str) (ps:Pos) (σ:Sy):Option (CE c n r (.Name x ps) σ):=(ay (dX (aa r 0) x)).elim
  (((ay (fQ (aa r 0) x)).bind fun h=>(bR (c.k.gl.lookup x)).map fun u=>⟨u.1,σ,lh u.2 h.down⟩).elim (sK r x ps σ) some)
  fun h=>(bR (σ.loc.lookup x)).map fun u=>⟨u.1,σ,ed u.2 h.down⟩
noncomputable def gw (r:FnR) (y:PySem.Expr) (a:Str) (ps:Pos) (σ:Sy) (he:∀ env:Env,eval (.Attribute y a ps) env=(do
      let o ← eval y env
      standAt ps.atName
      let r ← holding [o] (getAttr o a true)
      letTemporaryGo y o r
      pure r)):Option (CE c n r (.Attribute y a ps) σ):=(R.E r y σ).bind fun q=>(uo q.σ' q.v a).map fun u=>⟨u.1,q.σ',pZ q.ok u.2 he⟩
noncomputable def cD (r:FnR) (x y:PySem.Expr) (ps:Pos) (σ:Sy) (hs:∀ a b,subscripted y false a b=operate [a,b] (getItem a b)):Option (CE c n r (.Subscript x y ps) σ):=
  (R.E r x σ).bind fun q=>(R.E r y q.σ').bind fun q'=>(wt q'.σ' q.v q'.v).map fun u=>⟨u.1,q'.σ',ry q.ok q'.ok u.2 hs⟩
theorem vo {n:Nat} {r:FnR} {e:PySem.Expr} {σ σ':Sy} {v:SV} {b:Bool} (h:v=.o b) (j:af c n σ (fun L=>eval e (aa r L)) (fun ρ x=>VR ρ v x) σ'):af c n σ (fun L=>eval e (aa r L)) (fun ρ x=>VR ρ (.o b) x) σ':=h▸j
theorem wU {n:Nat} {r:FnR} {e:PySem.Expr} {σ σ':Sy} {v:SV} {b:Nat} (h:v=.s b) (j:af c n σ (fun L=>eval e (aa r L)) (fun ρ x=>VR ρ v x) σ'):af c n σ (fun L=>eval e (aa r L)) (fun ρ x=>VR ρ (.s b) x) σ':=h▸j
theorem vk {n:Nat} {r:FnR} {e:PySem.Expr} {σ σ':Sy} {v:SV} {b:Addr} (h:v=.k b) (j:af c n σ (fun L=>eval e (aa r L)) (fun ρ x=>VR ρ v x) σ'):af c n σ (fun L=>eval e (aa r L)) (fun ρ x=>VR ρ (.k b) x) σ':=h▸j
noncomputable def mY (r:FnR) (op:BoolOp) (vs:List PySem.Expr) (ps:Pos) (σ:Sy):Option (CE c n r (.BoolOp op vs ps) σ):=match vs with
  | []=>none
  | [x]=>(R.E r x σ).map fun q=>⟨q.v,q.σ',tZ q.ok⟩
  | x::y::zs=>(R.E r x σ).bind fun q=>(xZ q.v).bind fun b=>match op,b with
    | .And,⟨true,h⟩=>(R.E r (.BoolOp .And (y::zs) ps) q.σ').map fun q'=>⟨q'.v,q'.σ',and1 (vo h q.ok) q'.ok⟩
    | .And,⟨false,h⟩=>some ⟨.o false,q.σ',and0 (vo h q.ok)⟩
    | .Or,⟨false,h⟩=>(R.E r (.BoolOp .Or (y::zs) ps) q.σ').map fun q'=>⟨q'.v,q'.σ',or0 (vo h q.ok) q'.ok⟩
    | .Or,⟨true,h⟩=>some ⟨.o true,q.σ',or1 (vo h q.ok)⟩
noncomputable def np (r:FnR) (x:Str) (pf:Pos) (xs:List PySem.Expr) (pc:Pos) (σ:Sy):Option (CE c n r (.Call (.Name x pf) xs [] pc) σ):=
  (R.E r (.Name x pf) σ).bind fun q=>(wZ q.v).bind fun fa=>(ay (c.k.kp.contains fa.1)).bind fun hk=>match xs with
    | []=>(R.C fa.1 [] q.σ').map fun q'=>⟨q'.v,q'.σ',uw (vk fa.2 q.ok) hk.down q'.ok⟩
    | e::es=>(rT e).bind fun hp=>(R.A r (e::es) q.σ').bind fun q'=>(R.C fa.1 q'.vs q'.σ').map fun q2=>⟨q2.v,q2.σ',wB (vk fa.2 q.ok) hk.down hp.down q'.pl q'.ok q2.ok⟩
noncomputable def dC (c:Ct) (σ:Sy) (u:SV) (a:Str) (g:Addr):Prop:=∀ {f:Fx} {v:Vr} {tk:Nat} {Q:Value×List Value→Shared→Prop} {x:Value} {pl:Sem Bool},(Mine.hd.heap_1 c.w.params).In f.h₀→St c f v σ→VR v.ρ u x→Q (.ref g,[x]) (f.sh v.h tk)→wpAny (model PG c.w) f.A (getMethod x a pl) Q f.E (f.sh v.h tk)
noncomputable abbrev xT (c:Ct):=∀ (u:SV) (a:Str) (σ:Sy),Option { g:Addr // dC c σ u a g∧keepIn (Mine.hd.heap_1 c.w.params) (.ref g)=true }
theorem fS {M:Model} {A:Around} {E:Value→Shared→Prop} {s:Shared} {env:Env} {o:PySem.Expr} {name:Str} {apos pos:Pos} {args:List PySem.Expr} {pl:Sem Bool} {Q:Value→Shared→Prop}
    (h:wpAny M A (eval o env) (fun ov s₁=>wpAny M A (getMethod ov name pl) (fun fx s₂=>wpAny M A (callWith pos fx.1 fx.2 (backTo pos (starEach args env)) []) Q E s₂) E s₁) E s)
    (he:eval (.Call (.Attribute o name apos) args [] pos) env=(do
      let ov ← eval o env
      standAt apos.atName
      let (f,first) ← holding [ov] (getMethod ov name pl)
      callWith pos f first (backTo pos (starEach args env)) [])) :
    wpAny M A (eval (.Call (.Attribute o name apos) args [] pos) env) Q E s:=by
  rw [he]
  exact wpAny_bind (wpAny_mono h (fun ov s₁ h₁=>wpAny_bind (wpAny_standAt (wpAny_bind (wpAny_holding (wpAny_mono h₁ (fun fx s₂ h₂=>h₂) fun _ _ x=>x))))) fun _ _ x=>x)
theorem j6 {y a:Str} {py pa pc:Pos} {e:PySem.Expr} {env:Env} (hp:br e) (hl:(pa.endLine==pc.line)=true):eval (.Call (.Attribute (.Name y py) a pa) [e] [] pc) env=(do
    let ov ← eval (.Name y py) env
    standAt pa.atName
    let (f,first) ← holding [ov] (getMethod ov a (do return (← importBound (.Name y py) env).getD true))
    callWith pc f first (backTo pc (starEach [e] env)) []):=by
  show (do
    let ov ← attributeBase (.Name y py) a env (eval (.Name y py) env)
    standAt pa.atName
    methodCall (.Name y py) a pa pc env ov 1 (backTo pc (starEach [e] env)) [])=_
  have form:methodCallForm 1 (backTo pc (starEach [e] env)) []=true:=by rw [hp.star]; rfl
  unfold methodCall
  rw [form]
  unfold calleeOf methodCallPos
  rw [hl]
  rfl
theorem qd {r:FnR} {σ σ1 σ2 σ3:Sy} {y a:Str} {py pa pc:Pos} {e:PySem.Expr} {u w:SV} {vs:List SV} {g:Addr} (h1:af c n σ (fun L=>eval (.Name y py) (aa r L)) (fun ρ x=>VR ρ u x) σ1) (hm:dC c σ1 u a g) (hk:keepIn (Mine.hd.heap_1 c.w.params) (.ref g)=true) (hp:br e) (hl:(pa.endLine==pc.line)=true)
    (hA:∀ pos,af c n σ1 (fun L=>spliced (backTo pos (starEach [e] (aa r L)))) (fun ρ xs=>aC ρ vs xs) σ2) (h2:aO c n σ2 g (u::vs) w σ3) :
    af c n σ (fun L=>eval (.Call (.Attribute (.Name y py) a pa) [e] [] pc) (aa r L)) (fun ρ x=>VR ρ w x) σ3:=fun f v tk Q ok S hq=>by
  refine fS ?_ (j6 hp hl)
  refine h1 f v tk _ ok S fun x v1 t1 p1 q1 S1=>hm ok.X S1 q1 ?_
  refine callWith_K ok.X hk (hA pc f v1 t1 _ ok S1 fun xs v2 t2 p2 q2 S2=>⟨ok.X.keeps S2.fr.keep,?_⟩) (hp.star _ _) rfl
  exact h2 f v2 t2 (x::xs) Q ok S2 ⟨x,xs,rfl,q1.up p2,q2⟩ fun z v3 t3 p3 q3 S3 _=>hq z v3 t3 (p1.trans (p2.trans p3)) q3 S3
theorem mD {y a:Str} {py pa pc:Pos} {env:Env} (hl:(pa.endLine==pc.line)=true):eval (.Call (.Attribute (.Name y py) a pa) [] [] pc) env=(do
    let ov ← eval (.Name y py) env
    standAt pa.atName
    let (f,first) ← holding [ov] (getMethod ov a (do return (← importBound (.Name y py) env).getD true))
    callWith pc f first (backTo pc (starEach [] env)) []):=by
  show (do
    let ov ← attributeBase (.Name y py) a env (eval (.Name y py) env)
    standAt pa.atName
    methodCall (.Name y py) a pa pc env ov 0 (backTo pc (starEach [] env)) [])=_
  have form:methodCallForm 0 (backTo pc (starEach [] env)) []=true:=rfl
  unfold methodCall
  rw [form]
  unfold calleeOf methodCallPos
  rw [hl]
  rfl
theorem nc {r:FnR} {σ σ1 σ2:Sy} {y a:Str} {py pa pc:Pos} {u w:SV} {g:Addr} (h1:af c n σ (fun L=>eval (.Name y py) (aa r L)) (fun ρ x=>VR ρ u x) σ1) (hm:dC c σ1 u a g) (hk:keepIn (Mine.hd.heap_1 c.w.params) (.ref g)=true) (hl:(pa.endLine==pc.line)=true) (h2:aO c n σ1 g [u] w σ2) :
    af c n σ (fun L=>eval (.Call (.Attribute (.Name y py) a pa) [] [] pc) (aa r L)) (fun ρ x=>VR ρ w x) σ2:=fun f v tk Q ok S hq=>by
  refine fS ?_ (mD hl)
  refine h1 f v tk _ ok S fun x v1 t1 p1 q1 S1=>hm ok.X S1 q1 ?_
  refine callWith_K0 (ok.X.keeps S1.fr.keep) hk ?_
  exact h2 f v1 t1 [x] Q ok S1 ⟨x,[],rfl,q1,rfl⟩ fun z v3 t3 p3 q3 S3 _=>hq z v3 t3 (p1.trans p3) q3 S3
noncomputable def w9 (u:SV) (a:Str) (σ:Sy):Option { g:Addr // dC c σ u a g∧keepIn (Mine.hd.heap_1 c.w.params) (.ref g)=true }:=
  (cI u).bind fun i=>(bR (σ.look i.1)).bind fun q=>(nD q.1).bind fun C=>(bR (σ.look C.1.2)).bind fun q'=>(ww q'.1).bind fun es=>(bR (c.k.mt.lookup (C.1.1,a))).bind fun g=>(ay (es.1.1.lookup a).isNone).map fun hn=>⟨g.1,fun X S hv hq=>by
    obtain ⟨ad,dd,es',rfl,m1,m2,hE⟩:=S.inst i.2 q.2 C.2 q'.2 es.2 hv
    obtain ⟨k1,k2,k3,_⟩:=c.hk.mt _ _ g.2
    exact method_inst S.fr X (InstAt.of_news S.nw m1 m2) k1 k2 k3 (hE.non hn.down) hq,(c.hk.mt _ _ g.2).2.2.2⟩
variable (mor:xT c)
noncomputable def nk (r:FnR) (y:Str) (py:Pos) (a:Str) (pa:Pos) (xs:List PySem.Expr) (pc:Pos) (σ:Sy):Option (CE c n r (.Call (.Attribute (.Name y py) a pa) xs [] pc) σ):=(ay (pa.endLine==pc.line)).bind fun hl=>(R.E r (.Name y py) σ).bind fun q=>((mor q.v a q.σ').elim (w9 q.v a q.σ') some).bind fun g=>match xs with
  | [e]=>(rT e).bind fun hp=>(R.A r [e] q.σ').bind fun q'=>(R.C g.1 (q.v::q'.vs) q'.σ').map fun q2=>⟨q2.v,q2.σ',qd q.ok g.2.1 g.2.2 hp.down hl.down q'.ok q2.ok⟩
  | []=>(R.C g.1 [q.v] q.σ').map fun q2=>⟨q2.v,q2.σ',nc q.ok g.2.1 g.2.2 hl.down q2.ok⟩
  | _=>none
noncomputable def pn (r:FnR) (x:Str) (pf:Pos) (xs:List PySem.Expr) (pc:Pos) (σ:Sy):Option (CE c n r (.Call (.Name x pf) xs [] pc) σ):=match xs with
  | []=>none
  | e::es=>(rT e).bind fun hp=>(ay (fQ (aa r 0) x)).bind fun hk=>(R.A r (e::es) σ).bind fun q=>(xV q.σ' x q.vs).map fun b=>⟨b.u,b.σ',mq b hk.down hp.down q.pl q.ok⟩
theorem mH {z:Int} (h:(z==1)=true):(SV.i z)=.i 1:=congrArg SV.i (beq_iff_eq.mp h)
noncomputable def pb (r:FnR) (y:Str) (py:Pos) (z:Int) (ci:Nat) (cp p1 ps:Pos) (σ:Sy):Option (CE c n r (.Subscript (.Name y py) (.Slice (some (.Constant (.int z) ci cp)) none none p1) ps) σ):=
  (ay (z==1)).bind fun h1=>(R.E r (.Name y py) σ).bind fun q=>(qT q.v).elim
    ((cI q.v).bind fun i=>(bR (q.σ'.look i.1)).bind fun o=>(dH o.1).bind fun vs=>(ay (Nat.ble vs.1.length 3)).map fun hz=>⟨.s q.σ'.nx,_,pW (w:=.i z) (o.2.trans (congrArg some vs.2)) (mH h1.down) hz.down (wU i.2 q.ok) (fun f v tk Q ok S hq=>wpAny_Constant_int (hq _ v _ (List.prefix_refl _) ⟨_,rfl⟩ S)) (fun z_ z_=>rfl) (fun z_ z_=>rfl)⟩)
    fun o=>(ay (Nat.ble (KBy.picked o.1 (some 1) none).size 1000)).bind fun hz=>(ay (!KBy.whole o.1 (some 1) none)).map fun hw=>⟨_,q.σ',oB (w:=.i z) o.2 (mH h1.down) hz.down (by simpa using hw.down) q.ok (fun f v tk Q ok S hq=>wpAny_Constant_int (hq _ v _ (List.prefix_refl _) ⟨_,rfl⟩ S)) (fun z_ z_=>rfl) (fun z_ z_ z_=>rfl)⟩
noncomputable def ox (r:FnR) (x1:Str) (p1:Pos) (kz:Int) (ki:Nat) (p2 p3:Pos) (x:Str) (px:Pos) (y:Str) (py:Pos) (scope:Scope) (pos:Pos) (σ:Sy):Option (CE c n r (.ListComp (.Subscript (.Name x1 p1) (.Constant (.int kz) ki p2) p3) [⟨.Name x px,.Name y py,[],0⟩] scope pos) σ):=
  (ay (x1==x)).bind fun hx=>(ay (dX (aa r 0) y)).bind fun hn=>(bR (σ.loc.lookup y)).bind fun u=>(cI u.1).bind fun i=>(bR (σ.look i.1)).bind fun o=>(dH o.1).bind fun vs=>(w6 σ kz.toNat vs.1).bind fun q=>(ay (decide (0≤kz∧kz≤1000))).bind fun hk=>(ay (sR scope x)).bind fun hsc=>(ay (Nat.ble vs.1.length 100)).map fun hz=>
    ⟨.s σ.nx,_,by rw [beq_iff_eq.mp hx.down]; exact s7 q hk.down hsc.down (o.2.trans (congrArg some vs.2)) hz.down (u.2.trans (congrArg some i.2)) hn.down⟩
theorem na {sep:List UInt8} {ci:Nat} {a:Str} {py pa pc:Pos} {e:PySem.Expr} {env:Env} (hp:br e) (hl:(pa.endLine==pc.line)=true):eval (.Call (.Attribute (.Constant (.bytes sep) ci py) a pa) [e] [] pc) env=(do
    let ov ← eval (.Constant (.bytes sep) ci py) env
    standAt pa.atName
    let (f,first) ← holding [ov] (getMethod ov a (do return (← importBound (.Constant (.bytes sep) ci py) env).getD true))
    callWith pc f first (backTo pc (starEach [e] env)) []):=by
  show (do
    let ov ← attributeBase (.Constant (.bytes sep) ci py) a env (eval (.Constant (.bytes sep) ci py) env)
    standAt pa.atName
    methodCall (.Constant (.bytes sep) ci py) a pa pc env ov 1 (backTo pc (starEach [e] env)) [])=_
  have form:methodCallForm 1 (backTo pc (starEach [e] env)) []=true:=by rw [hp.star]; rfl
  unfold methodCall
  rw [form]
  unfold calleeOf methodCallPos
  rw [hl]
  rfl
theorem fW {r:FnR} {σ σ1:Sy} {sep:List UInt8} {ci:Nat} {a:Str} {py pa pc:Pos} {e:PySem.Expr} {i:Nat} {bs:List (Array UInt8)} {m:Nat} {hb:bs.length+ah bs≤m} (ha:(a==Str.ofString "join")=true) (hp:br e) (hl:(pa.endLine==pc.line)=true)
    (h1:af c n σ (fun L=>eval e (aa r L)) (fun ρ x=>VR ρ (.s i) x) σ1) (hj:σ1.look i=some (.J bs m hb)) (hs:Nat.ble sep.length 1=true) (hm:Nat.ble m 100000=true) :
    af c n σ (fun L=>eval (.Call (.Attribute (.Constant (.bytes sep) ci py) a pa) [e] [] pc) (aa r L)) (fun ρ x=>VR ρ (.y (Builtin.Bytes.joined sep.toArray bs) m (rc (Nat.le_of_ble_eq_true hs) hb)) x) σ1:=fun f v tk Q ok S hq=>by
  obtain rfl:=beq_iff_eq.mp ha
  refine fS (PySem.W.Constant_bytes ?_) (na hp hl)
  refine KBd.method_of (.bytes _ _) (typeIs_bytes _ _ _) d4 kc KBd.noRef ?_
  refine PyProof.Rows.callWith_method1 ?_ (hp.star _ _)
  rw [hp.star]
  show wpAny _ _ (spliced [(false,_)]) _ _ _
  refine Calls.spliced_cons (h1 f v _ _ ok S fun z v2 t2 p2 q2 S2=>Calls.spliced_nil ?_)
  obtain ⟨d,hd,rfl⟩:=q2
  obtain ⟨a1,o1,g1,m1,r1⟩:=S2.look hj
  obtain rfl:=Option.some.inj (hd.symm.trans g1)
  obtain ⟨xs,k,hx,rfl⟩:=r1
  have hm:=Nat.le_of_ble_eq_true hm
  refine call_meetsIn d4 (typeIs_bytes _ _ _) gU (jZ _ _) (gN hx (Nat.le_trans (mJ (Nat.le_of_ble_eq_true hs) hb) (Nat.le_trans hm (by decide)))) ⟨News.isList S2.nw m1,fun t k=>?_⟩
  exact hq _ v2 k p2 .y S2
noncomputable def mK (r:FnR) (sep:List UInt8) (ci:Nat) (cp:Pos) (a:Str) (pa:Pos) (x:PySem.Expr) (pc:Pos) (σ:Sy):Option (CE c n r (.Call (.Attribute (.Constant (.bytes sep) ci cp) a pa) [x] [] pc) σ):=
  (ay (a==Str.ofString "join")).bind fun ha=>(rT x).bind fun hp=>(ay (pa.endLine==pc.line)).bind fun hl=>(R.E r x σ).bind fun q=>(cI q.v).bind fun i=>(bR (q.σ'.look i.1)).bind fun o=>(asJ o.1).bind fun j=>(ay (Nat.ble sep.length 1)).bind fun hs=>(ay (Nat.ble j.n 100000)).map fun hm=>
    ⟨_,q.σ',fW ha.down hp.down hl.down (wU i.2 q.ok) (o.2.trans (congrArg some j.e)) hs.down hm.down⟩
noncomputable def qg (r:FnR) (x:Str) (pf:Pos) (xs:List PySem.Expr) (pc:Pos) (σ:Sy) (hx:(x==Str.ofString "bytes")=true):Option (CE c n r (.Call (.Name x pf) xs [] pc) σ):=match xs with
  | [.List es pl]=>(ay (fQ (aa r 0) x)).bind fun hk=>(R.A r es σ).bind fun q=>(vW q.vs).bind fun ns=>(ay (ns.1.all fun n=>decide (0≤n∧n<256))).bind fun hr=>(ay (Nat.ble q.vs.length 100)).bind fun hl=>(ay (Nat.ble ns.1.length 100)).map fun hn=>
    ⟨_,q.σ',sM hx hk.down q.ok ns.2 hr.down hl.down hn.down⟩
  | _=>none
noncomputable def lT (r:FnR) (keys:List (Option PySem.Expr)) (vals:List PySem.Expr) (pos:Pos) (σ:Sy):Option (CE c n r (.Dict keys vals pos) σ):=
  (pairD R r keys vals { σ with fr:=(σ.nx,.N [])::σ.fr,nx:=σ.nx+1 }).bind fun q=>(vw q.σ'.fr).bind fun h=>(ay (Nat.beq h.1.1 σ.nx)).bind fun hi=>(ay (keys.all (·.isSome)&&keys.length==vals.length&&!keys.isEmpty&&Nat.ble keys.length 15&&decide (q.es.map (·.1)).Nodup)).map fun hk=>
    ⟨_,_,nC hk.down q.ok (h.2.trans (congrArg (fun i=>(i,SO.N [])::h.1.2) (Nat.eq_of_beq_eq_true hi.down)))⟩
noncomputable def nY (r:FnR) (z:Str) (pz:Pos) (y:Str) (py ps:Pos) (σ:Sy):Option (CE c n r (.Subscript (.Name z pz) (.Name y py) ps) σ):=
  (R.E r (.Name z pz) σ).bind fun q=>(R.E r (.Name y py) q.σ').bind fun q'=>(uA q'.σ' q.v q'.v).map fun u=>⟨_,q'.σ',pA u q.ok q'.ok⟩
noncomputable def vv (r:FnR) (e:PySem.Expr) (σ:Sy):Option (CE c n r e σ):=match e with
  | .Name x ps=>mB r x ps σ
  | .Constant k i ps=>(sP k).map fun u=>⟨u.1,σ,u.2⟩
  | .Attribute (.Name x p) a ps=>gw R r (.Name x p) a ps σ fun z_=>by with_unfolding_all rfl
  | .Attribute (.Attribute y b p) a ps=>gw R r (.Attribute y b p) a ps σ fun z_=>by with_unfolding_all rfl
  | .Compare x [op] [y] ps=>(R.E r x σ).bind fun q=>(R.E r y q.σ').bind fun q'=>(on op y q'.σ' q.v q'.v).map fun u=>⟨.o u.r,q'.σ',lE q.ok q'.ok u.ok u.hm⟩
  | .BinOp x op y ps=>(R.E r x σ).bind fun q=>(R.E r y q.σ').bind fun q'=>(xh op q.v q'.v).map fun u=>⟨u.1,q'.σ',jE q.ok q'.ok u.2⟩
  | .Subscript (.Name z pz) (.Name y p) ps=>(nY R r z pz y p ps σ).elim (cD R r (.Name z pz) (.Name y p) ps σ fun z_ z_=>rfl) some
  | .Subscript x (.Name y p) ps=>cD R r x (.Name y p) ps σ fun z_ z_=>rfl
  | .Subscript x (.Constant y i p) ps=>cD R r x (.Constant y i p) ps σ fun z_ z_=>rfl
  | .Subscript x (.Call y b k p) ps=>cD R r x (.Call y b k p) ps σ fun z_ z_=>rfl
  | .Subscript x (.BinOp y b k p) ps=>cD R r x (.BinOp y b k p) ps σ fun z_ z_=>rfl
  | .Subscript x (.Attribute y b p) ps=>cD R r x (.Attribute y b p) ps σ fun z_ z_=>rfl
  | .IfExp t x y ps=>(R.T r t σ).bind fun q=>(R.E r (cond q.b x y) q.σ').map fun q'=>⟨q'.v,q'.σ',ml q.ok q'.ok⟩
  | .BoolOp op vs ps=>mY R r op vs ps σ
  | .Call (.Name x pf) xs [] pc=>cond (x==Str.ofString "len"||x==Str.ofString "list"||x==Str.ofString "isinstance") (pn R r x pf xs pc σ) ((ay (x==Str.ofString "bytes")).elim (np R r x pf xs pc σ) fun h=>qg R r x pf xs pc σ h.down)
  | .Call (.Attribute (.Name y py) a pa) xs [] pc=>nk R mor r y py a pa xs pc σ
  | .Call (.Attribute (.Constant (.bytes sep) ci cp) a pa) [x] [] pc=>mK R r sep ci cp a pa x pc σ
  | .Subscript (.Name y py) (.Slice (some (.Constant (.int z) ci cp)) none none p1) ps=>pb R r y py z ci cp p1 ps σ
  | .ListComp (.Subscript (.Name x1 p1) (.Constant (.int kz) ki p2) p3) [⟨.Name x px,.Name y py,[],0⟩] scope pos=>ox r x1 p1 kz ki p2 p3 x px y py scope pos σ
  | .Tuple es i pt=>(R.A r es σ).bind fun q=>(ay (Nat.ble q.vs.length 100)).map fun h=>⟨.s q.σ'.nx,_,iJ q.ok h.down⟩
  | .List es pt=>(R.A r es σ).bind fun q=>(ay (Nat.ble q.vs.length 100)).map fun h=>⟨.s q.σ'.nx,_,sj q.ok h.down⟩
  | .Dict [] [] pt=>some ⟨.s σ.nx,_,s6⟩
  | .Dict keys vals pt=>lT R r keys vals pt σ
  | _=>none
noncomputable def gg (r:FnR) (e:PySem.Expr) (σ:Sy) (he:∀ (env:Env) (whole:Sem Value),isTrue e env whole=(do let v ← whole; standAt e.pos; holding [v] (truthy v))):Option (CT c n r e σ):=(R.E r e σ).bind fun q=>(xZ q.v).map fun b=>⟨b.1,q.σ',sk he (vo b.2 q.ok)⟩
noncomputable def stepT (r:FnR) (e:PySem.Expr) (σ:Sy):Option (CT c n r e σ):=match e with
  | .Compare x [op] [y] ps=>(R.E r x σ).bind fun q=>(R.E r y q.σ').bind fun q'=>(on op y q'.σ' q.v q'.v).map fun u=>⟨u.r,q'.σ',ke q.ok q'.ok u.ok u.hm⟩
  | .Compare x [p1,p2] [y,z] ps=>(ay (!lastMarks [p1,p2] [y,z])).bind fun hm=>(R.E r x σ).bind fun q=>(R.E r y q.σ').bind fun q'=>(on p1 y q'.σ' q.v q'.v).bind fun u=>match u with
    | ⟨false,ok,_⟩=>some ⟨false,q'.σ',sQ q.ok q'.ok ok (by simpa using hm.down)⟩
    | ⟨true,ok,_⟩=>(R.E r z q'.σ').bind fun q2=>(on p2 z q2.σ' q'.v q2.v).map fun u2=>⟨u2.r,q2.σ',s5 q.ok q'.ok ok q2.ok u2.ok (by simpa using hm.down)⟩
  | .UnaryOp .Not x ps=>(R.T r x σ).map fun q=>⟨!q.b,q.σ',sO q.ok⟩
  | .BoolOp .And [] ps=>some ⟨true,σ,wI⟩
  | .BoolOp .Or [] ps=>some ⟨false,σ,wo⟩
  | .BoolOp .And (x::xs) ps=>(R.T r x σ).bind fun q=>match q with
    | ⟨true,σ1,ok⟩=>(R.T r (.BoolOp .And xs ps) σ1).map fun q'=>⟨q'.b,q'.σ',qG ok q'.ok⟩
    | ⟨false,σ1,ok⟩=>some ⟨false,σ1,re ok⟩
  | .BoolOp .Or (x::xs) ps=>(R.T r x σ).bind fun q=>match q with
    | ⟨false,σ1,ok⟩=>(R.T r (.BoolOp .Or xs ps) σ1).map fun q'=>⟨q'.b,q'.σ',kQ ok q'.ok⟩
    | ⟨true,σ1,ok⟩=>some ⟨true,σ1,xq ok⟩
  | .Name x p=>gg R r (.Name x p) σ fun z_ z_=>rfl
  | .Attribute y a p=>gg R r (.Attribute y a p) σ fun z_ z_=>rfl
  | .Call f xs ks p=>gg R r (.Call f xs ks p) σ fun z_ z_=>rfl
  | .Subscript x y p=>gg R r (.Subscript x y p) σ fun z_ z_=>rfl
  | _=>none
noncomputable def ue (r:FnR) (es:List PySem.Expr) (σ:Sy):Option (CA c n r es σ):=match es with
  | []=>some ⟨[],σ,plN,mG⟩
  | x::xs=>(rT x).bind fun hp=>(R.E r x σ).bind fun q=>(R.A r xs q.σ').map fun q'=>⟨q.v::q'.vs,q'.σ',plC hp.down q'.pl,gV hp.down q.ok q'.ok⟩
noncomputable def wN (r:FnR) (ss:List Stmt) (σ:Sy):Option (CS c n r ss σ):=match ss with
  | []=>some ⟨none,σ,oV⟩
  | .Assign [.Name x px] e ps::rest=>(s9 e).bind fun hp=>(ay (dX (aa r 0) x)).bind fun hx=>(R.E r e σ).bind fun q=>(R.S r rest { q.σ' with loc:=put x q.v q.σ'.loc }).map fun q'=>⟨q'.res,q'.σ',qH hp.down hx.down q.ok q'.ok⟩
  | .Assign [.Attribute y a pa] e ps::rest=>(s9 e).bind fun hp=>(R.E r e σ).bind fun q=>(R.E r y q.σ').bind fun q'=>(xU q'.σ' q'.v a q.v).bind fun s=>(R.S r rest s.1).map fun q2=>⟨q2.res,q2.σ',wf hp.down q.ok q'.ok s.2 q2.ok⟩
  | .Assign [.Tuple ts k p] (.Tuple vs k2 p2) ps::rest=>(swC r ts vs).bind fun sw=>(R.E r (.Tuple vs k2 p2) σ).bind fun q=>(cI q.v).bind fun i=>(bR (q.σ'.look i.1)).bind fun o=>(gQ o.1).bind fun us=>(ay (sw.N.length==us.1.length)).bind fun hN=>(ay ((sw.N.zip us.1).reverse.all fun q=>dX (aa r 0) q.1)).bind fun ha=>
    (R.S r rest { q.σ' with loc:=putAll (sw.N.zip us.1).reverse q.σ'.loc }).map fun q'=>⟨q'.res,q'.σ',xF sw.ok hN.down ha.down (wU i.2 q.ok) (us.2▸o.2) q'.ok⟩
  | .Assign [.Subscript y k p] e ps::rest=>(s9 e).bind fun hp=>(R.E r e σ).bind fun q=>(R.E r y q.σ').bind fun q1=>(cI q1.v).bind fun i=>(R.E r k q1.σ').bind fun q2=>(dr q2.v).bind fun z=>(bR (q2.σ'.fr.lookup i.1)).bind fun o=>(asM o.1).bind fun m=>(ay (Nat.ble m.b 1000)).bind fun hm=>(R.S r rest { q2.σ' with fr:=jB i.1 (.M (m.n+1) (m.b+1) (Nat.succ_le_succ m.h)) q2.σ'.fr }).map fun q3=>
    ⟨q3.res,q3.σ',vD hp.down q.ok (wU i.2 q1.ok) q2.ok z.2 (o.2.trans (congrArg some m.e)) hm.down q3.ok⟩
  | .Return (some e) ps::rest=>(R.E r e σ).map fun q=>⟨some q.v,q.σ',ny q.ok⟩
  | .Expr e ps::rest=>(s9 e).bind fun hp=>(ay (r.scope.kind==.function)).bind fun hk=>(R.E r e σ).bind fun q=>(R.S r rest q.σ').map fun q'=>⟨q'.res,q'.σ',tD hp.down hk.down q.ok q'.ok⟩
  | .If t x y ps::rest=>(R.T r t σ).bind fun q=>(R.S r (cond q.b x y) q.σ').bind fun q'=>match q' with
    | ⟨none,σ2,ok⟩=>(R.S r rest σ2).map fun q2=>⟨q2.res,q2.σ',oY q.ok ok q2.ok⟩
    | ⟨some u,σ2,ok⟩=>some ⟨some u,σ2,oX q.ok ok⟩
  | _=>none
theorem rW {g:Addr} {vs:List SV} {σ σ':Sy} {u:SV} (h:aO c 0 σ g vs u σ'):aO c n σ g vs u σ':=fun f v tk xs Q ok=>h f v tk xs Q ok.zero
noncomputable def tE (R:ie c n) (g:Addr) (vs:List SV) (σ:Sy):Option (CC c (n+1) g vs σ):=
  Option.rec (motive:=fun o=>c.k.cl g=o→Option (CC c (n+1) g vs σ))
    (fun z_=>(bR (c.k.fn g vs.length)).bind fun r=>(R.S r.1 r.1.body { σ with loc:=(r.1.names.zip vs++r.1.extra).reverse }).map fun q=>⟨q.res.getD .n,_,uK r.2 q.ok⟩)
    (fun g' hc=>(bR (c.k.fn g' (vs.length+1))).bind fun r=>(R.S r.1 r.1.body { σ with loc:=(r.1.names.zip (.s (σ.nx+1)::vs)++r.1.extra).reverse,fr:=(σ.nx+1,.I g σ.nx)::(σ.nx,.D [] 0)::σ.fr,nx:=σ.nx+2 }).bind fun q=>match q with
      | ⟨none,σ1,ok⟩=>some ⟨.s (σ.nx+1),_,sx hc r.2 ok⟩
      | _=>none)
    (c.k.cl g) rfl
noncomputable def lZ (R:ie c (n+1)) (R':ie c n) (r:FnR) (e:PySem.Expr) (σ:Sy):Option (CE c (n+1) r e σ):=match e with
  | .Attribute (.Name y py) a ps=>(R.E r (.Name y py) σ).bind fun q=>(cI q.v).bind fun i=>(bR (q.σ'.look i.1)).bind fun o=>(nD o.1).bind fun C=>(bR (q.σ'.look C.1.2)).bind fun o'=>(ww o'.1).bind fun es=>(bR (c.k.pr.lookup (C.1.1,a))).bind fun g=>(bR (c.k.fn g.1 1)).bind fun r'=>(R'.S r'.1 r'.1.body { q.σ' with loc:=(r'.1.names.zip [q.v]++r'.1.extra).reverse }).bind fun q2=>match q2 with
    | ⟨some w,σ2,ok⟩=>(handed w).map fun hw=>⟨w,_,oP i.2 o.2 C.2 o'.2 es.2 g.2 r'.2 q.ok ok hw.down fun z_=>by with_unfolding_all rfl⟩
    | _=>none
  | _=>none
noncomputable def cR (k:Nat):(d:Nat)→ie c d:=Nat.rec (motive:=fun z_=>(d:Nat)→ie c d) (fun z_=>⟨fun z_ z_ z_=>none,fun z_ z_ z_=>none,fun z_ z_ z_=>none,fun z_ z_ z_=>none,fun z_ z_ z_=>none⟩)
  (fun _ ih d=>⟨fun r e σ=>(vv (ih d) mor r e σ).elim (Nat.rec (motive:=fun d=>ie c d→Option (CE c d r e σ)) (fun z_=>none) (fun d _ R=>lZ R (ih d) r e σ) d (ih d)) some,stepT (ih d),ue (ih d),wN (ih d),fun g vs σ=>(orc g vs σ).elim (Nat.rec (motive:=fun d=>ie c d→Option (CC c d g vs σ)) (fun z_=>none) (fun d _ _=>tE (ih d) g vs σ) d (ih d)) fun q=>some ⟨q.v,q.σ',rW q.ok⟩⟩) k
noncomputable def uN (n:Nat):ie c n:=cR orc mor n n
noncomputable def iL:xT c:=fun z_ z_ z_=>none
noncomputable def run (n:Nat):ie c n:=uN orc iL n
end
end
section
theorem nr {α:Type} {l:List α} (h:l.length=0):l=[]:=List.eq_nil_of_length_eq_zero h
theorem nM {α:Type} {l:List α} {n:Nat} (h:l.length=n+1):∃ a r,l=a::r∧r.length=n:=by
  cases l with
  | nil=>cases h
  | cons a r=>exact ⟨a,r,rfl,Nat.succ.inj h⟩
theorem bK {α:Type} {l:List α} (h:l.length=1):∃ a,l=[a]:=by
  obtain ⟨a,r,rfl,h2⟩:=nM h
  exact ⟨a,by rw [nr h2]⟩
theorem cP {α:Type} {l:List α} (h:l.length=2):∃ a b,l=[a,b]:=by
  obtain ⟨a,r,rfl,h2⟩:=nM h
  obtain ⟨b,rfl⟩:=bK h2
  exact ⟨a,b,rfl⟩
theorem nX {α:Type} {l:List α} (h:l.length=3):∃ a b c,l=[a,b,c]:=by
  obtain ⟨a,r,rfl,h2⟩:=nM h
  obtain ⟨b,c,rfl⟩:=cP h2
  exact ⟨a,b,c,rfl⟩
theorem si {α:Type} {l:List α} (h:l.length=4):∃ a b c d,l=[a,b,c,d]:=by
  obtain ⟨a,r,rfl,h2⟩:=nM h
  obtain ⟨b,c,d,rfl⟩:=nX h2
  exact ⟨a,b,c,d,rfl⟩
theorem sX {α:Type} {l:List α} (h:l.length=5):∃ a b c d e,l=[a,b,c,d,e]:=by
  obtain ⟨a,r,rfl,h2⟩:=nM h
  obtain ⟨b,c,d,e,rfl⟩:=si h2
  exact ⟨a,b,c,d,e,rfl⟩
theorem ai.of {P:Params} {r:FnR} (a:Addr) (ha:r.a=a) {oc:Value} {od:Option Addr} {osl:Array (Option Value)} {nm:Str} {params:Arguments} {dV kV doc pm ct:Value} {an:Option Addr}
    (ho:(Mine.hd.heap_1 P).lookup a=some ⟨oc,od,.func (fnOf nm r.qual params r.body r.scope dV kV doc pm an (.ref (a - 1)) ct),osl⟩)
    (hb:∀ (s:Shared) (vs:List Value),vs.length=r.names.length→(Mine.hd.heap_1 P).In s.heap→∃ ex,aC [] (r.extra.map (·.2)) ex∧BindsTo s (fnOf nm r.qual params r.body r.scope dV kV doc pm an (.ref (a - 1)) ct) ⟨vs,[]⟩ (r.names.zip vs++(r.extra.map (·.1)).zip ex))
    (cd:codeIn (Mine.hd.heap_1 P) (.ref (r.a - 1)) r.qual=true) (ok:(r.scope.isCoroutine==false&&r.scope.isGenerator==false&&r.scope.kind==.function&&r.scope.names.all (fun x=>x.2 != .cell)&&(r.names++r.extra.map (·.1)).all fun x=>r.scope.names.lookup x==some .local)=true) (cl:r.cl=[]):ai P r:=by
  subst ha
  exact ⟨⟨⟨_,_,_,_,_,_,_,_,_,_,_,ho⟩,hb⟩,cd,ok,cl⟩
noncomputable def fn83_3:FnR:=⟨83,[.ofString "self",.ofString "kind",.ofString "value"],[(.ofString "is_exec",.o false),(.ofString "access",.i 3)],Y.dB (Y.e 12 0),Y.dS (Y.e 12 0),.ofString "Thing.__init__",[]⟩
theorem ku (P:Params):ai P fn83_3:=by
  refine' ai.of 83 rfl ?h ?b (by kernel_rfl) (by kernel_rfl) rfl
  case h=>k_is
  case b=>
    intro s vs hl hX
    obtain ⟨x0,x1,x2,rfl⟩:=nX hl
    exact ⟨[.bool false,.int 3 270],⟨_,_,rfl,rfl,⟨_,_,rfl,⟨_,rfl⟩,rfl⟩⟩,binds_K hX rfl (by k_is) rfl rfl (by kernel_rfl)⟩
noncomputable def fn83_4:FnR:=⟨83,[.ofString "self",.ofString "kind",.ofString "value",.ofString "is_exec"],[(.ofString "access",.i 3)],Y.dB (Y.e 12 0),Y.dS (Y.e 12 0),.ofString "Thing.__init__",[]⟩
theorem lu (P:Params):ai P fn83_4:=by
  refine' ai.of 83 rfl ?h ?b (by kernel_rfl) (by kernel_rfl) rfl
  case h=>k_is
  case b=>
    intro s vs hl hX
    obtain ⟨x0,x1,x2,x3,rfl⟩:=si hl
    exact ⟨[.int 3 270],⟨_,_,rfl,⟨_,rfl⟩,rfl⟩,binds_K hX rfl (by k_is) rfl rfl (by kernel_rfl)⟩
noncomputable def fn83_5:FnR:=⟨83,[.ofString "self",.ofString "kind",.ofString "value",.ofString "is_exec",.ofString "access"],[],Y.dB (Y.e 12 0),Y.dS (Y.e 12 0),.ofString "Thing.__init__",[]⟩
theorem kH (P:Params):ai P fn83_5:=by
  refine' ai.of 83 rfl ?h ?b (by kernel_rfl) (by kernel_rfl) rfl
  case h=>k_is
  case b=>
    intro s vs hl hX
    obtain ⟨x0,x1,x2,x3,x4,rfl⟩:=sX hl
    exact ⟨[],rfl,binds_K hX rfl (by k_is) rfl rfl (by kernel_rfl)⟩
noncomputable def fn179_4:FnR:=⟨179,[.ofString "self",.ofString "body",.ofString "start",.ofString "many"],[],Y.dB (Y.e 16 0),Y.dS (Y.e 16 0),.ofString "Span.__init__",[]⟩
theorem jp (P:Params):ai P fn179_4:=by
  refine' ai.of 179 rfl ?h ?b (by kernel_rfl) (by kernel_rfl) rfl
  case h=>k_is
  case b=>
    intro s vs hl hX
    obtain ⟨x0,x1,x2,x3,rfl⟩:=si hl
    exact ⟨[],rfl,BindsTo.of_eq (by kernel_rfl)⟩
noncomputable def fn193_1:FnR:=⟨193,[.ofString "number"],[],Y.dB (Y.d 17),Y.dS (Y.d 17),.ofString "integer",[]⟩
theorem iU (P:Params):ai P fn193_1:=by
  refine' ai.of 193 rfl ?h ?b (by kernel_rfl) (by kernel_rfl) rfl
  case h=>k_is
  case b=>
    intro s vs hl hX
    obtain ⟨x0,rfl⟩:=bK hl
    exact ⟨[],rfl,BindsTo.of_eq (by kernel_rfl)⟩
noncomputable def fn200_1:FnR:=⟨200,[.ofString "millionths"],[],Y.dB (Y.d 18),Y.dS (Y.d 18),.ofString "real",[]⟩
theorem il (P:Params):ai P fn200_1:=by
  refine' ai.of 200 rfl ?h ?b (by kernel_rfl) (by kernel_rfl) rfl
  case h=>k_is
  case b=>
    intro s vs hl hX
    obtain ⟨x0,rfl⟩:=bK hl
    exact ⟨[],rfl,BindsTo.of_eq (by kernel_rfl)⟩
noncomputable def fn207_1:FnR:=⟨207,[.ofString "truth"],[],Y.dB (Y.d 19),Y.dS (Y.d 19),.ofString "boolean",[]⟩
theorem ju (P:Params):ai P fn207_1:=by
  refine' ai.of 207 rfl ?h ?b (by kernel_rfl) (by kernel_rfl) rfl
  case h=>k_is
  case b=>
    intro s vs hl hX
    obtain ⟨x0,rfl⟩:=bK hl
    exact ⟨[],rfl,BindsTo.of_eq (by kernel_rfl)⟩
noncomputable def fn215_2:FnR:=⟨215,[.ofString "octets",.ofString "is_exec"],[],Y.dB (Y.d 20),Y.dS (Y.d 20),.ofString "name",[]⟩
theorem jo (P:Params):ai P fn215_2:=by
  refine' ai.of 215 rfl ?h ?b (by kernel_rfl) (by kernel_rfl) rfl
  case h=>k_is
  case b=>
    intro s vs hl hX
    obtain ⟨x0,x1,rfl⟩:=cP hl
    exact ⟨[],rfl,binds_K hX rfl (by k_is) rfl rfl (by kernel_rfl)⟩
noncomputable def fn222_1:FnR:=⟨222,[.ofString "octets"],[],Y.dB (Y.d 21),Y.dS (Y.d 21),.ofString "operator_thing",[]⟩
theorem iz (P:Params):ai P fn222_1:=by
  refine' ai.of 222 rfl ?h ?b (by kernel_rfl) (by kernel_rfl) rfl
  case h=>k_is
  case b=>
    intro s vs hl hX
    obtain ⟨x0,rfl⟩:=bK hl
    exact ⟨[],rfl,BindsTo.of_eq (by kernel_rfl)⟩
noncomputable def fn229_0:FnR:=⟨229,[],[],Y.dB (Y.d 22),Y.dS (Y.d 22),.ofString "mark",[]⟩
theorem iv (P:Params):ai P fn229_0:=by
  refine' ai.of 229 rfl ?h ?b (by kernel_rfl) (by kernel_rfl) rfl
  case h=>k_is
  case b=>
    intro s vs hl hX
    obtain rfl:=nr hl
    exact ⟨[],rfl,BindsTo.of_eq (by kernel_rfl)⟩
noncomputable def fn236_0:FnR:=⟨236,[],[],Y.dB (Y.d 23),Y.dS (Y.d 23),.ofString "null",[]⟩
theorem jS (P:Params):ai P fn236_0:=by
  refine' ai.of 236 rfl ?h ?b (by kernel_rfl) (by kernel_rfl) rfl
  case h=>k_is
  case b=>
    intro s vs hl hX
    obtain rfl:=nr hl
    exact ⟨[],rfl,BindsTo.of_eq (by kernel_rfl)⟩
noncomputable def fn244_2:FnR:=⟨244,[.ofString "text",.ofString "is_exec"],[(.ofString "access",.i 3)],Y.dB (Y.d 24),Y.dS (Y.d 24),.ofString "of_string",[]⟩
theorem i7 (P:Params):ai P fn244_2:=by
  refine' ai.of 244 rfl ?h ?b (by kernel_rfl) (by kernel_rfl) rfl
  case h=>k_is
  case b=>
    intro s vs hl hX
    obtain ⟨x0,x1,rfl⟩:=cP hl
    exact ⟨[.int 3 270],⟨_,_,rfl,⟨_,rfl⟩,rfl⟩,binds_K hX rfl (by k_is) rfl rfl (by kernel_rfl)⟩
noncomputable def fn252_2:FnR:=⟨252,[.ofString "row",.ofString "is_exec"],[(.ofString "access",.i 3)],Y.dB (Y.d 25),Y.dS (Y.d 25),.ofString "of_row",[]⟩
theorem iF (P:Params):ai P fn252_2:=by
  refine' ai.of 252 rfl ?h ?b (by kernel_rfl) (by kernel_rfl) rfl
  case h=>k_is
  case b=>
    intro s vs hl hX
    obtain ⟨x0,x1,rfl⟩:=cP hl
    exact ⟨[.int 3 270],⟨_,_,rfl,⟨_,rfl⟩,rfl⟩,binds_K hX rfl (by k_is) rfl rfl (by kernel_rfl)⟩
noncomputable def fn260_2:FnR:=⟨260,[.ofString "row",.ofString "is_exec"],[],Y.dB (Y.d 26),Y.dS (Y.d 26),.ofString "of_packed",[]⟩
theorem jv (P:Params):ai P fn260_2:=by
  refine' ai.of 260 rfl ?h ?b (by kernel_rfl) (by kernel_rfl) rfl
  case h=>k_is
  case b=>
    intro s vs hl hX
    obtain ⟨x0,x1,rfl⟩:=cP hl
    exact ⟨[],rfl,binds_K hX rfl (by k_is) rfl rfl (by kernel_rfl)⟩
noncomputable def fn267_1:FnR:=⟨267,[.ofString "body"],[],Y.dB (Y.d 27),Y.dS (Y.d 27),.ofString "of_dict",[]⟩
theorem jJ (P:Params):ai P fn267_1:=by
  refine' ai.of 267 rfl ?h ?b (by kernel_rfl) (by kernel_rfl) rfl
  case h=>k_is
  case b=>
    intro s vs hl hX
    obtain ⟨x0,rfl⟩:=bK hl
    exact ⟨[],rfl,BindsTo.of_eq (by kernel_rfl)⟩
noncomputable def fn274_1:FnR:=⟨274,[.ofString "number"],[],Y.dB (Y.d 28),Y.dS (Y.d 28),.ofString "of_save",[]⟩
theorem jy (P:Params):ai P fn274_1:=by
  refine' ai.of 274 rfl ?h ?b (by kernel_rfl) (by kernel_rfl) rfl
  case h=>k_is
  case b=>
    intro s vs hl hX
    obtain ⟨x0,rfl⟩:=bK hl
    exact ⟨[],rfl,BindsTo.of_eq (by kernel_rfl)⟩
noncomputable def fn281_1:FnR:=⟨281,[.ofString "number"],[],Y.dB (Y.d 29),Y.dS (Y.d 29),.ofString "font_id",[]⟩
theorem iY (P:Params):ai P fn281_1:=by
  refine' ai.of 281 rfl ?h ?b (by kernel_rfl) (by kernel_rfl) rfl
  case h=>k_is
  case b=>
    intro s vs hl hX
    obtain ⟨x0,rfl⟩:=bK hl
    exact ⟨[],rfl,BindsTo.of_eq (by kernel_rfl)⟩
noncomputable def fn288_1:FnR:=⟨288,[.ofString "thing"],[],Y.dB (Y.d 30),Y.dS (Y.d 30),.ofString "is_number",[]⟩
theorem jI (P:Params):ai P fn288_1:=by
  refine' ai.of 288 rfl ?h ?b (by kernel_rfl) (by kernel_rfl) rfl
  case h=>k_is
  case b=>
    intro s vs hl hX
    obtain ⟨x0,rfl⟩:=bK hl
    exact ⟨[],rfl,BindsTo.of_eq (by kernel_rfl)⟩
noncomputable def fn295_1:FnR:=⟨295,[.ofString "thing"],[],Y.dB (Y.d 31),Y.dS (Y.d 31),.ofString "is_in_array",[]⟩
theorem jG (P:Params):ai P fn295_1:=by
  refine' ai.of 295 rfl ?h ?b (by kernel_rfl) (by kernel_rfl) rfl
  case h=>k_is
  case b=>
    intro s vs hl hX
    obtain ⟨x0,rfl⟩:=bK hl
    exact ⟨[],rfl,BindsTo.of_eq (by kernel_rfl)⟩
noncomputable def fn302_1:FnR:=⟨302,[.ofString "thing"],[],Y.dB (Y.d 32),Y.dS (Y.d 32),.ofString "body_of",[]⟩
theorem iW (P:Params):ai P fn302_1:=by
  refine' ai.of 302 rfl ?h ?b (by kernel_rfl) (by kernel_rfl) rfl
  case h=>k_is
  case b=>
    intro s vs hl hX
    obtain ⟨x0,rfl⟩:=bK hl
    exact ⟨[],rfl,BindsTo.of_eq (by kernel_rfl)⟩
noncomputable def fn316_1:FnR:=⟨316,[.ofString "thing"],[],Y.dB (Y.d 34),Y.dS (Y.d 34),.ofString "access_of",[]⟩
theorem jU (P:Params):ai P fn316_1:=by
  refine' ai.of 316 rfl ?h ?b (by kernel_rfl) (by kernel_rfl) rfl
  case h=>k_is
  case b=>
    intro s vs hl hX
    obtain ⟨x0,rfl⟩:=bK hl
    exact ⟨[],rfl,BindsTo.of_eq (by kernel_rfl)⟩
noncomputable def fn323_1:FnR:=⟨323,[.ofString "thing"],[],Y.dB (Y.d 35),Y.dS (Y.d 35),.ofString "can_read",[]⟩
theorem ig (P:Params):ai P fn323_1:=by
  refine' ai.of 323 rfl ?h ?b (by kernel_rfl) (by kernel_rfl) rfl
  case h=>k_is
  case b=>
    intro s vs hl hX
    obtain ⟨x0,rfl⟩:=bK hl
    exact ⟨[],rfl,BindsTo.of_eq (by kernel_rfl)⟩
noncomputable def fn330_1:FnR:=⟨330,[.ofString "thing"],[],Y.dB (Y.d 36),Y.dS (Y.d 36),.ofString "has_access",[]⟩
theorem iK (P:Params):ai P fn330_1:=by
  refine' ai.of 330 rfl ?h ?b (by kernel_rfl) (by kernel_rfl) rfl
  case h=>k_is
  case b=>
    intro s vs hl hX
    obtain ⟨x0,rfl⟩:=bK hl
    exact ⟨[],rfl,BindsTo.of_eq (by kernel_rfl)⟩
noncomputable def fn337_2:FnR:=⟨337,[.ofString "thing",.ofString "access"],[],Y.dB (Y.d 37),Y.dS (Y.d 37),.ofString "with_access",[]⟩
theorem jK (P:Params):ai P fn337_2:=by
  refine' ai.of 337 rfl ?h ?b (by kernel_rfl) (by kernel_rfl) rfl
  case h=>k_is
  case b=>
    intro s vs hl hX
    obtain ⟨x0,x1,rfl⟩:=cP hl
    exact ⟨[],rfl,BindsTo.of_eq (by kernel_rfl)⟩
noncomputable def fn344_1:FnR:=⟨344,[.ofString "thing"],[],Y.dB (Y.d 38),Y.dS (Y.d 38),.ofString "span_of",[]⟩
theorem jL (P:Params):ai P fn344_1:=by
  refine' ai.of 344 rfl ?h ?b (by kernel_rfl) (by kernel_rfl) rfl
  case h=>k_is
  case b=>
    intro s vs hl hX
    obtain ⟨x0,rfl⟩:=bK hl
    exact ⟨[],rfl,BindsTo.of_eq (by kernel_rfl)⟩
noncomputable def fn351_3:FnR:=⟨351,[.ofString "span",.ofString "start",.ofString "many"],[],Y.dB (Y.d 39),Y.dS (Y.d 39),.ofString "check_part",[]⟩
theorem jw (P:Params):ai P fn351_3:=by
  refine' ai.of 351 rfl ?h ?b (by kernel_rfl) (by kernel_rfl) rfl
  case h=>k_is
  case b=>
    intro s vs hl hX
    obtain ⟨x0,x1,x2,rfl⟩:=nX hl
    exact ⟨[],rfl,BindsTo.of_eq (by kernel_rfl)⟩
noncomputable def fn358_3:FnR:=⟨358,[.ofString "span",.ofString "start",.ofString "many"],[],Y.dB (Y.d 40),Y.dS (Y.d 40),.ofString "part_of",[]⟩
theorem iT (P:Params):ai P fn358_3:=by
  refine' ai.of 358 rfl ?h ?b (by kernel_rfl) (by kernel_rfl) rfl
  case h=>k_is
  case b=>
    intro s vs hl hX
    obtain ⟨x0,x1,x2,rfl⟩:=nX hl
    exact ⟨[],rfl,BindsTo.of_eq (by kernel_rfl)⟩
noncomputable def fn365_2:FnR:=⟨365,[.ofString "thing",.ofString "span"],[],Y.dB (Y.d 41),Y.dS (Y.d 41),.ofString "with_span",[]⟩
theorem jt (P:Params):ai P fn365_2:=by
  refine' ai.of 365 rfl ?h ?b (by kernel_rfl) (by kernel_rfl) rfl
  case h=>k_is
  case b=>
    intro s vs hl hX
    obtain ⟨x0,x1,rfl⟩:=cP hl
    exact ⟨[],rfl,BindsTo.of_eq (by kernel_rfl)⟩
noncomputable def fn399_1:FnR:=⟨399,[.ofString "truth"],[],Y.dB (Y.d 50),Y.dS (Y.d 50),.ofString "print_truth",[]⟩
theorem iS (P:Params):ai P fn399_1:=by
  refine' ai.of 399 rfl ?h ?b (by kernel_rfl) (by kernel_rfl) rfl
  case h=>k_is
  case b=>
    intro s vs hl hX
    obtain ⟨x0,rfl⟩:=bK hl
    exact ⟨[],rfl,BindsTo.of_eq (by kernel_rfl)⟩
noncomputable def fn406_1:FnR:=⟨406,[.ofString "thing"],[],Y.dB (Y.d 51),Y.dS (Y.d 51),.ofString "print_plain",[]⟩
theorem jx (P:Params):ai P fn406_1:=by
  refine' ai.of 406 rfl ?h ?b (by kernel_rfl) (by kernel_rfl) rfl
  case h=>k_is
  case b=>
    intro s vs hl hX
    obtain ⟨x0,rfl⟩:=bK hl
    exact ⟨[],rfl,BindsTo.of_eq (by kernel_rfl)⟩
noncomputable def fn419_2:FnR:=⟨419,[.ofString "thing",.ofString "depth"],[],Y.dB (Y.d 53),Y.dS (Y.d 53),.ofString "written",[]⟩
theorem iX (P:Params):ai P fn419_2:=by
  refine' ai.of 419 rfl ?h ?b (by kernel_rfl) (by kernel_rfl) rfl
  case h=>k_is
  case b=>
    intro s vs hl hX
    obtain ⟨x0,x1,rfl⟩:=cP hl
    exact ⟨[],rfl,binds_K hX rfl (by k_is) rfl rfl (by kernel_rfl)⟩
noncomputable def fn801_1:FnR:=⟨801,[.ofString "tree"],[],Y.dB (Y.d 76),Y.dS (Y.d 76),.ofString "_law_told",[]⟩
theorem je (P:Params):ai P fn801_1:=by
  refine' ai.of 801 rfl ?h ?b (by kernel_rfl) (by kernel_rfl) rfl
  case h=>k_is
  case b=>
    intro s vs hl hX
    obtain ⟨x0,rfl⟩:=bK hl
    exact ⟨[],rfl,BindsTo.of_eq (by kernel_rfl)⟩
noncomputable def fn777_3:FnR:=⟨777,[.ofString "memory",.ofString "deck",.ofString "deep"],[],Y.dB (Y.d 72),Y.dS (Y.d 72),.ofString "_law_thing",[]⟩
theorem jR (P:Params):ai P fn777_3:=by
  refine' ai.of 777 rfl ?h ?b (by kernel_rfl) (by kernel_rfl) rfl
  case h=>k_is
  case b=>
    intro s vs hl hX
    obtain ⟨x0,x1,x2,rfl⟩:=nX hl
    exact ⟨[],rfl,BindsTo.of_eq (by kernel_rfl)⟩
noncomputable def fn767_2:FnR:=⟨767,[.ofString "memory",.ofString "deck"],[],Y.dB (Y.d 70),Y.dS (Y.d 70),.ofString "_law_string",[]⟩
theorem jA (P:Params):ai P fn767_2:=by
  refine' ai.of 767 rfl ?h ?b (by kernel_rfl) (by kernel_rfl) rfl
  case h=>k_is
  case b=>
    intro s vs hl hX
    obtain ⟨x0,x1,rfl⟩:=cP hl
    exact ⟨[],rfl,BindsTo.of_eq (by kernel_rfl)⟩
noncomputable def fn748_0:FnR:=⟨748,[],[],Y.dB (Y.d 67),Y.dS (Y.d 67),.ofString "_law_names",[]⟩
theorem iR (P:Params):ai P fn748_0:=by
  refine' ai.of 748 rfl ?h ?b (by kernel_rfl) (by kernel_rfl) rfl
  case h=>k_is
  case b=>
    intro s vs hl hX
    obtain rfl:=nr hl
    exact ⟨[],rfl,BindsTo.of_eq (by kernel_rfl)⟩
noncomputable def fn741_0:FnR:=⟨741,[],[],Y.dB (Y.d 66),Y.dS (Y.d 66),.ofString "_law_strings",[]⟩
theorem iq (P:Params):ai P fn741_0:=by
  refine' ai.of 741 rfl ?h ?b (by kernel_rfl) (by kernel_rfl) rfl
  case h=>k_is
  case b=>
    intro s vs hl hX
    obtain rfl:=nr hl
    exact ⟨[],rfl,BindsTo.of_eq (by kernel_rfl)⟩
noncomputable def fn434_1:FnR:=⟨434,[.ofString "self"],[(.ofString "operands",.i 500),(.ofString "dicts",.i 20),(.ofString "frames",.i 250),(.ofString "saves",.i 15),(.ofString "gstates",.i 31),(.ofString "text",.i 65535),(.ofString "row",.i 65535),(.ofString "entries",.i 65535),(.ofString "word",.i 127),(.ofString "path",.i 1500),(.ofString "dash",.i 11),(.ofString "files",.i 15),(.ofString "system",.i 600),(.ofString "vm",.i 16777216)],Y.dB (Y.e 58 0),Y.dS (Y.e 58 0),.ofString "Limits.__init__",[]⟩
theorem ij (P:Params):ai P fn434_1:=by
  refine' ai.of 434 rfl ?h ?b (by kernel_rfl) (by kernel_rfl) rfl
  case h=>k_is
  case b=>
    intro s vs hl hX
    obtain ⟨x0,rfl⟩:=bK hl
    exact ⟨[.int 500 753,.int 20 754,.int 250 755,.int 15 756,.int 31 757,.int 65535 758,.int 65535 759,.int 65535 760,.int 127 761,.int 1500 762,.int 11 763,.int 15 764,.int 600 765,.int 16777216 739],⟨_,_,rfl,⟨_,rfl⟩,⟨_,_,rfl,⟨_,rfl⟩,⟨_,_,rfl,⟨_,rfl⟩,⟨_,_,rfl,⟨_,rfl⟩,⟨_,_,rfl,⟨_,rfl⟩,⟨_,_,rfl,⟨_,rfl⟩,⟨_,_,rfl,⟨_,rfl⟩,⟨_,_,rfl,⟨_,rfl⟩,⟨_,_,rfl,⟨_,rfl⟩,⟨_,_,rfl,⟨_,rfl⟩,⟨_,_,rfl,⟨_,rfl⟩,⟨_,_,rfl,⟨_,rfl⟩,⟨_,_,rfl,⟨_,rfl⟩,⟨_,_,rfl,⟨_,rfl⟩,rfl⟩⟩⟩⟩⟩⟩⟩⟩⟩⟩⟩⟩⟩⟩,binds_K hX rfl (by k_is) rfl rfl (by kernel_rfl)⟩
noncomputable def fn476_2:FnR:=⟨476,[.ofString "self",.ofString "limits"],[],Y.dB (Y.e 60 0),Y.dS (Y.e 60 0),.ofString "BodyMaker.__init__",[]⟩
theorem iZ (P:Params):ai P fn476_2:=by
  refine' ai.of 476 rfl ?h ?b (by kernel_rfl) (by kernel_rfl) rfl
  case h=>k_is
  case b=>
    intro s vs hl hX
    obtain ⟨x0,x1,rfl⟩:=cP hl
    exact ⟨[],rfl,BindsTo.of_eq (by kernel_rfl)⟩
noncomputable def fn727_2:FnR:=⟨727,[.ofString "many",.ofString "most"],[],Y.dB (Y.d 63),Y.dS (Y.d 63),.ofString "memory_check_many",[]⟩
theorem iM (P:Params):ai P fn727_2:=by
  refine' ai.of 727 rfl ?h ?b (by kernel_rfl) (by kernel_rfl) rfl
  case h=>k_is
  case b=>
    intro s vs hl hX
    obtain ⟨x0,x1,rfl⟩:=cP hl
    exact ⟨[],rfl,BindsTo.of_eq (by kernel_rfl)⟩
noncomputable def fn498_2:FnR:=⟨498,[.ofString "self",.ofString "cost"],[],Y.dB (Y.e 60 3),Y.dS (Y.e 60 3),.ofString "BodyMaker.take_room",[]⟩
theorem eV (P:Params):ai P fn498_2:=by
  refine' ai.of 498 rfl ?h ?b (by kernel_rfl) (by kernel_rfl) rfl
  case h=>k_is
  case b=>
    intro s vs hl hX
    obtain ⟨x0,x1,rfl⟩:=cP hl
    exact ⟨[],rfl,BindsTo.of_eq (by kernel_rfl)⟩
noncomputable def fn505_2:FnR:=⟨505,[.ofString "self",.ofString "cost"],[],Y.dB (Y.e 60 4),Y.dS (Y.e 60 4),.ofString "BodyMaker.check_room",[]⟩
theorem ji (P:Params):ai P fn505_2:=by
  refine' ai.of 505 rfl ?h ?b (by kernel_rfl) (by kernel_rfl) rfl
  case h=>k_is
  case b=>
    intro s vs hl hX
    obtain ⟨x0,x1,rfl⟩:=cP hl
    exact ⟨[],rfl,BindsTo.of_eq (by kernel_rfl)⟩
noncomputable def fn491_1:FnR:=⟨491,[.ofString "self"],[],Y.dB (Y.e 60 2),Y.dS (Y.e 60 2),.ofString "BodyMaker.body_level",[]⟩
theorem ip (P:Params):ai P fn491_1:=by
  refine' ai.of 491 rfl ?h ?b (by kernel_rfl) (by kernel_rfl) rfl
  case h=>k_is
  case b=>
    intro s vs hl hX
    obtain ⟨x0,rfl⟩:=bK hl
    exact ⟨[],rfl,BindsTo.of_eq (by kernel_rfl)⟩
noncomputable def fn483_1:FnR:=⟨483,[.ofString "self"],[],Y.dB (Y.e 60 1),Y.dS (Y.e 60 1),.ofString "BodyMaker.level",[]⟩
theorem jH (P:Params):ai P fn483_1:=by
  refine' ai.of 483 rfl ?h ?b (by kernel_rfl) (by kernel_rfl) rfl
  case h=>k_is
  case b=>
    intro s vs hl hX
    obtain ⟨x0,rfl⟩:=bK hl
    exact ⟨[],rfl,BindsTo.of_eq (by kernel_rfl)⟩
noncomputable def fn526_2:FnR:=⟨526,[.ofString "self",.ofString "things"],[],Y.dB (Y.e 60 7),Y.dS (Y.e 60 7),.ofString "BodyMaker.make_row",[]⟩
theorem eT (P:Params):ai P fn526_2:=by
  refine' ai.of 526 rfl ?h ?b (by kernel_rfl) (by kernel_rfl) rfl
  case h=>k_is
  case b=>
    intro s vs hl hX
    obtain ⟨x0,x1,rfl⟩:=cP hl
    exact ⟨[],rfl,BindsTo.of_eq (by kernel_rfl)⟩
noncomputable def fn533_2:FnR:=⟨533,[.ofString "self",.ofString "most"],[],Y.dB (Y.e 60 8),Y.dS (Y.e 60 8),.ofString "BodyMaker.make_dict",[]⟩
theorem ee (P:Params):ai P fn533_2:=by
  refine' ai.of 533 rfl ?h ?b (by kernel_rfl) (by kernel_rfl) rfl
  case h=>k_is
  case b=>
    intro s vs hl hX
    obtain ⟨x0,x1,rfl⟩:=cP hl
    exact ⟨[],rfl,BindsTo.of_eq (by kernel_rfl)⟩
noncomputable def fn125_5:FnR:=⟨125,[.ofString "self",.ofString "number",.ofString "things",.ofString "is_global",.ofString "level"],[],Y.dB (Y.e 14 0),Y.dS (Y.e 14 0),.ofString "Row.__init__",[]⟩
theorem iD (P:Params):ai P fn125_5:=by
  refine' ai.of 125 rfl ?h ?b (by kernel_rfl) (by kernel_rfl) rfl
  case h=>k_is
  case b=>
    intro s vs hl hX
    obtain ⟨x0,x1,x2,x3,x4,rfl⟩:=sX hl
    exact ⟨[],rfl,BindsTo.of_eq (by kernel_rfl)⟩
noncomputable def fn146_5:FnR:=⟨146,[.ofString "self",.ofString "number",.ofString "most",.ofString "is_global",.ofString "level"],[],Y.dB (Y.e 15 0),Y.dS (Y.e 15 0),.ofString "DictBody.__init__",[]⟩
theorem iB (P:Params):ai P fn146_5:=by
  refine' ai.of 146 rfl ?h ?b (by kernel_rfl) (by kernel_rfl) rfl
  case h=>k_is
  case b=>
    intro s vs hl hX
    obtain ⟨x0,x1,x2,x3,x4,rfl⟩:=sX hl
    exact ⟨[],rfl,BindsTo.of_eq (by kernel_rfl)⟩
noncomputable def wV:List FnR:=[fn83_3,fn83_4,fn83_5,fn179_4,fn193_1,fn200_1,fn207_1,fn215_2,fn222_1,fn229_0,fn236_0,fn244_2,fn252_2,fn260_2,fn267_1,fn274_1,fn281_1,fn288_1,fn295_1,fn302_1,fn316_1,fn323_1,fn330_1,fn337_2,fn344_1,fn351_3,fn358_3,fn365_2,fn399_1,fn406_1,fn419_2,fn801_1,fn777_3,fn767_2,fn748_0,fn741_0,fn434_1,fn476_2,fn727_2,fn498_2,fn505_2,fn491_1,fn483_1,fn526_2,fn533_2,fn125_5,fn146_5]
theorem sV (P:Params):∀ r∈wV,ai P r:=by
  unfold wV
  refine fC ⟨ku P,?_⟩
  refine fC ⟨lu P,?_⟩
  refine fC ⟨kH P,?_⟩
  refine fC ⟨jp P,?_⟩
  refine fC ⟨iU P,?_⟩
  refine fC ⟨il P,?_⟩
  refine fC ⟨ju P,?_⟩
  refine fC ⟨jo P,?_⟩
  refine fC ⟨iz P,?_⟩
  refine fC ⟨iv P,?_⟩
  refine fC ⟨jS P,?_⟩
  refine fC ⟨i7 P,?_⟩
  refine fC ⟨iF P,?_⟩
  refine fC ⟨jv P,?_⟩
  refine fC ⟨jJ P,?_⟩
  refine fC ⟨jy P,?_⟩
  refine fC ⟨iY P,?_⟩
  refine fC ⟨jI P,?_⟩
  refine fC ⟨jG P,?_⟩
  refine fC ⟨iW P,?_⟩
  refine fC ⟨jU P,?_⟩
  refine fC ⟨ig P,?_⟩
  refine fC ⟨iK P,?_⟩
  refine fC ⟨jK P,?_⟩
  refine fC ⟨jL P,?_⟩
  refine fC ⟨jw P,?_⟩
  refine fC ⟨iT P,?_⟩
  refine fC ⟨jt P,?_⟩
  refine fC ⟨iS P,?_⟩
  refine fC ⟨jx P,?_⟩
  refine fC ⟨iX P,?_⟩
  refine fC ⟨je P,?_⟩
  refine fC ⟨jR P,?_⟩
  refine fC ⟨jA P,?_⟩
  refine fC ⟨iR P,?_⟩
  refine fC ⟨iq P,?_⟩
  refine fC ⟨ij P,?_⟩
  refine fC ⟨iZ P,?_⟩
  refine fC ⟨iM P,?_⟩
  refine fC ⟨eV P,?_⟩
  refine fC ⟨ji P,?_⟩
  refine fC ⟨ip P,?_⟩
  refine fC ⟨jH P,?_⟩
  refine fC ⟨eT P,?_⟩
  refine fC ⟨ee P,?_⟩
  refine fC ⟨iD P,?_⟩
  refine fC ⟨iB P,?_⟩
  exact List.forall_mem_nil _
noncomputable def wY:List (Str×Addr):=[(.ofString "integer",193),(.ofString "real",200),(.ofString "boolean",207),(.ofString "name",215),(.ofString "operator_thing",222),(.ofString "mark",229),(.ofString "null",236),(.ofString "of_string",244),(.ofString "of_row",252),(.ofString "of_packed",260),(.ofString "of_dict",267),(.ofString "of_save",274),(.ofString "font_id",281),(.ofString "is_number",288),(.ofString "is_in_array",295),(.ofString "body_of",302),(.ofString "access_of",316),(.ofString "can_read",323),(.ofString "has_access",330),(.ofString "with_access",337),(.ofString "span_of",344),(.ofString "check_part",351),(.ofString "part_of",358),(.ofString "with_span",365),(.ofString "octets_of_span",372),(.ofString "things_of_span",379),(.ofString "print_truth",399),(.ofString "print_plain",406),(.ofString "written",419),(.ofString "_law_told",801),(.ofString "_law_thing",777),(.ofString "_law_string",767),(.ofString "_law_names",748),(.ofString "_law_strings",741),(.ofString "memory_check_many",727),(.ofString "print_row",411),(.ofString "_law_shown",794),(.ofString "Thing",86),(.ofString "Span",182),(.ofString "Limits",437),(.ofString "Memory",718),(.ofString "decimal_octets",61),(.ofString "number_octets",68),(.ofString "print_string",392),(.ofString "_law_draw",760),(.ofString "_law_real",782),(.ofString "_law_escaped",789),(.ofString "Row",128),(.ofString "DictBody",161)]
theorem lL (P:Params):∀ q∈wY,aG P q.1 q.2:=by
  unfold wY
  refine fC ⟨vS P,?_⟩
  refine fC ⟨uW P,?_⟩
  refine fC ⟨wL P,?_⟩
  refine fC ⟨wA P,?_⟩
  refine fC ⟨ua P,?_⟩
  refine fC ⟨uh P,?_⟩
  refine fC ⟨vd P,?_⟩
  refine fC ⟨uv P,?_⟩
  refine fC ⟨vF P,?_⟩
  refine fC ⟨vJ P,?_⟩
  refine fC ⟨wi P,?_⟩
  refine fC ⟨ur P,?_⟩
  refine fC ⟨uS P,?_⟩
  refine fC ⟨ta P,?_⟩
  refine fC ⟨wQ P,?_⟩
  refine fC ⟨tN P,?_⟩
  refine fC ⟨wa P,?_⟩
  refine fC ⟨uL P,?_⟩
  refine fC ⟨tW P,?_⟩
  refine fC ⟨uf P,?_⟩
  refine fC ⟨vj P,?_⟩
  refine fC ⟨vH P,?_⟩
  refine fC ⟨vM P,?_⟩
  refine fC ⟨tP P,?_⟩
  refine fC ⟨vV P,?_⟩
  refine fC ⟨uH P,?_⟩
  refine fC ⟨vz P,?_⟩
  refine fC ⟨vI P,?_⟩
  refine fC ⟨wF P,?_⟩
  refine fC ⟨tg P,?_⟩
  refine fC ⟨vT P,?_⟩
  refine fC ⟨wz P,?_⟩
  refine fC ⟨vX P,?_⟩
  refine fC ⟨vb P,?_⟩
  refine fC ⟨wK P,?_⟩
  refine fC ⟨uB P,?_⟩
  refine fC ⟨vU P,?_⟩
  refine fC ⟨g86 P,?_⟩
  refine fC ⟨vG P,?_⟩
  refine fC ⟨wb P,?_⟩
  refine fC ⟨uO P,?_⟩
  refine fC ⟨g61 P,?_⟩
  refine fC ⟨g68 P,?_⟩
  refine fC ⟨wq P,?_⟩
  refine fC ⟨uY P,?_⟩
  refine fC ⟨ul P,?_⟩
  refine fC ⟨vp P,?_⟩
  refine fC ⟨vu P,?_⟩
  refine fC ⟨uX P,?_⟩
  exact List.forall_mem_nil _
noncomputable def xn:List (Str×SV):=[(.ofString "READ_ONLY",.i 2),(.ofString "UNLIMITED",.i 3),(.ofString "PRINT_NOTHING",.b #[45,45,110,111,115,116,114,105,110,103,118,97,108,45,45]),(.ofString "INTEGER",.t (.ofString "integer")),(.ofString "PRINT_WORDS",.k 380),(.ofString "_law_row",.k 772),(.ofString "ITEM_COST",.i 8),(.ofString "ENTRY_COST",.i 16)]
noncomputable def xw (P:Params) (q:Str×SV):Prop:=∃ v',nsIn (Mine.hd.heap_1 P) mainGlobals q.1=some (some v')∧VR [] q.2 v'∧(q.1==("__debug__":Str))=false
theorem rC (P:Params):∀ q∈xn,xw P q:=by
  unfold xn
  refine fC ⟨?_,?_⟩
  · refine' ⟨_,?h,.i,by kernel_rfl⟩
    case h=>k_is
  refine fC ⟨?_,?_⟩
  · refine' ⟨_,?h,.i,by kernel_rfl⟩
    case h=>k_is
  refine fC ⟨?_,?_⟩
  · refine' ⟨_,?h,.b,by kernel_rfl⟩
    case h=>k_is
  refine fC ⟨?_,?_⟩
  · refine' ⟨_,?h,.t,by kernel_rfl⟩
    case h=>k_is
  refine fC ⟨?_,?_⟩
  · refine' ⟨_,?h,.k,by kernel_rfl⟩
    case h=>k_is
  refine fC ⟨?_,?_⟩
  · refine' ⟨_,?h,.k,by kernel_rfl⟩
    case h=>k_is
  refine fC ⟨?_,?_⟩
  · refine' ⟨_,?h,.i,by kernel_rfl⟩
    case h=>k_is
  refine fC ⟨?_,?_⟩
  · refine' ⟨_,?h,.i,by kernel_rfl⟩
    case h=>k_is
  exact List.forall_mem_nil _
noncomputable def atL:List (Addr×Str):=[(86,.ofString "kind"),(86,.ofString "value"),(86,.ofString "is_exec"),(86,.ofString "access"),(182,.ofString "body"),(182,.ofString "start"),(182,.ofString "many"),(107,.ofString "octets"),(128,.ofString "things"),(718,.ofString "limits"),(718,.ofString "is_global"),(718,.ofString "saves"),(718,.ofString "made"),(718,.ofString "used"),(718,.ofString "used_global"),(718,.ofString "last_body"),(437,.ofString "text"),(437,.ofString "row"),(437,.ofString "entries"),(437,.ofString "vm")]
theorem rP (P:Params):∀ q∈atL,f8 (Mine.hd.heap_1 P) q.1 q.2=true:=List.all_eq_true.mp (by kernel_rfl)
noncomputable def stL:List (Addr×Str):=[(86,.ofString "kind"),(86,.ofString "value"),(86,.ofString "is_exec"),(86,.ofString "access"),(182,.ofString "body"),(182,.ofString "start"),(182,.ofString "many"),(437,.ofString "operands"),(437,.ofString "dicts"),(437,.ofString "frames"),(437,.ofString "saves"),(437,.ofString "gstates"),(437,.ofString "text"),(437,.ofString "row"),(437,.ofString "entries"),(437,.ofString "word"),(437,.ofString "path"),(437,.ofString "dash"),(437,.ofString "files"),(437,.ofString "system"),(437,.ofString "vm"),(718,.ofString "limits"),(718,.ofString "is_global"),(718,.ofString "saves"),(718,.ofString "journal"),(718,.ofString "made"),(718,.ofString "freed"),(718,.ofString "used"),(718,.ofString "used_global"),(718,.ofString "last_body"),(718,.ofString "last_save"),(128,.ofString "number"),(128,.ofString "things"),(128,.ofString "is_global"),(128,.ofString "level"),(161,.ofString "number"),(161,.ofString "most"),(161,.ofString "is_global"),(161,.ofString "level"),(161,.ofString "access"),(161,.ofString "entries")]
theorem rE (P:Params):∀ q∈stL,kl (Mine.hd.heap_1 P) q.1 q.2=true:=List.all_eq_true.mp (by kernel_rfl)
noncomputable def xe:List (Addr×Addr):=[(86,83),(182,179),(437,434),(718,476),(128,125),(161,146)]
theorem so (P:Params):∀ q∈xe,makesIn (Mine.hd.heap_1 P) q.1=true∧findIn (Mine.hd.heap_1 P) (.ref q.1) "__init__"=some (some (.ref q.2))∧isFn (Mine.hd.heap_1 P) (.ref q.2)=true:=by
  unfold xe
  refine fC ⟨⟨by kernel_rfl,by kernel_rfl,by kernel_rfl⟩,?_⟩
  refine fC ⟨⟨by kernel_rfl,by kernel_rfl,by kernel_rfl⟩,?_⟩
  refine fC ⟨⟨by kernel_rfl,by kernel_rfl,by kernel_rfl⟩,?_⟩
  refine fC ⟨⟨by kernel_rfl,by kernel_rfl,by kernel_rfl⟩,?_⟩
  refine fC ⟨⟨by kernel_rfl,by kernel_rfl,by kernel_rfl⟩,?_⟩
  refine fC ⟨⟨by kernel_rfl,by kernel_rfl,by kernel_rfl⟩,?_⟩
  exact List.forall_mem_nil _
theorem look_mem {α β:Type} [BEq α] [LawfulBEq α] {x:α} {v:β}:∀ (l:List (α×β)),l.lookup x=some v→(x,v)∈l
  | (y,u)::r,h=>by
    rw [List.lookup_cons] at h
    cases e:x==y with
    | true=>rw [e] at h; cases h; rw [beq_iff_eq.mp e]; exact .head _
    | false=>rw [e] at h; exact .tail _ (look_mem r h)
theorem ns_of {P:Params} {a:Addr} {x:Str} {v:SV} {v':Value} (h:nsIn (Mine.hd.heap_1 P) a x=some (some v')) (hv:VR [] v v'):∃ v',nsIn (Mine.hd.heap_1 P) a x=some (some v')∧VR [] v v':=⟨v',h,hv⟩
theorem ud {P:Params} {a:Addr} {es:Array DictEntry} {n:Nat} {q:Prop} (h:(Mine.hd.heap_1 P).lookup a=some ⟨.type "dict",none,.dict es n,#[]⟩) (hk:KeysLit P es.toList) (hq:q):∃ es n,(Mine.hd.heap_1 P).lookup a=some ⟨.type "dict",none,.dict es n,#[]⟩∧KeysLit P es.toList∧q:=⟨es,n,h,hk,hq⟩
noncomputable def tbL:List (Addr×List (Str×SV)):=[(380,[(.ofString "null",.b #[110,117,108,108]),(.ofString "mark",.b #[45,109,97,114,107,45]),(.ofString "dict",.b #[45,100,105,99,116,45]),(.ofString "file",.b #[45,102,105,108,101,45]),(.ofString "save",.b #[45,115,97,118,101,108,101,118,101,108,45]),(.ofString "gstate",.b #[45,103,115,116,97,116,101,45]),(.ofString "fontid",.b #[45,102,111,110,116,105,100,45])])]
theorem rR (P:Params):∀ a l,tbL.lookup a=some l→∃ es n,(Mine.hd.heap_1 P).lookup a=some ⟨.type "dict",none,.dict es n,#[]⟩∧KeysLit P es.toList∧∀ x v,l.lookup x=some v→∃ v',nsIn (Mine.hd.heap_1 P) a x=some (some v')∧VR [] v v':=by
  intro a l h
  have h:=look_mem _ h
  obtain ⟨rfl,rfl⟩:=Prod.mk.inj (List.mem_singleton.mp h)
  refine' ud ?h ?k ?v
  case h=>k_is
  case k=>k_keys
  case v=>
    intro x v hv
    have hv:=look_mem _ hv
    simp only [List.mem_cons,List.not_mem_nil,or_false,Prod.mk.injEq] at hv
    rcases hv with ⟨rfl,rfl⟩ | ⟨rfl,rfl⟩ | ⟨rfl,rfl⟩ | ⟨rfl,rfl⟩ | ⟨rfl,rfl⟩ | ⟨rfl,rfl⟩ | ⟨rfl,rfl⟩ <;> (refine' ns_of ?h .b; (case h=>k_is))
noncomputable def mtL:List ((Addr×Str)×Addr):=[((718,.ofString "take_room"),498),((718,.ofString "check_room"),505),((718,.ofString "body_level"),491)]
theorem sI (P:Params):∀ z∈mtL,(plainGet (Mine.hd.heap_1 P) z.1.1 z.1.2&&findIn (Mine.hd.heap_1 P) (.ref z.1.1) z.1.2==some (some (.ref z.2))&&isFn (Mine.hd.heap_1 P) (.ref z.2)&&keepIn (Mine.hd.heap_1 P) (.ref z.2))=true:=List.all_eq_true.mp (by kernel_rfl)
noncomputable def prL:List ((Addr×Str)×Addr):=[((718,.ofString "level"),483)]
noncomputable def sa:Kit:=
  { gl:=xn++wY.map fun q=>(q.1,.k q.2),fn:=fun a n=>wV.find? fun r=>Nat.beq r.a a&&Nat.beq r.names.length n,cl:=fun C=>xe.lookup C,kp:=wY.map (·.2),at_:=atL,st:=stL,tb:=tbL,mt:=mtL,pr:=prL }
theorem cO (P:Params):KOk P sa where
  gl:=fun x v h=>by
    rcases List.mem_append.mp (look_mem _ h) with h | h
    · exact rC P _ h
    · obtain ⟨q,hq,e⟩:=List.mem_map.mp h
      cases e
      have g:=lL P q hq
      exact ⟨_,g.at_,rfl,g.debug⟩
  fn:=fun a n r h=>by
    have h:(wV.find? fun r=>Nat.beq r.a a&&Nat.beq r.names.length n)=some r:=h
    have h1:=List.find?_some h
    obtain ⟨h2,h3⟩:=bA.mp h1
    exact ⟨Nat.eq_of_beq_eq_true h2,Nat.eq_of_beq_eq_true h3,sV P r (List.mem_of_find?_eq_some h)⟩
  cl:=fun C g h=>so P _ (look_mem _ h)
  kp:=fun a h=>by
    obtain ⟨q,hq,rfl⟩:=List.mem_map.mp h
    exact (lL P q hq).keep
  tb:=rR P
  at_:=fun C a h=>rP P _ h
  st:=fun C a h=>rE P _ h
  mt:=fun q g h=>by
    have:=sI P _ (look_mem _ h)
    simp only [Bool.and_eq_true,beq_iff_eq] at this
    exact ⟨this.1.1.1,this.1.1.2,this.1.2,this.2⟩
  pr:=fun q g h=>by
    obtain ⟨rfl,rfl⟩:=Prod.mk.inj (List.mem_singleton.mp (look_mem _ h))
    exact ⟨by kernel_rfl,by kernel_rfl,484,[.none,.none,.none,.str (Str.ofString "level") 871,.bool false],by kernel_rfl,by kernel_rfl,by kernel_rfl,by kernel_rfl⟩
end
section
set_option backward.match.sparseCases false
noncomputable section
variable {c:Ct} {n:Nat} {σ:Sy}
@[reducible] noncomputable def Vr.to (v:Vr) (h':Heap):Vr:=⟨v.ρ,v.Rf,v.R1,h',v.m⟩
theorem St.but {f:Fx} {v:Vr} {h':Heap} (S:St c f v σ) (F:Fr f.h₀ f.L h' v.m) (b:But [] v.h h'):St c f (v.to h') σ:={ S with fr:=F,nw:=news_but0 S.nw b }
theorem bw {f:Fx} {α:Type} {t:Sem α} {Q:α→Shared→Prop} {s:Shared} {dp un:Nat} (h:wpAny (model PG c.w) (AR dp un) t Q f.E s) (ok:f.Ok c n) (h1:890≤dp+c.lm) (h2:8900≤un+10*c.lm):wpAny (model PG c.w) f.A t Q f.E s:=
  aH (A':=AR dp un) h ok.hd (by have:=ok.dp; show f.A.depth≤dp; exact lin (.c _ (.c _ (.c _ (.c _ .z)))) (.c (.k 890) (.a (.v 0) (.v 1)) (.c (.a (.a (.v 2) (.m 2 (.v 3))) (.v 1)) (.k 890) .z)) (.v 2) (.v 0) rfl h1 this) rfl rfl (by have:=ok.un; show f.A.units≤un; exact lin (.c _ (.c _ (.c _ (.c _ .z)))) (.c (.k 8900) (.a (.v 1) (.m 10 (.v 0))) (.c (.a (.a (.v 2) (.m 20 (.v 3))) (.m 10 (.v 0))) (.k 8900) .z)) (.v 2) (.v 1) rfl h2 this)
noncomputable def bC (g:Addr) (vs:List SV) (σ:Sy):Option (CC c 0 g vs σ):=none
noncomputable def oa (P:Params) (ρ:List Addr) (R0:List (Addr×Obj)):List (Nat×SO)→Prop
  | []=>True
  | q::l=>(∃ a o,ρ[q.1]?=some a∧(a,o)∈R0∧OR ρ P q.2 o)∧oa P ρ R0 l
theorem oa.get {P:Params} {ρ:List Addr} {R0:List (Addr×Obj)} {i:Nat} {q:SO} {l:List (Nat×SO)} (h:oa P ρ R0 l) (e:l.lookup i=some q):∃ a o,ρ[i]?=some a∧(a,o)∈R0∧OR ρ P q o:=by
  induction l with
  | nil=>cases e
  | cons p l ih=>
    rcases lookHead e with ⟨rfl,rfl⟩ | ⟨_,e⟩
    · exact h.1
    · exact ih h.2 e
@[reducible] noncomputable def bD (w:World) (p:Program) (loose:List Str) (mean:ExcName→Option Value) (mg mb:Str→Option Value) (R0:List (Addr×Obj)) (ρ0:List Addr) (lm:Nat):Ct:=⟨w,p,loose,mean,mg,mb,R0,ρ0,lm,fun _ R=>R=R0,sa,cO _⟩
noncomputable def gR {c:Ct} {n:Nat} {r:FnR} {ss:List Stmt} {σ:Sy} (o:Option (CS c n r ss σ)):Option (Array UInt8):=o.bind fun q=>q.res.bind fun v=>(qT v).map (·.1)
theorem l8 {h₀ h h':Heap} {L:Addr} {R:List (Addr×Obj)} (b:But (R.map (·.1)) h h') (N:News h₀ L h R) (N':News h₀ L h' R):But [] h h':=fun a o e _=>by
  by_cases hm:a∈R.map (·.1)
  · obtain ⟨p,hp,rfl⟩:=List.mem_map.mp hm
    rw [(N p hp).1] at e
    cases e
    exact (N' p hp).1
  · exact b a o e hm
variable {w:World} {p:Program} {loose:List Str} {mean:ExcName→Option Value} {mg mb:Str→Option Value} {R0:List (Addr×Obj)} {ρ0:List Addr} {lm:Nat}
structure Rm (A:Around) (lm n:Nat):Prop where
  hd:A.handled=none
  dp:A.depth+1+2*n+lm≤890
  un:A.units+3+20*n+10*lm≤8900
structure SJ (c:Ct) (n:Nat) (r:FnR) (ss:List Stmt) (σ:Sy) (res:Option SV) (σ':Sy):Prop where
  j:af c n σ (fun L=>execs ss (aa r L)) (ak res) σ'
theorem ib {c:Ct} {n:Nat} {r:FnR} {ss:List Stmt} {σ:Sy} {o:Array UInt8} {q:Option (CS c n r ss σ)} (h:gR q=some o):∃ σ' u,(∀ ρ z,VR ρ u z→∃ t,z=.bytes o t)∧SJ c n r ss σ (some u) σ':=by
  obtain ⟨⟨res,σ',j⟩,_,h1⟩:=Option.bind_eq_some_iff.mp h
  obtain ⟨v,rfl,h2⟩:=Option.bind_eq_some_iff.mp h1
  obtain ⟨b,_,rfl⟩:=Option.map_eq_some_iff.mp h2
  exact ⟨σ',v,b.2,⟨j⟩⟩
theorem wM {c:Ct} {n:Nat} {r:FnR} {ss:List Stmt} {σ σ':Sy} {res:Option SV} {o:Option (CS c n r ss σ)} (h:o.map (fun q=>(q.res,q.σ'))=some (res,σ')):af c n σ (fun L=>execs ss (aa r L)) (ak res) σ':=by
  obtain ⟨⟨b,σ2,j⟩,_,e⟩:=Option.map_eq_some_iff.mp h
  obtain ⟨e1,e2⟩:=Prod.mk.inj e
  dsimp only at e1 e2
  subst e1
  rw [e2] at j
  exact j
theorem po {c:Ct} {n:Nat} {r:FnR} {e:PySem.Expr} {σ σ':Sy} {b:Bool} {o:Option (CT c n r e σ)} (h:o.map (fun q=>(q.b,q.σ'))=some (b,σ')):af c n σ (fun L=>isTrue e (aa r L) (eval e (aa r L))) (fun _ x=>x=b) σ':=by
  obtain ⟨⟨b,σ2,j⟩,_,e⟩:=Option.map_eq_some_iff.mp h
  obtain ⟨e1,e2⟩:=Prod.mk.inj e
  dsimp only at e1 e2
  subst e1
  rw [e2] at j
  exact j
theorem Rm.of {c:Ct} {f:Fx} {n:Nat} (ok:f.Ok c (n+1)):Rm f.A 0 n:=⟨ok.hd,by have:=ok.dp; exact lin (.c _ (.c _ (.c _ .z))) (.c (.a (.a (.v 0) (.m 2 (.a (.v 1) (.k 1)))) (.v 2)) (.k 890) .z) (.a (.a (.a (.v 0) (.k 1)) (.m 2 (.v 1))) (.k 0)) (.k 890) rfl this,by have:=ok.un; exact lin (.c _ (.c _ (.c _ .z))) (.c (.a (.a (.v 0) (.m 20 (.a (.v 1) (.k 1)))) (.m 10 (.v 2))) (.k 8900) .z) (.a (.a (.a (.v 0) (.k 3)) (.m 20 (.v 1))) (.m 10 (.k 0))) (.k 8900) rfl this⟩
theorem j8 {n:Nat} {f:Addr} {vs:List SV} {fr0 ol:List (Nat×SO)} {nx:Nat} {r:FnR} {u:SV} {σ':Sy} {A:Around} {E:Value→Shared→Prop} {s:Shared} {h₀:Heap} {L:Addr} {m:Str→Option Value} {xs:List Value} {Rf:List (Addr×Obj)} {Q:Value→Shared→Prop}
    (ha:r.a=f) (fok:ai w.params r) (hlen:vs.length=r.names.length) (j:SJ (bD w p loose mean mg mb R0 ρ0 lm) n r r.body ⟨(r.names.zip vs++r.extra).reverse,fr0,ol,nx,[]⟩ (some u) σ') (hd:Rm A lm n) (F:Fr h₀ L s.heap m) (X:(Mine.hd.heap_1 w.params).In h₀) (T:Top p loose mean mg mb h₀) (N:News h₀ L s.heap (Rf++R0))
    (hl:LR ρ0 w.params fr0 Rf) (nd:Rf.Pairwise fun p q=>p.1≠q.1) (up:∀ p∈Rf,∀ q∈R0,q.1≠p.1) (hol:oa w.params ρ0 R0 ol) (hn:ρ0.length=nx) (hx:aC ρ0 vs xs)
    (hq:∀ x ρ' Rf' h' tk,VR ρ' u x→ρ0 <+: ρ'→LR ρ' w.params σ'.fr Rf'→Fr h₀ L h' m→News h₀ L h' (Rf'++R0)→(Rf'.Pairwise fun p q=>p.1≠q.1)→(∀ p∈Rf',∀ q∈R0,q.1≠p.1)→But (Rf.map (·.1)) s.heap h'→Q x { s with heap:=h',toks:=tk }):wpAny (model PG w) A (call (.ref f) xs) Q E s:=by
  subst ha
  refine wpAny_call (cn (c:=bD w p loose mean mg mb R0 ρ0 lm) (f:=⟨A,E,h₀,L,s⟩) (v:=⟨ρ0,Rf,R0,s.heap,m⟩) (tk:=s.toks) (loc:=[]) (vs:=vs) fok j.j hd.hd hd.dp hd.un X T ⟨F,(fun _ _ h=>nomatch h),N,hl,(fun i q e=>hol.get e),(fun _ h=>h),rfl,hn,nd,up,List.prefix_refl _⟩ rfl hx hlen fun x v' tk' p q S _ F' bt=>?_)
  obtain ⟨ρ',Rf',R1,h',m'⟩:=v'
  obtain rfl:R1=R0:=S.wp
  refine hq x ρ' Rf' h' tk' q p S.lr F' S.nw S.nd S.up fun a o e hm=>?_
  by_cases ha:a∈R1.map (·.1)
  · obtain ⟨z,hz,rfl⟩:=List.mem_map.mp ha
    have:=(N z (List.mem_append_right _ hz)).1
    rw [e] at this
    cases this
    exact (S.nw z (List.mem_append_right _ hz)).1
  · exact bt a o e fun hm'=>by
      rw [List.map_append] at hm'
      exact (List.mem_append.mp hm').elim hm ha
theorem cY {n:Nat} {f:Addr} {vs:List SV} {ol:List (Nat×SO)} {nx:Nat} {r:FnR} {o:Array UInt8} {A:Around} {E:Value→Shared→Prop} {s:Shared} {h₀:Heap} {L:Addr} {m:Str→Option Value} {xs:List Value} {Q:Value→Shared→Prop}
    (ha:r.a=f) (fok:ai w.params r) (hlen:vs.length=r.names.length) (j:∃ σ' u,(∀ ρ z,VR ρ u z→∃ t,z=.bytes o t)∧SJ (bD w p loose mean mg mb R0 ρ0 lm) n r r.body ⟨(r.names.zip vs++r.extra).reverse,[],ol,nx,[]⟩ (some u) σ') (hd:Rm A lm n) (F:Fr h₀ L s.heap m) (X:(Mine.hd.heap_1 w.params).In h₀) (T:Top p loose mean mg mb h₀) (N:News h₀ L s.heap R0)
    (hol:oa w.params ρ0 R0 ol) (hn:ρ0.length=nx) (hx:aC ρ0 vs xs)
    (hq:∀ u h' tk,Fr h₀ L h' m→But [] s.heap h'→Q (.bytes o u) { s with heap:=h',toks:=tk }):wpAny (model PG w) A (call (.ref f) xs) Q E s:=
  j.elim fun σ' j=>j.elim fun u j=>j8 (Rf:=[]) ha fok hlen j.2 hd F X T N rfl .nil (fun _ h=>nomatch h) hol hn hx fun x _ _ h' tk hu _ _ F' _ _ _ b=>(j.1 _ _ hu).elim fun t e=>e▸hq t h' tk F' b
theorem fy {n:Nat} {f:Addr} {vs:List SV} {ol:List (Nat×SO)} {nx:Nat} {r:FnR} {o:Array UInt8} {orc:∀ g vs σ,Option (CC (bD w p loose mean mg mb R0 ρ0 lm) 0 g vs σ)} {A:Around} {E:Value→Shared→Prop} {s:Shared} {h₀:Heap} {L:Addr} {m:Str→Option Value} {xs:List Value} {Q:Value→Shared→Prop}
    (hf:sa.fn f vs.length=some r) (hr:gR ((run orc n).S r r.body ⟨(r.names.zip vs++r.extra).reverse,[],ol,nx,[]⟩)=some o) (hd:Rm A lm n) (F:Fr h₀ L s.heap m) (X:(Mine.hd.heap_1 w.params).In h₀) (T:Top p loose mean mg mb h₀) (N:News h₀ L s.heap R0)
    (hol:oa w.params ρ0 R0 ol) (hn:ρ0.length=nx) (hx:aC ρ0 vs xs)
    (hq:∀ u h' tk,Fr h₀ L h' m→But [] s.heap h'→Q (.bytes o u) { s with heap:=h',toks:=tk }):wpAny (model PG w) A (call (.ref f) xs) Q E s:=by
  obtain ⟨ha,hlen,fok⟩:=(cO w.params).fn _ _ _ hf
  exact cY ha fok hlen.symm (ib hr) hd F X T N hol hn hx hq
end
end
section
theorem d6 {M:Model} {Γ:Ctx} {env:Env} {E:Value→Pos→Shared→Prop} {b:List Stmt} {K:Flow→Pos→Shared→Prop}:∀ {a:List Stmt} {p:Pos} {s:Shared},
    Sem.wp M Γ (execs a env) (fun fl p' s'=>match fl with | .next=>Sem.wp M Γ (execs b env) K E p' s' | fl=>K fl p' s') E p s→Sem.wp M Γ (execs (a++b) env) K E p s:=by
  intro a
  induction a with
  | nil=>exact fun h=>h
  | cons x a ih=>
    intro p s h
    rw [execs_cons,Sem.wp_bind'] at h
    rw [List.cons_append,execs_cons,Sem.wp_bind']
    refine Sem.wp_mono M Γ _ (fun f p' s' h'=>?_) (fun _ _ _ h'=>h') _ _ h
    cases f with
    | next=>exact ih h'
    | _=>exact h'
theorem kr {M:Model} {A:Around} {env:Env} {E:Value→Shared→Prop} {a b:List Stmt} {Q:Flow→Shared→Prop} {s:Shared} (h:wpAny M A (execs a env) (fun fl s'=>match fl with | .next=>wpAny M A (execs b env) Q E s' | fl=>Q fl s') E s):wpAny M A (execs (a++b) env) Q E s:=fun Γ p hΓ=>
  d6 (Sem.wp_mono M Γ _ (fun f p' s' h'=>by
    cases f with
    | next=>exact h' Γ p' hΓ
    | _=>exact h') (fun _ _ _ h'=>h') _ _ (h Γ p hΓ))
noncomputable section
variable {c:Ct} {n:Nat} {r:FnR} {σ σ1:Sy}
theorem af.app {a b:List Stmt} (h1:af c n σ (fun L=>execs a (aa r L)) (ak none) σ1) {f:Fx} {v:Vr} {tk:Nat} {Q:Flow→Shared→Prop} (ok:f.Ok c n) (S:St c f v σ)
    (h2:∀ v' tk',v.ρ <+: v'.ρ→St c f v' σ1→wpAny (model PG c.w) f.A (execs b (aa r f.L)) Q f.E (f.sh v'.h tk')):wpAny (model PG c.w) f.A (execs (a++b) (aa r f.L)) Q f.E (f.sh v.h tk):=
  kr (h1 f v tk _ ok S fun fl v' tk' p q S'=>by
    obtain rfl:fl=.next:=q
    exact h2 v' tk' p S')
theorem af.append {σ2:Sy} {a b:List Stmt} {res:Option SV} (h1:af c n σ (fun L=>execs a (aa r L)) (ak none) σ1) (h2:af c n σ1 (fun L=>execs b (aa r L)) (ak res) σ2):af c n σ (fun L=>execs (a++b) (aa r L)) (ak res) σ2:=fun f v tk Q ok S hq=>
  h1.app ok S fun v' tk' p S'=>h2 f v' tk' Q ok S' fun x v2 tk2 p2 q S2=>hq x v2 tk2 (p.trans p2) q S2
theorem af.split {σ2:Sy} {ss:List Stmt} {res:Option SV} (k:Nat) (h1:af c n σ (fun L=>execs (ss.take k) (aa r L)) (ak none) σ1) (h2:af c n σ1 (fun L=>execs (ss.drop k) (aa r L)) (ak res) σ2):af c n σ (fun L=>execs ss (aa r L)) (ak res) σ2:=by
  have:=h1.append h2
  rw [List.take_append_drop] at this
  exact this
end
end
section
set_option backward.match.sparseCases false
noncomputable section
noncomputable def uy (ρ:List Addr) (v:SV) (t:Tok):Value:=match v with
  | .i n=>.int n t
  | .s i=>.ref (ρ.getD i 0)
  | .o b=>.bool b
  | .z n _ _=>.int n t
  | .u x=>x
  | _=>.none
noncomputable def lit (P:Params) (ρ:List Addr):List (Str×SV)→(Nat→Tok)→List DictEntry
  | [],_=>[]
  | q::l,f=>⟨PyData.keyHash P q.1,.str q.1 (f 0),uy ρ q.2 (f 1)⟩::lit P ρ l fun i=>f (i+2)
noncomputable def uG (v:SV):Bool:=match v with
  | .i _ | .s _ | .o _ | .z _ _ _ | .u _=>true
  | _=>false
theorem a7 {ρ:List Addr} {i:Nat} {a:Addr} (h:ρ[i]?=some a):ρ.getD i 0=a:=by rw [List.getD_eq_getElem?_getD,h]; rfl
theorem ow {ρ:List Addr} {v:SV} {y:Value} (hk:uG v=true) (h:VR ρ v y):∃ t,y=uy ρ v t:=by
  cases v <;> first | exact Bool.noConfusion hk | exact h | exact h.elim fun a h=>⟨0,h.2.trans (congrArg Value.ref (a7 h.1).symm)⟩ | exact ⟨0,h⟩
theorem ER.lit {P:Params} {ρ:List Addr}:∀ {l:List (Str×SV)} {es':List DictEntry},(l.all fun q=>uG q.2)=true→ER ρ P l es'→∃ f,es'=Mine.lit P ρ l f
  | [],_,_,h=>⟨fun z_=>0,h⟩
  | q::l,es',hk,h=>h.elim fun t h=>h.elim fun v h=>h.elim fun r h=>by
    rw [List.all_cons,Bool.and_eq_true] at hk
    obtain ⟨f,hf⟩:=ER.lit hk.2 h.2.2
    obtain ⟨u,hu⟩:=ow hk.1 h.2.1
    exact ⟨fun i=>match i with
      | 0=>t
      | 1=>u
      | i+2=>f i,by rw [h.1,hu,hf]; rfl⟩
theorem LR.at_ {P:Params} {ρ:List Addr} {i:Nat} {q:SO} {l:List (Nat×SO)} {R:List (Addr×Obj)} {G:Prop} (lr:LR ρ P l R) (h:l.lookup i=some q) (f:∀ o,ρ[i]?=some (ρ.getD i 0)→(ρ.getD i 0,o)∈R→OR ρ P q o→G):G:=
  (lr.get h).elim fun a h=>h.elim fun o h=>f o (by rw [a7 h.1]; exact h.1) ((a7 h.1).symm▸h.2.1) h.2.2
theorem LR.adr {P:Params} {ρ:List Addr}:∀ {l:List (Nat×SO)} {R:List (Addr×Obj)},LR ρ P l R→R.map (·.1)=l.map fun q=>ρ.getD q.1 0
  | [],_,h=>by rw [show _=[] from h]; rfl
  | _::l,_,h=>h.elim fun a h=>h.elim fun o h=>h.elim fun r h=>by rw [h.1,List.map_cons,List.map_cons,LR.adr h.2.2.2,a7 h.2.1]
noncomputable def rY:List (Str×SV):=[(Str.ofString "operands",.i 500),(Str.ofString "dicts",.i 20),(Str.ofString "frames",.i 250),(Str.ofString "saves",.i 15),(Str.ofString "gstates",.i 31),(Str.ofString "text",.i 65535),(Str.ofString "row",.i 65535),(Str.ofString "entries",.i 65535),(Str.ofString "word",.i 127),(Str.ofString "path",.i 1500),(Str.ofString "dash",.i 11),(Str.ofString "files",.i 15),(Str.ofString "system",.i 600),(Str.ofString "vm",.i 16777216)]
noncomputable def vE (jr fr:Addr) {used last:Int} {ub lb:Nat} (hu:used.natAbs≤ub) (hl:last.natAbs≤lb):List (Str×SV):=[(Str.ofString "limits",.s 3),(Str.ofString "is_global",.o false),(Str.ofString "saves",.s 5),(Str.ofString "journal",.u (.ref jr)),(Str.ofString "made",.s 2),(Str.ofString "freed",.u (.ref fr)),(Str.ofString "used",.z used ub hu),(Str.ofString "used_global",.i 0),(Str.ofString "last_body",.z last lb hl),(Str.ofString "last_save",.i 0)]
noncomputable def l5 (jr fr:Addr) {used last:Int} {ub lb:Nat} (hu:used.natAbs≤ub) (hl:last.natAbs≤lb) {n b:Nat} (hn:n≤b):List (Nat×SO):=[(1,.D (vE jr fr hu hl) 10),(2,.M n b hn)]
noncomputable def memQ:List (Nat×SO):=[(0,.I 718 1),(3,.I 437 4),(4,.D rY 14),(5,.L [])]
theorem xJ {P:Params} {ma md mm li ld sv jr fr:Addr} {w:World} {used last:Int} {ub lb:Nat} {hu:used.natAbs≤ub} {hl:last.natAbs≤lb} {omd om:Obj} {es:List (Int×Value)} {b:Nat} {hn:es.length≤b} (MD:aT P li sv jr mm fr used last omd) (hom:om.IsDictOf (intKind PG w) es) :
    LR [ma,md,mm,li,ld,sv] P (l5 jr fr hu hl hn) [(md,omd),(mm,om)]:=by
  cases MD
  exact ⟨_,_,_,rfl,rfl,⟨_,.cons (.s rfl) (.cons .o (.cons (.s rfl) (.cons .u (.cons (.s rfl) (.cons .u (.cons .z (.cons .i (.cons .z (.cons .i rfl))))))))),rfl⟩,_,_,_,rfl,rfl,⟨w,es,hom,Nat.le_refl _⟩,rfl⟩
theorem xX {P:Params} {ρ:List Addr} {f:Nat→Tok}:OR ρ P (.D rY 14) (ir P f):=⟨_,.cons .i (.cons .i (.cons .i (.cons .i (.cons .i (.cons .i (.cons .i (.cons .i (.cons .i (.cons .i (.cons .i (.cons .i (.cons .i (.cons .i rfl))))))))))))),rfl⟩
theorem nS {P:Params} {ma md mm li ld sv:Addr} {J:List (Addr×Obj)} (MJ:bZ P ma md li ld sv mm J):oa P [ma,md,mm,li,ld,sv] J memQ:=by
  obtain ⟨jm,jl,⟨jf,jd⟩,⟨jn,js⟩,_,_⟩:=MJ
  exact ⟨⟨_,_,rfl,jm,_,rfl,rfl⟩,⟨_,_,rfl,jl,_,rfl,rfl⟩,⟨_,_,rfl,jd,xX⟩,⟨_,_,rfl,js,[],jn,rfl,rfl⟩,trivial⟩
variable {w:World} {p:Program} {loose:List Str} {mean:ExcName→Option Value} {mg mb:Str→Option Value} {ma md mm li ld sv jr fr:Addr} {J:List (Addr×Obj)} {used last c:Int} {omd om:Obj} {es:List (Int×Value)}
noncomputable def wu {c:Ct} {n:Nat} {r:FnR} {ss:List Stmt} {σ:Sy} (o:Option (CS c n r ss σ)):Option (Option SV×List (Nat×SO)):=o.map fun q=>(q.res,q.σ'.fr)
noncomputable def fo (w:World) (p:Program) (loose:List Str) (mean:ExcName→Option Value) (mg mb:Str→Option Value) (J:List (Addr×Obj)) (ρ0:List Addr) (r:FnR) (vs:List SV) (fr0 olx:List (Nat×SO)):Option (CS (bD w p loose mean mg mb J ρ0 0) 8 r r.body ⟨(r.names.zip vs++r.extra).reverse,fr0,olx++memQ,ρ0.length,[]⟩):=(cR bC iL 30 8).S r r.body _
theorem gz (h:last.natAbs≤100000):(last+1).natAbs≤100001:=Nat.le_trans (Int.natAbs_add_le _ _) (Nat.add_le_add_right h 1)
theorem sJ (h:used.natAbs≤16000000):(used+c).natAbs≤16000000+c.natAbs:=Nat.le_trans (Int.natAbs_add_le _ _) (Nat.add_le_add_right h _)
theorem LR.app {P:Params} {ρ:List Addr} {l2:List (Nat×SO)}:∀ {l1:List (Nat×SO)} {R:List (Addr×Obj)},LR ρ P (l1++l2) R→∃ R1 R2,R=R1++R2∧LR ρ P l1 R1∧LR ρ P l2 R2
  | [],_,h=>⟨[],_,rfl,rfl,h⟩
  | _::_,_,h=>h.elim fun a h=>h.elim fun o h=>h.elim fun r h=>(LR.app h.2.2.2).elim fun R1 k=>k.elim fun R2 k=>⟨(a,o)::R1,R2,by rw [h.1,k.1]; rfl,⟨a,o,R1,rfl,h.2.1,h.2.2.1,k.2.1⟩,k.2.2⟩
theorem er {s:Shared} {h₀:Heap} {L:Addr} {m:Str→Option Value} {Q E:Value→Shared→Prop} {A:Around} {ρx:List Addr} {olx frN:List (Nat×SO)} {r:FnR} {vs:List SV} {u:SV} {xs:List Value} {f:Addr} {ub lb b':Nat} {hu:used.natAbs≤16000000} {hl:last.natAbs≤100000} {hn:es.length≤1000} {hu':(used+c).natAbs≤ub} {hl':(last+1).natAbs≤lb} {hb':es.length+1≤b'}
    (ha:r.a=f) (fok:ai w.params r) (hlen:vs.length=r.names.length) (hd:Rm A 0 8) (hr:wu (fo w p loose mean mg mb J (ma::md::mm::li::ld::sv::ρx) r vs (l5 jr fr hu hl hn) olx)=some (some u,frN++l5 jr fr hu' hl' hb')) (F:Fr h₀ L s.heap m) (X:(Mine.hd.heap_1 w.params).In h₀) (T:Top p loose mean mg mb h₀)
    (N:News h₀ L s.heap ((md,omd)::(mm,om)::J)) (MJ:bZ w.params ma md li ld sv mm J) (MD:aT w.params li sv jr mm fr used last omd) (o:@Ne Nat md mm) (hom:om.IsDictOf (intKind PG w) es) (hx:aC (ma::md::mm::li::ld::sv::ρx) vs xs) (hox:oa w.params (ma::md::mm::li::ld::sv::ρx) J (olx++memQ))
    (post:∀ x ρ' RN omd' om' es' h' tk',VR ρ' u x→(ma::md::mm::li::ld::sv::ρx) <+: ρ'→LR ρ' w.params frN RN→Fr h₀ L h' m→News h₀ L h' (RN++((md,omd')::(mm,om')::J))→aT w.params li sv jr mm fr (used+c) (last+1) omd'→om'.IsDictOf (intKind PG w) es'→es'.length≤es.length+1→But [md,mm] s.heap h'→
      (RN.Pairwise fun p q=>p.1≠q.1)→(∀ p∈RN,∀ q∈(md,omd')::(mm,om')::J,q.1≠p.1)→Q x { s with heap:=h',toks:=tk' }):wpAny (model PG w) A (call (.ref f) xs) Q E s:=by
  obtain ⟨⟨res,σ',j⟩,_,h2⟩:=Option.map_eq_some_iff.mp hr
  obtain ⟨rfl,h2⟩:=Prod.mk.inj h2
  refine j8 (Rf:=[(md,omd),(mm,om)]) ha fok hlen ⟨j⟩ hd F X T N ((xJ (ma:=ma) (ld:=ld) MD hom).up ⟨ρx,rfl⟩) ?_ ?_ hox rfl hx fun x ρ' Rf' h' tk hu hp hL F' N' nd up b=>?_
  · exact List.pairwise_cons.mpr ⟨fun q hq=>by rw [List.mem_singleton.mp hq]; exact o,List.pairwise_singleton _ _⟩
  · exact fC ⟨MJ.nd,fC ⟨MJ.nm,List.forall_mem_nil _⟩⟩
  dsimp only at h2
  rw [h2] at hL
  obtain ⟨R1,R2,rfl,l1,a1,o1,r1,e1,g1,q1,a2,o2,r2,e2,g2,q2,e3⟩:=hL.app
  subst e3 e2 e1
  obtain rfl:=Option.some.inj ((az hp (i:=1) rfl).symm.trans g1)
  obtain rfl:=Option.some.inj ((az hp (i:=2) rfl).symm.trans g2)
  obtain ⟨w',es',he,hz⟩:=q2
  rw [List.append_assoc] at N'
  refine post x ρ' R1 o1 o2 es' h' tk hu hp l1 F' N' ?_ (intD he) hz b (List.pairwise_append.mp nd).1 fun p hp' q hq=>?_
  · obtain ⟨dd,h,rfl⟩:=q1
    obtain ⟨g,rfl⟩:=ER.lit (by kernel_rfl) h
    have e3:ρ'.getD 3 0=li:=a7 (az hp (i:=3) rfl)
    have e2:ρ'.getD 2 0=mm:=a7 (az hp (i:=2) rfl)
    have e5:ρ'.getD 5 0=sv:=a7 (az hp (i:=5) rfl)
    show aT _ _ _ _ _ _ _ _ (dictOf (Mine.lit w.params ρ' (vE jr fr hu' hl') g) 10)
    rw [← e3,← e2,← e5]
    exact aT.mk
  · have nd':=List.pairwise_append.mp nd
    rcases List.mem_cons.mp hq with rfl | hq
    · exact Ne.symm (nd'.2.2 p hp' _ (.head _))
    · rcases List.mem_cons.mp hq with rfl | hq
      · exact Ne.symm (nd'.2.2 p hp' _ (.tail _ (.head _)))
      · exact up p (List.mem_append_left _ hp') q hq
end
end
section
set_option backward.match.sparseCases false
noncomputable section
variable {w:World} {p:Program} {loose:List Str} {mean:ExcName→Option Value} {mg mb:Str→Option Value} {ma md mm li ld sv jr fr:Addr} {J:List (Addr×Obj)} {used last c:Int} {omd om:Obj} {es:List (Int×Value)}
  {s:Shared} {h₀:Heap} {L:Addr} {m:Str→Option Value} {Q E:Value→Shared→Prop} {A:Around} {tc:Tok}
theorem cS {b:Nat} (h0:0≤c) (h:c≤(b:Int)):c.natAbs≤b:=by
  obtain ⟨n,rfl⟩:=Int.eq_ofNat_of_zero_le h0
  exact Int.ofNat_le.mp h
theorem pY (hd:Rm A 0 8) (F:Fr h₀ L s.heap m) (X:(Mine.hd.heap_1 w.params).In h₀) (T:Top p loose mean mg mb h₀)
    (N:News h₀ L s.heap ((md,omd)::(mm,om)::J)) (MJ:bZ w.params ma md li ld sv mm J) (MD:aT w.params li sv jr mm fr used last omd) (o:@Ne Nat md mm) (hom:om.IsDictOf (intKind PG w) es) (hes:es.length≤1000)
    (hu:0≤used) (hu2:used≤16000000) (hc:0≤c) (hc2:c≤100) (hl:0≤last) (hl2:last≤100000)
    (post:∀ omd' om' es' t h' tk',Fr h₀ L h' m→News h₀ L h' ((md,omd')::(mm,om')::J)→aT w.params li sv jr mm fr (used+c) (last+1) omd'→om'.IsDictOf (intKind PG w) es'→es'.length≤es.length+1→But [md,mm] s.heap h'→Q (.int (last+1) t) { s with heap:=h',toks:=tk' }) :
    wpAny (model PG w) A (call (.ref 498) [.ref ma,.int c tc]) Q E s:=
  have h1:=cS hu hu2
  have h2:=cS hc hc2
  have h3:=cS hl hl2
  er (ρx:=[]) (olx:=[]) (frN:=[(6,.T [.z c 100 h2,.o false,.i 0])]) (vs:=[.s 0,.z c 100 h2]) (u:=.z (last+1) 100001 (gz h3)) (hu:=h1) (hl:=h3) (hn:=hes) (ub:=16000000+100) (hu':=Nat.le_trans (sJ h1) (Nat.add_le_add_left h2 _)) (hl':=gz h3) (hb':=Nat.succ_le_succ hes) rfl (eV _) rfl hd (by kernel_rfl) F X T N MJ MD o hom (.cons (.s rfl) (.cons .z .nil)) (nS MJ)
    fun x ρ' RN omd' om' es' h' tk' hx _ _ F' N' MD' hom' he b _ _=>hx.elim fun t e=>e▸post omd' om' es' t h' tk' F' (ag N' fun p hp=>List.mem_append_right _ hp) MD' hom' he b
theorem nK (hd:Rm A 0 8) (F:Fr h₀ L s.heap m) (X:(Mine.hd.heap_1 w.params).In h₀) (T:Top p loose mean mg mb h₀)
    (N:News h₀ L s.heap ((md,omd)::(mm,om)::J)) (MJ:bZ w.params ma md li ld sv mm J) (MD:aT w.params li sv jr mm fr used last omd) (o:@Ne Nat md mm) (hom:om.IsDictOf (intKind PG w) es) (hes:es.length≤1000)
    (hu:0≤used) (hu2:used≤16000000) (hl:0≤last) (hl2:last≤100000)
    (post:∀ x omd' om' es' h' tk',Fr h₀ L h' m→News h₀ L h' ((md,omd')::(mm,om')::J)→aT w.params li sv jr mm fr (used+32) (last+1) omd'→om'.IsDictOf (intKind PG w) es'→es'.length≤es.length+1→But [md,mm] s.heap h'→Q (.ref x) { s with heap:=h',toks:=tk' }) :
    wpAny (model PG w) A (call (.ref 533) [.ref ma,.int 2 tc]) Q E s:=
  have h1:=cS hu hu2
  have h3:=cS hl hl2
  er (c:=32) (ρx:=[]) (olx:=[]) (frN:=[(9,.D [] 0),(8,.I 161 7),(7,.D [(Str.ofString "number",.z (last+1) 100001 (gz h3)),(Str.ofString "most",.i 2),(Str.ofString "is_global",.o false),(Str.ofString "level",.i 0),(Str.ofString "access",.i 3),(Str.ofString "entries",.s 9)] 6),(6,.T [.i 32,.o false,.i 0])]) (vs:=[.s 0,.i 2]) (u:=.s 8) (hu:=h1) (hl:=h3) (hn:=hes) (ub:=16000000+32) (hu':=sJ (c:=32) h1) (hl':=gz h3) (hb':=Nat.succ_le_succ hes) rfl (ee _) rfl hd (by kernel_rfl) F X T N MJ MD o hom (.cons (.s rfl) (.cons .i .nil)) (nS MJ)
    fun x ρ' RN omd' om' es' h' tk' hx _ _ F' N' MD' hom' he b _ _=>hx.elim fun a e=>e.2▸post a omd' om' es' h' tk' F' (ag N' fun p hp=>List.mem_append_right _ hp) MD' hom' he b
noncomputable def rowN (us:List SV) (nv:SV):List (Nat×SO):=[(10,.L us),(9,.I 128 8),(8,.D [(Str.ofString "number",nv),(Str.ofString "things",.s 10),(Str.ofString "is_global",.o false),(Str.ofString "level",.i 0)] 4),(7,.T [.i (8*(us.length:Int)),.o false,.i 0])]
theorem qF {ρ:List Addr}:∀ {vs:List Value},aC ρ (vs.map SV.u) vs
  | []=>rfl
  | v::vs=>⟨v,vs,rfl,rfl,qF⟩
theorem qI {ρ:List Addr}:∀ {vs xs:List Value},aC ρ (vs.map SV.u) xs→xs=vs
  | [],_,h=>h
  | v::vs,_,⟨x,r,e,h1,h2⟩=>by rw [e,show x=v from h1,qI h2]
theorem tU {ρ0:List Addr} {hu:used.natAbs≤16000000} {hl:last.natAbs≤100000} {hn:es.length≤1000}:∀ {vs:List Value},vs.length≤3→ρ0.length=7→∀ (hu':(used+8*(vs.length:Int)).natAbs≤16000000+(8*(vs.length:Int)).natAbs),wu (fo w p loose mean mg mb J ρ0 fn526_2 [.s 0,.s 6] (l5 jr fr hu hl hn) [(6,.L (vs.map SV.u))])=some (some (.s 9),rowN (vs.map SV.u) (.z (last+1) 100001 (gz hl))++l5 jr fr hu' (gz hl) (Nat.succ_le_succ hn))
  | [],_,h,_=>by unfold fo; rw [h]; kernel_rfl
  | [_],_,h,_=>by unfold fo; rw [h]; kernel_rfl
  | [_,_],_,h,_=>by unfold fo; rw [h]; kernel_rfl
  | [_,_,_],_,h,_=>by unfold fo; rw [h]; kernel_rfl
  | _::_::_::_::_,h,_,_=>absurd h (by simp)
theorem or {α:Type} {a b c:α} {l:List α}:∀ p∈a::b::c::l,p∈b::c::a::l:=fC ⟨.tail _ (.tail _ (.head _)),fC ⟨.head _,fC ⟨.tail _ (.head _),fun p hp=>.tail _ (.tail _ (.tail _ hp))⟩⟩⟩
theorem tX {α:Type} {a b c:α} {l:List α}:∀ p∈b::c::a::l,p∈a::b::c::l:=fC ⟨.tail _ (.head _),fC ⟨.tail _ (.tail _ (.head _)),fC ⟨.head _,fun p hp=>.tail _ (.tail _ (.tail _ hp))⟩⟩⟩
theorem mI {P:Params} {ρ:List Addr} {vs:List Value} {nv:SV} {RN:List (Addr×Obj)} {a:Addr} {G:Prop} (hL:LR ρ P (rowN (vs.map SV.u) nv) RN) (ha:ρ[9]?=some a)
    (k:∀ dx lst n' vn vg vl t1 t2 t3 t4 q,RN=[(lst,listOf vs.toArray n'),(a,instObj 128 dx),(dx,bc P (Str.ofString "things") vn (.ref lst) vg vl t1 t2 t3 t4),q]→G):G:=by
  obtain ⟨lst,o1,r1,e0,e1,q1,hL⟩:=hL
  obtain ⟨xs,n',q1,rfl⟩:=q1
  obtain rfl:=qI q1
  obtain ⟨x,o2,r2,rfl,e2,q2,hL⟩:=hL
  obtain ⟨d,e3,rfl⟩:=q2
  obtain ⟨dx,o3,r3,rfl,e4,q3,a4,o4,r4,rfl,_,_,hr⟩:=hL
  obtain rfl:r4=[]:=hr
  obtain ⟨ds,q3,rfl⟩:=q3
  obtain ⟨t1,v1,s1,rfl,g1,q3⟩:=q3
  obtain ⟨t2,v2,s2,rfl,g2,q3⟩:=q3
  obtain ⟨a2,e5,rfl⟩:=g2
  obtain ⟨t3,v3,s3,rfl,g3,q3⟩:=q3
  obtain ⟨t4,v4,s4,rfl,g4,q3⟩:=q3
  obtain rfl:s4=[]:=q3
  obtain rfl:x=a:=Option.some.inj (e2.symm.trans ha)
  obtain rfl:d=dx:=Option.some.inj (e3.symm.trans e4)
  obtain rfl:a2=lst:=Option.some.inj (e5.symm.trans e1)
  exact k _ _ _ _ _ _ _ _ _ _ _ e0
theorem ko {tl:Addr} {vs:List Value} {nt:Nat} (hd:Rm A 0 8) (F:Fr h₀ L s.heap m) (X:(Mine.hd.heap_1 w.params).In h₀) (T:Top p loose mean mg mb h₀)
    (N:News h₀ L s.heap ((tl,listOf vs.toArray nt)::(md,omd)::(mm,om)::J)) (hvs:vs.length≤3) (n1:@Ne Nat tl md) (n2:@Ne Nat tl mm) (MJ:bZ w.params ma md li ld sv mm J) (MD:aT w.params li sv jr mm fr used last omd) (o:@Ne Nat md mm) (hom:om.IsDictOf (intKind PG w) es) (hes:es.length≤1000)
    (hu:0≤used) (hu2:used≤16000000) (hl:0≤last) (hl2:last≤100000)
    (post:∀ x dx lst n' vn vg vl t1 t2 t3 t4 omd' om' es' h' tk',Fr h₀ L h' m→News h₀ L h' ((lst,listOf vs.toArray n')::(x,instObj 128 dx)::(dx,bc w.params (Str.ofString "things") vn (.ref lst) vg vl t1 t2 t3 t4)::(tl,listOf vs.toArray nt)::(md,omd')::(mm,om')::J)→
      aT w.params li sv jr mm fr (used+8*(vs.length:Int)) (last+1) omd'→om'.IsDictOf (intKind PG w) es'→es'.length≤es.length+1→But [md,mm] s.heap h'→[lst,x,dx].Pairwise (·≠·)→(∀ a∈[lst,x,dx],∀ q∈(tl,listOf vs.toArray nt)::(md,omd')::(mm,om')::J,q.1≠a)→Q (.ref x) { s with heap:=h',toks:=tk' }) :
    wpAny (model PG w) A (call (.ref 526) [.ref ma,.ref tl]) Q E s:=by
  have h1:=cS hu hu2
  have h3:=cS hl hl2
  refine er (J:=(tl,listOf vs.toArray nt)::J) (c:=8*(vs.length:Int)) (ρx:=[tl]) (olx:=[(6,.L (vs.map SV.u))]) (frN:=rowN (vs.map SV.u) (.z (last+1) 100001 (gz h3))) (vs:=[.s 0,.s 6]) (u:=.s 9) (hu:=h1) (hl:=h3) (hn:=hes) (hu':=sJ h1) (hl':=gz h3) (hb':=Nat.succ_le_succ hes) rfl (eT _) rfl hd (tU hvs rfl _) F X T (ag N tX) (MJ.cons n1 n2) MD o hom (.cons (.s rfl) (.cons (.s rfl) .nil)) ⟨⟨_,_,rfl,.head _,vs,nt,qF,rfl⟩,nS (MJ.cons n1 n2)⟩ fun x ρ' RN omd' om' es' h' tk' ⟨a,ha,hx⟩ _ hL F' N' MD' hom' he b nd up=>?_
  subst hx
  refine mI hL ha fun dx lst n' v1 v3 v4 t1 t2 t3 t4 q4 e=>?_
  subst e
  exact post a dx lst n' v1 v3 v4 t1 t2 t3 t4 omd' om' es' h' tk' F' (ag N' (fC ⟨.head _,fC ⟨.tail _ (.head _),fC ⟨.tail _ (.tail _ (.head _)),fun p hp=>.tail _ (.tail _ (.tail _ (.tail _ (or p hp))))⟩⟩⟩)) MD' hom' he b
    ((List.pairwise_map.mpr nd:[lst,a,dx,q4.1].Pairwise (·≠·)).sublist (.cons_cons _ (.cons_cons _ (.cons_cons _ (List.nil_sublist _))))) (fC ⟨fun q hq=>up _ (.head _) q (or q hq),fC ⟨fun q hq=>up _ (.tail _ (.head _)) q (or q hq),fC ⟨fun q hq=>up _ (.tail _ (.tail _ (.head _))) q (or q hq),List.forall_mem_nil _⟩⟩⟩)
end
end
section
set_option backward.match.sparseCases false
noncomputable section
section
variable {c:Ct} {n:Nat} {r:FnR} {σ τ:Sy}
structure Wk (σ τ:Sy):Prop where
  fr:τ.fr=σ.fr
  ol:τ.ol=σ.ol
  nx:τ.nx=σ.nx
  wd:τ.wd=σ.wd
  lv:∀ x u,τ.loc.lookup x=some u→∃ u',σ.loc.lookup x=some u'∧∀ ρ y,VR ρ u' y→VR ρ u y
theorem St.wk {f:Fx} {v:Vr} (h:Wk σ τ) (S:St c f v σ):St c f v τ:=
  { S with
    lv:=fun x u e=>by
      obtain ⟨u',e',hu⟩:=h.lv x u e
      exact (S.lv x u' e').imp fun y q=>⟨q.1,hu _ _ q.2⟩
    lr:=by rw [h.fr]; exact S.lr
    ol:=by rw [h.ol]; exact S.ol
    wp:=by rw [h.wd]; exact S.wp
    nx:=by rw [h.nx]; exact S.nx }
theorem af.wk {α:Type} {t:Addr→Sem α} {post:List Addr→α→Prop} {σ0:Sy} (j:af c n σ0 t post σ) (h:Wk σ τ):af c n σ0 t post τ:=fun f v tk Q ok S hq=>j f v tk Q ok S fun x v' tk' p q S'=>hq x v' tk' p q (S'.wk h)
end
theorem SJ.wk {c:Ct} {n:Nat} {r:FnR} {ss:List Stmt} {σ0 σ τ:Sy} {res:Option SV} (j:SJ c n r ss σ0 res σ) (h:Wk σ τ):SJ c n r ss σ0 res τ:=⟨j.j.wk h⟩
theorem SJ.split {c:Ct} {n:Nat} {r:FnR} {ss:List Stmt} {σ σ1 σ2:Sy} {res:Option SV} (k:Nat) (h1:SJ c n r (ss.take k) σ none σ1) (h2:SJ c n r (ss.drop k) σ1 res σ2):SJ c n r ss σ res σ2:=⟨af.split k h1.j h2.j⟩
theorem SJ.ok {c:Ct} {n:Nat} {r:FnR} {ss:List Stmt} {σ σ':Sy} {res:Option SV} {o:Option (CS c n r ss σ)} (h:o.map (fun q=>(q.res,q.σ'))=some (res,σ')):SJ c n r ss σ res σ':=⟨wM h⟩
variable {w:World} {p:Program} {loose:List Str} {mean:ExcName→Option Value} {mg mb:Str→Option Value} {R0:List (Addr×Obj)} {ρ0:List Addr} {lm n:Nat} {r:FnR} {σ:Sy}
theorem pG {x:Str} {px pos:Pos} {iter:PySem.Expr} {body rest:List Stmt} {o:Array UInt8} {u0:SV} {τ:Nat→Sy} {res:Option SV} {σ2:Sy} (hx:dX (aa r 0) x=true) (hs:∀ env x,foldedSetIterable iter env x=pure x)
    (hI:af (bD w p loose mean mg mb R0 ρ0 lm) n σ (fun L=>eval iter (aa r L)) (fun ρ y=>VR ρ u0 y) (τ 0)) (h0:∀ ρ y,VR ρ u0 y→∃ t,y=.bytes o t) (hol:∀ i,(τ i).ol=σ.ol)
    (turn:∀ own i b,o[i]?=some b→∃ σ',Wk σ' (τ (i+1))∧af (bD w p loose mean mg mb (R0++own) ρ0 lm) n { τ i with loc:=put x (.i (b.toNat:Int)) (τ i).loc } (fun L=>execs body (aa r L)) (ak none) σ')
    (h2:af (bD w p loose mean mg mb R0 ρ0 lm) n (τ o.size) (fun L=>execs rest (aa r L)) (ak res) σ2) :
    af (bD w p loose mean mg mb R0 ρ0 lm) n σ (fun L=>execs (.For (.Name x px) iter body [] pos::rest) (aa r L)) (ak res) σ2:=fun f v tk Q ok S hq=>by
  obtain ⟨k1,k2⟩:=dF hx
  refine wpAny_execs_cons (wpAny_mono (For_invV (E:=fun z_ z_=>False) f.h₀ k2 ?_ (hI ⟨f.A,fun z_ z_=>False,f.h₀,f.L,f.s⟩ v tk _ ⟨ok.hd,ok.dp,ok.un,ok.X,ok.T⟩ { S with } fun y v1 t1 p1 q1 S1=>?_) (hs _)) (fun _ _ h=>h) fun _ _ h=>h.elim)
  · show (r.scope.kind==.class||(r.scope.kind==.module&&f.L != mainGlobals))=false
    rw [show r.scope.kind=.function from k1]; rfl
  obtain ⟨t,rfl⟩:=h0 _ _ q1
  refine KBw.pyIter_bytes ?_
  have F1:=S1.fr
  have N1:=S1.nw
  refine kdr_loop (m₀:=v1.m) (news:=v1.Rf++v1.R1) (fun i m nx=>∃ v',v.ρ <+: v'.ρ∧nx=v'.Rf++v'.R1∧v'.m=m∧St (bD w p loose mean mg mb R0 ρ0 lm) f v' (τ i)) (KBw.walks ok.hd _ o t) (fun a h=>h) (fun a h=>h)
    (fun i h st b hb=>by obtain ⟨o',e,_⟩:=st; rw [List.mem_singleton.mp hb]; exact ⟨o',e⟩) (fun hm=>absurd F1.ns.lt ((List.mem_singleton.mp hm)▸Nat.lt_irrefl _))
    (fun b hb=>by rw [List.mem_singleton.mp hb]; exact next_is_new F1) (fun p hp hI=>absurd (Heap.lt_size (N1 p hp).1) ((List.mem_singleton.mp hI)▸Nat.lt_irrefl _)) ⟨_,Heap.get?_push_size _ rfl,rfl,rfl⟩ (F1.push _) (fun p hp=>⟨Heap.get?_push_of_some _ (N1 p hp).1,(N1 p hp).2⟩) ⟨v1,p1,rfl,rfl,{ S1 with }⟩ ?_ ?_
  · rintro i z m₁ nx h tk' own hi ⟨b,u,hb,rfl⟩ hoff ⟨v',p',rfl,rfl,S'⟩ F' N'
    obtain ⟨σ',hw,j⟩:=turn own i b hb
    have e1:v'.R1=R0:=S'.wp
    have off:∀ q∈own,∀ d∈v'.Rf++v'.R1,q.1≠d.1:=fun q hq d hd=>hoff q hq _ (List.mem_map_of_mem hd)
    refine j ⟨f.A,fun z_ z_=>False,f.h₀,f.L,f.s⟩ ⟨v'.ρ,v'.Rf,v'.R1++own,h,_⟩ tk' _ ⟨ok.hd,ok.dp,ok.un,ok.X,ok.T⟩ { S' with
      fr:=F'
      lv:=fun z w e=>?_
      nw:=by rw [List.append_assoc] at N'; exact N'
      ol:=fun k q e=>(S'.ol k q e).imp fun a=>Exists.imp fun o h=>⟨h.1,List.mem_append_left _ h.2.1,h.2.2⟩
      sb:=by rw [e1]; exact fun _ h=>h
      wp:=by rw [e1]
      up:=fun q hq d hd=>(List.mem_append.mp hd).elim (S'.up q hq d) fun hd=>off d hd q (List.mem_append_left _ hq) } fun fl v3 t3 p3 q3 S3=>?_
    · rw [eg] at e
      show ∃ y',(if z=x then some (Value.int (b.toNat:Int) u) else v'.m z)=some y'∧_
      split at e
      · rw [if_pos ‹_›]; cases e; exact ⟨_,rfl,.i⟩
      · rw [if_neg ‹_›]; exact S'.lv z w e
    · obtain rfl:fl=.next:=q3
      have e3:v3.R1=R0++own:=S3.wp
      have S4:=S3.wk hw
      have N3:=S3.nw
      rw [e3] at N3
      refine InvEndG.intro (nx:=v3.Rf++R0) S3.fr N3 ⟨⟨v3.ρ,v3.Rf,R0,v3.h,v3.m⟩,p'.trans p3,rfl,rfl,{ S4 with
        nw:=ag N3 fun q hq=>(List.mem_append.mp hq).elim (List.mem_append_left _) fun h=>List.mem_append_right _ (List.mem_append_left _ h)
        ol:=fun k q e=>(S'.ol k q (by rw [hol i,← hol (i+1)]; exact e)).imp fun a=>Exists.imp fun o h=>⟨az p3 h.1,h.2.1,h.2.2.up p3⟩
        sb:=fun _ h=>h
        wp:=rfl
        up:=fun q hq d hd=>S3.up q hq d (by rw [e3]; exact List.mem_append_left _ hd) }⟩ (fun q hq d hd=>?_) (fun q hq=>(List.mem_append.mp hq).elim (List.mem_append_left _) fun h=>List.mem_append_right _ (List.mem_append_left _ h)) fun q hq=>List.mem_append_right _ (List.mem_append_right _ hq)
      obtain ⟨d',hd',rfl⟩:=List.mem_map.mp hd
      rcases List.mem_append.mp hd' with hd' | hd'
      · exact S3.up d' hd' q (by rw [e3]; exact List.mem_append_right _ hq)
      · exact off q hq d' (List.mem_append_right _ (e1▸hd'))
  · rintro m₁ nx h tk' ⟨v',p',rfl,rfl,S'⟩ F' N'
    exact h2 f ⟨v'.ρ,v'.Rf,v'.R1,h,v'.m⟩ tk' Q ok { S' with fr:=F',nw:=N' } fun z v3 t3 p3 q3 S3=>hq z v3 t3 (p'.trans p3) q3 S3
end
end
section
set_option backward.match.sparseCases false
open LCg in
theorem eI {prog:Program} {w:World} {A:Around} {s:Shared} {h₀:Heap} {L:Addr} {m:Str→Option Value} {env:Env} {elt:PySem.Expr} {x:Str} {scope:Scope} {cl:List (Str×Addr)} {S:List (Addr×Obj)→Prop} {P:Nat→Value→Prop}
    {Fin:List Value→List (Addr×Obj)→Prop} {news:List (Addr×Obj)} {bs:List (Array UInt8)} (hS:S news)
    (turn:∀ (i:Nat) (b:Array UInt8) (v:Value) (C:Addr) (oC:Obj) (m₂:Str→Option Value) (h:Heap) (tk:Nat) (Q E':Value→Shared→Prop) (all:List (Addr×Obj)),bs[i]?=some b→P i v→NsObj oC m₂→m₂ x=some v→Fr h₀ L h m→News h₀ L h all→(C,oC)∈all→(∀ p∈news,p∈all)→
      (∀ t h' tk',Fr h₀ L h' m→But [] h h'→Q (.bytes b t) { s with heap:=h',toks:=tk' })→wpAny (model prog w) A (eval elt (compEnvC scope cl C env)) Q E' { s with heap:=h,toks:=tk })
    (fin:∀ ys,aB ys bs→Fin ys news):CompRest prog w A h₀ L m env elt x scope cl s S P Fin bs.length 0 [] news:=by
  suffices rest:∀ j i ys,i+j=bs.length→aB ys (bs.take i)→CompRest prog w A h₀ L m env elt x scope cl s S P Fin j i ys news from rest _ 0 [] (Nat.zero_add _) .nil
  intro j
  induction j with
  | zero=>exact fun i ys hi hys=>CompRest.zero (fin ys (by rw [← List.take_of_length_le (Nat.le_of_eq hi.symm)]; exact hys))
  | succ j ih=>
    refine fun i ys hi hys=>CompRest.succ fun v I oI C oC D m₂ h tk E' hP hoC hm₂ FC NC off hne=>?_
    have hil:i<bs.length:=by rw [← hi]; exact Nat.lt_add_of_pos_right (Nat.succ_pos _)
    have hb:bs[i]?=some bs[i]:=List.getElem?_eq_getElem hil
    refine turn i bs[i] v C oC m₂ h tk _ E' _ hb hP hoC hm₂ FC NC (.tail _ (.head _)) (fun p hp=>.tail _ (.tail _ (.tail _ hp))) fun t h' tk' F' b=>?_
    refine CompEnd.intro F' (Mine.news_but0 NC b) news (fun p hp=>hp) off hS (ih (i+1) _ ((Nat.succ_add_eq_add_succ _ _).trans hi) ?_)
    rw [List.take_add_one,hb]
    exact hys.snoc _ _
noncomputable def pV (sc:Scope) (env:Env) (f x dn:Str):Bool:=
  (relabel sc env).kind==.function&&(relabel sc env).names.lookup f==some .globalImplicit&&(relabel sc env).names.lookup x==some .local&&(relabel sc env).names.lookup dn==some .cell&&(!(f==("__debug__":Str))&&!(x==("__debug__":Str))&&!(dn==("__debug__":Str)))&&env.globals==mainGlobals
theorem gY {w:World} {p:Program} {loose:List Str} {mean:ExcName→Option Value} {mg mb:Str→Option Value} {A:Around} {E:Value→Shared→Prop} {s:Shared} {h₀:Heap} {L C ca fa:Addr} {m m₂:Str→Option Value} {env:Env} {sc:Scope} {cl:List (Str×Addr)} {f x dn:Str} {pf p1 p2 p3 p4 pc:Pos} {ci:Nat} {oC co:Obj} {v:Value} {d:Int} {td:Tok} {all:List (Addr×Obj)} {Q:Value→Shared→Prop}
    (ok:pV sc env f x dn=true) (hf:nsIn (Mine.hd.heap_1 w.params) mainGlobals f=some (some (.ref fa))) (hk:keepIn (Mine.hd.heap_1 w.params) (.ref fa)=true) (hcl:cl.lookup dn=some ca) (X:(Mine.hd.heap_1 w.params).In h₀) (T:Top p loose mean mg mb h₀) (hoC:LCg.NsObj oC m₂) (hm₂:m₂ x=some v) (F:Fr h₀ L s.heap m) (N:News h₀ L s.heap all) (hC:(C,oC)∈all) (hco:(ca,co)∈all) (hcd:co.data=.cell (some (.int d td)))
    (h:∀ td' tk',wpAny (model PG w) A (call (.ref fa) [v,.int (d - 1) td']) Q E { s with toks:=tk' }) :
    wpAny (model PG w) A (eval (.Call (.Name f pf) [.Name x p1,.BinOp (.Name dn p2) .Sub (.Constant (.int 1) ci p3) p4] [] pc) (compEnvC sc cl C env)) Q E s:=by
  unfold pV at ok
  simp only [Bool.and_eq_true,beq_iff_eq,Bool.not_eq_true'] at ok
  obtain ⟨⟨⟨⟨⟨k1,k2⟩,k3⟩,k4⟩,⟨k5,k6⟩,k7⟩,k8⟩:=ok
  refine wpAny_Call_NameR (LCgL.ld_global F X T hf ?_ k8 k1 k2 k5)
  refine callWith_K X hk (PyProof.Rows.args_cons (LCgL.ld_own N hC hoC hm₂ (PyProof.Rows.args_cons (wpAny_BinOp (wpAny_Name (wpAny_loadName_cell (env:=compEnvC sc cl C env) k1 k4 hcl ⟨co,(N _ hco).1,hcd⟩ (wpAny_Constant_int (PySem.P.sub_int (PyProof.Rows.args_nil ⟨X.keeps F.keep,h _ _⟩)))) k7)) rfl) k1 k3 k6) rfl) rfl rfl
noncomputable section
structure jk (P:Params) (r:FnR) (a b:Str):Prop where
  at_:∃ D:w0 P r,∀ (s:Shared) (x y:Value),BindsTo s D.f ⟨[x,y],[]⟩ [(a,x),(b,y)]
  cd:codeIn (Mine.hd.heap_1 P) (.ref (r.a - 1)) r.qual=true
  ok:(r.scope.isCoroutine==false&&r.scope.isGenerator==false&&r.scope.kind==.function&&r.scope.names.lookup a==some .local&&r.scope.names.lookup b==some .cell&&!(a==b))=true
  cells:∀ n,cellsFrom n r.scope.names []=[(b,n)]
theorem jk.of {P:Params} {r:FnR} {a b:Str} {f:Addr} (ha:r.a=f) {oc:Value} {od:Option Addr} {osl:Array (Option Value)} {nm:Str} {params:Arguments} {dV kV doc pm ct:Value} {an:Option Addr}
    (ho:(Mine.hd.heap_1 P).lookup f=some ⟨oc,od,.func (fnOf nm r.qual params r.body r.scope dV kV doc pm an (.ref (f - 1)) ct),osl⟩) (hb:∀ (s:Shared) (x y:Value),BindsTo s (fnOf nm r.qual params r.body r.scope dV kV doc pm an (.ref (f - 1)) ct) ⟨[x,y],[]⟩ [(a,x),(b,y)])
    (cd:codeIn (Mine.hd.heap_1 P) (.ref (r.a - 1)) r.qual=true) (ok:(r.scope.isCoroutine==false&&r.scope.isGenerator==false&&r.scope.kind==.function&&r.scope.names.lookup a==some .local&&r.scope.names.lookup b==some .cell&&!(a==b))=true) (cells:∀ n,cellsFrom n r.scope.names []=[(b,n)]):jk P r a b:=by
  subst ha
  exact ⟨⟨⟨_,_,_,_,_,_,_,_,_,_,_,ho⟩,hb⟩,cd,ok,cells⟩
theorem rA {k:Str→Option NameKind} {a b:Str} {x y:Value} (ka:k a=some .local) (kb:k b=some .cell):bindL k [(a,x),(b,y)] (fun z_=>none) a=some x:=by
  show (if k b=some NameKind.local then _ else (if k a=some NameKind.local then _ else _):Str→Option Value) a=_
  rw [if_neg (by rw [kb]; decide),if_pos ka]
  exact if_pos rfl
theorem sB {k:Str→Option NameKind} {a b:Str} {x y:Value} (kb:k b=some .cell):bindC k [(a,x),(b,y)] (fun z_=>none) b=some y:=by
  show (if k b=some NameKind.local then _ else _:Str→Option Value) b=_
  rw [if_neg (by rw [kb]; decide)]
  exact if_pos rfl
noncomputable def FnR.wc (r:FnR) (b:Str) (ca:Addr):FnR:={ r with cl:=[(b,ca)] }
section
variable {w:World} {p:Program} {loose:List Str} {mean:ExcName→Option Value} {mg mb:Str→Option Value} {R0:List (Addr×Obj)} {ρ0:List Addr} {lm:Nat}
theorem cU {n:Nat} {f:Addr} {a b:Str} {r:FnR} {o:Array UInt8} {v0:SV} {ol:List (Nat×SO)} {nx:Nat} {A:Around} {E:Value→Shared→Prop} {s:Shared} {h₀:Heap} {L:Addr} {m:Str→Option Value} {x y:Value} {Q:Value→Shared→Prop}
    (ha:r.a=f) (fok:jk w.params r a b) (hd:Rm A lm n) (F:Fr h₀ L s.heap m) (X:(Mine.hd.heap_1 w.params).In h₀) (T:Top p loose mean mg mb h₀) (N:News h₀ L s.heap R0)
    (hol:oa w.params ρ0 R0 ol) (hn:ρ0.length=nx) (hx:VR ρ0 v0 x)
    (hr:∀ ca co,co.data=.cell (some y)→∃ σ' u,(∀ ρ z,VR ρ u z→∃ t,z=.bytes o t)∧SJ (bD w p loose mean mg mb ((ca,co)::R0) ρ0 lm) n (r.wc b ca) r.body ⟨[(a,v0)],[],ol,nx,[]⟩ (some u) σ')
    (hq:∀ u h' tk,Fr h₀ L h' m→But [] s.heap h'→Q (.bytes o u) { s with heap:=h',toks:=tk }):wpAny (model PG w) A (call (.ref f) [x,y]) Q E s:=by
  subst ha
  obtain ⟨⟨D,hb⟩,hcd,hok,hcl⟩:=fok
  simp only [Bool.and_eq_true,beq_iff_eq,Bool.not_eq_true',beq_eq_false_iff_ne] at hok
  obtain ⟨⟨⟨⟨⟨o1,o2⟩,o3⟩,o4⟩,o5⟩,o6⟩:=hok
  refine wpAny_call (j1 F X N T D.ho hcd (by have:=hd.dp; show A.depth<1000; exact lin (.c _ (.c _ (.c _ .z))) (.c (.a (.a (.a (.v 0) (.k 1)) (.m 2 (.v 1))) (.v 2)) (.k 890) .z) (.a (.v 0) (.k 1)) (.k 1000) rfl this) (hb s x y) ?_ ?_ (fun g L' h₁ tk cells FG F' N' Y' st bt X' T' l1=>?_) o1 o2 o3)
  · simp only [List.all_cons,List.all_nil,o4,o5]; rfl
  · rw [hcl]; exact List.nodup_cons.mpr ⟨nofun,.nil⟩
  rw [hcl] at Y'
  obtain ⟨co,rfl,hco⟩:=Y'.one
  have k4:(envOfC r.qual r.scope L' r.a (.ref (r.a - 1))).kindOf a=some .local:=o4
  have k5:(envOfC r.qual r.scope L' r.a (.ref (r.a - 1))).kindOf b=some .cell:=o5
  have hco:co.data=.cell (some y):=by
    rw [hco,sB k5]
  have he:envOfC r.qual r.scope L' r.a (.ref (r.a - 1))=aa (r.wc b (L'+1)) L':=by unfold envOfC aa FnR.wc; rw [hcl]
  obtain ⟨σ',u,hu,⟨j⟩⟩:=hr (L'+1) co hco
  rw [he]
  refine j ⟨A.deeper (aa (r.wc b (L'+1)) L'),fun z_ z_=>False,g,L',s⟩ ⟨ρ0,[],(L'+1,co)::R0,h₁,_⟩ tk _ ⟨hd.hd,hd.dp,hd.un,X',T'⟩
    ⟨F',fun z v e=>?_,N',rfl,fun i q e=>(hol.get e).imp fun a=>Exists.imp fun o h=>⟨h.1,.tail _ h.2.1,h.2.2⟩,fun _ h=>h,rfl,hn,.nil,(fun _ h=>nomatch h),List.prefix_refl _⟩ fun fl v1 tk1 p1 q1 S1=>?_
  · rcases lookHead e with ⟨rfl,rfl⟩ | ⟨_,e⟩
    · exact ⟨x,rA k4 k5,hx⟩
    · cases e
  refine leaveK_ S1.fr S1.nw fun F2 N2=>?_
  obtain ⟨z,rfl,hz⟩:=q1
  obtain ⟨t,rfl⟩:=hu _ _ hz
  have e1:v1.R1=(L'+1,co)::R0:=S1.wp
  rw [e1] at N2
  exact hq t v1.h tk1 F2 (l8 (bt.of S1.fr) N (ag N2 fun p hp=>List.mem_append_right _ (.tail _ hp)))
end
end
noncomputable section
section
variable {w:World} {p:Program} {loose:List Str} {mean:ExcName→Option Value} {mg mb:Str→Option Value} {R0:List (Addr×Obj)} {ρ0:List Addr} {lm:Nat}
theorem aC.us {ρ:List Addr} {zs:List Value}:∀ {xs:List Value},aC ρ (zs.map SV.u) xs↔xs=zs:=by
  induction zs with
  | nil=>exact Iff.rfl
  | cons z zs ih=>exact ⟨fun ⟨x,r,e,a,b⟩=>by rw [e,show x=z from a,ih.mp b],fun e=>⟨z,zs,e,rfl,ih.mpr rfl⟩⟩
noncomputable def gj (c:Ct) (n:Nat) (r:FnR) (σ1:Sy) (elt:PySem.Expr) (x:Str) (scope:Scope) (cl:List (Str×Addr)) (zs:List Value) (bs:List (Array UInt8)):Prop:=
  ∀ (f:Fx) (v:Vr),f.Ok c n→St c f v σ1→∀ (i:Nat) (b:Array UInt8) (z:Value) (C:Addr) (oC:Obj) (m₂:Str→Option Value) (h:Heap) (tk:Nat) (Q E':Value→Shared→Prop) (all:List (Addr×Obj)),bs[i]?=some b→zs[i]?=some z→LCg.NsObj oC m₂→m₂ x=some z→Fr f.h₀ f.L h v.m→News f.h₀ f.L h all→(C,oC)∈all→(∀ p∈v.Rf++v.R1,p∈all)→
    (∀ t h' tk',Fr f.h₀ f.L h' v.m→But [] h h'→Q (.bytes b t) (f.sh h' tk'))→wpAny (model PG c.w) f.A (eval elt (compEnvC scope cl C (aa r f.L))) Q E' (f.sh h tk)
variable {c:Ct} {n:Nat} {r:FnR} {σ σ1:Sy} {elt iter:PySem.Expr} {x:Str} {scope:Scope} {cl:List (Str×Addr)} {zs:List Value} {bs:List (Array UInt8)} {i m:Nat}
theorem gk {f:Fx} {v1:Vr} {t1:Nat} {y:Value} {Fin:Shared→List Value→List (Addr×Obj)→Prop} (ok:f.Ok c n) (S1:St c f v1 σ1) (hy:VR v1.ρ (.s i) y) (hl:σ1.look i=some (.L (zs.map SV.u))) (hz:zs.length=bs.length) (hm:Nat.ble m 100000=true) (hb:bs.length+ah bs≤m) (turn:gj c n r σ1 elt x scope cl zs bs)
    (fin:∀ g ys,aB ys bs→Fin (f.sh g t1) ys (v1.Rf++v1.R1)):LCg.CompSrc PG c.w f.A f.h₀ f.L v1.m (aa r f.L) elt x scope cl Fin y (f.sh v1.h t1):=by
  obtain ⟨d,hd,rfl⟩:=hy
  obtain ⟨a1,o1,g1,m1,r1⟩:=S1.look hl
  obtain rfl:=Option.some.inj (hd.symm.trans g1)
  obtain ⟨xs,k,hv,rfl⟩:=r1
  obtain rfl:=aC.us.mp hv
  have hle:xs.toArray.size≤sizeLine:=by
    rw [List.size_toArray,hz,sizeLine_eq]
    exact Nat.le_trans (Nat.le_trans (Nat.le_add_right _ _) hb) (Nat.le_trans (Nat.le_of_ble_eq_true hm) (by decide))
  refine LCg.CompSrc.ledger ok.hd S1.fr S1.nw m1 hle fun g=>?_
  rw [List.size_toArray,hz]
  exact eI (Or.inr ⟨_,m1,rfl,_,rfl⟩) (fun i b z C oC m₂ h tk Q E' all h1 h2=>turn f v1 ok S1 i b z C oC m₂ h tk Q E' all h1 (by simpa using h2)) (fin g)
theorem St.pushJ {f:Fx} {v:Vr} {h':Heap} {D:Addr} {ys:List Value} {hb:bs.length+ah bs≤m} (S:St c f v σ) (F:Fr f.h₀ f.L h' v.m) (N:News f.h₀ f.L h' ((D,LCg.lst ys)::(v.Rf++v.R1))) (off:LCg.Off1 D (v.Rf++v.R1)) (hy:aB ys bs) :
    St c f ⟨v.ρ++[D],(D,LCg.lst ys)::v.Rf,v.R1,h',v.m⟩ { σ with fr:=(σ.nx,.J bs m hb)::σ.fr,nx:=σ.nx+1 }:=
  S.pushN F N (de off) ⟨ys,_,hy,rfl⟩
noncomputable def dI (c:Ct) (n:Nat) (σ:Sy) (t:Addr→Sem Value) (u:SV) (σ':Sy):Prop:=
  ∀ (f:Fx) (v:Vr) (tk:Nat) (Q:Value→Shared→Prop),f.Ok c n→St c f v σ→(∀ x v' tk',v.ρ <+: v'.ρ→VR v'.ρ u x→St c f v' σ'→v'.m=v.m→Q x (f.sh v'.h tk'))→wpAny (model PG c.w) f.A (t f.L) Q f.E (f.sh v.h tk)
theorem xL {t:Str} {p1 cp ps:Pos} {z:Int} {ci:Nat} {u u2:SV} (hn:σ.loc.lookup t=some u) (hk:dX (aa r 0) t=true) (h:ef c σ u (.i z) u2):dI c n σ (fun L=>eval (.Subscript (.Name t p1) (.Constant (.int z) ci cp) ps) (aa r L)) u2 σ:=fun f v tk Q ok S hq=>by
  obtain ⟨y,h1,h2⟩:=S.lv _ _ hn
  exact Subscript_ (dj (env:=aa r f.L) S.fr h1 (wpAny_Constant_int (h ok.X S h2 .i (fun z tk' hz=>hq z v tk' (List.prefix_refl _) hz S rfl) fun z_ z_=>rfl)) hk)
theorem wJ {g x a:Str} {pf p1 p2 pc:Pos} {fa:Addr} {u u1 u2:SV} (hg:c.k.gl.lookup g=some (.k fa)) (hok:fQ (aa r 0) g=true) (hkp:c.k.kp.contains fa=true) (hn:σ.loc.lookup x=some u) (hk:dX (aa r 0) x=true) (hA:gn c σ u a u1) (hC:aO c n σ fa [u1] u2 σ1) :
    dI c n σ (fun L=>eval (.Call (.Name g pf) [.Attribute (.Name x p1) a p2] [] pc) (aa r L)) u2 σ1:=fun f v tk Q ok S hq=>by
  obtain ⟨y,h1,h2⟩:=S.lv _ _ hn
  obtain ⟨z,e1,rfl,e3⟩:=c.hk.gl _ _ hg
  refine wpAny_Call_NameR (nQ (env:=aa r f.L) S.fr ok.X (topRead_of ok.T) e1 e3 ?_ hok)
  refine callWith_K ok.X (c.hk.kp _ (List.contains_iff_mem.mp hkp)) ?_ rfl rfl
  refine PyProof.Rows.args_cons (PyProof.Rows.Attribute_any_ (dj (env:=aa r f.L) S.fr h1 (hA ok.X S h2 fun z tk' hz=>PyProof.Rows.args_nil ⟨ok.X.keeps S.fr.keep,hC f v tk' [z] Q ok S ⟨z,[],rfl,hz,rfl⟩ hq⟩) hk) (by with_unfolding_all rfl)) rfl
theorem oE {px pos:Pos} (hclos:∀ L,closureFor scope (aa r L)=pure cl) (hcell:∀ z∈scope.names,z.2≠.cell) (hkind:scope.kind=.function) (hnames:∀ z∈scope.names,z.2=.local→scope.names.lookup z.1=some .local) (hx:scope.names.lookup x=some .local) (hs:∀ env x,foldedSetIterable iter env x=pure x)
    (hI:dI c n σ (fun L=>eval iter (aa r L)) (.s i) σ1) (hl:σ1.look i=some (.L (zs.map SV.u))) (hz:zs.length=bs.length) (hm:Nat.ble m 100000=true) (hb:bs.length+ah bs≤m) (turn:gj c n r σ1 elt x scope cl zs bs) :
    af c n σ (fun L=>eval (.ListComp elt [⟨.Name x px,iter,[],0⟩] scope pos) (aa r L)) (fun ρ y=>VR ρ (.s σ1.nx) y) { σ1 with fr:=(σ1.nx,.J bs m hb)::σ1.fr,nx:=σ1.nx+1 }:=fun f v tk Q ok S hq=>
  LCg.ListComp_U S.fr (hclos f.L) hcell hkind hnames hx (hI f v tk _ ok S fun y v1 t1 p1 q1 S1 e=>e▸gk ok S1 q1 hl hz hm hb turn fun g ys hys D h tk2 FD ND offD=>
    hq _ _ tk2 (p1.trans ⟨[D],rfl⟩) ⟨D,S1.top,rfl⟩ (S1.pushJ FD ND offD hys)) (hs _)
theorem pE {y:Str} {px py pos ps:Pos} {rest:List Stmt} {res:Option SV} {σ2:Sy} (hsw:∀ L,swapsWith (.ListComp elt [⟨.Name x px,iter,[],0⟩] scope pos) (some (.Name y py)) ps.line (aa r L)=pure true) (hyk:dX (aa r 0) y=true)
    (hclos:∀ L,closureFor scope (aa r L)=pure cl) (hcell:∀ z∈scope.names,z.2≠.cell) (hkind:scope.kind=.function) (hnames:∀ z∈scope.names,z.2=.local→scope.names.lookup z.1=some .local) (hx:scope.names.lookup x=some .local) (hs:∀ env x,foldedSetIterable iter env x=pure x)
    (hI:dI c n σ (fun L=>eval iter (aa r L)) (.s i) σ1) (hl:σ1.look i=some (.L (zs.map SV.u))) (hz:zs.length=bs.length) (hm:Nat.ble m 100000=true) (hb:bs.length+ah bs≤m) (turn:gj c n r σ1 elt x scope cl zs bs)
    (h2:af c n { σ1 with fr:=(σ1.nx,.J bs m hb)::σ1.fr,nx:=σ1.nx+1,loc:=put y (.s σ1.nx) σ1.loc } (fun L=>execs rest (aa r L)) (ak res) σ2) :
    af c n σ (fun L=>execs (.Assign [.Name y py] (.ListComp elt [⟨.Name x px,iter,[],0⟩] scope pos) ps::rest) (aa r L)) (ak res) σ2:=fun f v tk Q ok S hq=>by
  obtain ⟨k1,k2⟩:=dF hyk
  refine wpAny_execs_cons (LCg.Assign_ListComp_U S.fr rfl (hsw f.L) (hclos f.L) hcell hkind hnames hx k2 ?_ (hI f v tk _ ok S fun z v1 t1 p1 q1 S1 e=>e▸gk ok S1 q1 hl hz hm hb turn fun g ys hys D h tk2 FD ND offD=>?_) (hs _))
  · show (r.scope.kind==.class||(r.scope.kind==.module&&f.L != mainGlobals))=false
    rw [show r.scope.kind=.function from k1]; rfl
  · refine h2 f ⟨v1.ρ++[D],(D,LCg.lst ys)::v1.Rf,v1.R1,h,fun z=>if z=y then some (.ref D) else v1.m z⟩ tk2 Q ok (S1.pushM (q:=.J bs m hb) FD (fun z u e'=>?_) ND (de offD) ⟨ys,_,hys,rfl⟩) fun z v3 t3 p3 q3 S3=>hq z v3 t3 (p1.trans (.trans ⟨[D],rfl⟩ p3)) q3 S3
    rw [eg] at e'
    show ∃ y',(if z=y then some (Value.ref D) else v1.m z)=some y'∧_
    split at e'
    · rw [if_pos ‹_›]; cases e'; exact ⟨_,rfl,D,S1.top,rfl⟩
    · rw [if_neg ‹_›]; exact S1.lvUp z u e'
end
end
end
section
set_option backward.match.sparseCases false
noncomputable def hM (l:List UInt8):Array UInt8:=Builtin.Bytes.joined #[] (eL l)
theorem kq {l:List UInt8} {i:Nat} {c:UInt8} (h:l[i]?=some c):hM (l.take (i+1))=hM (l.take i)++dE (c.toNat:Int):=by
  have e:eL (l.take (i+1))=eL (l.take i)++[dE (c.toNat:Int)]:=by rw [List.take_add_one,h]; simp [eL]
  have j0:∀ bs:List (Array UInt8),Builtin.Bytes.joined #[] bs=bs.foldl (·++·) #[]:=by
    intro bs
    unfold Builtin.Bytes.joined
    have go:∀ (bs:List (Array UInt8)) (k:Nat) (a:Array UInt8),(bs.zipIdx k).foldl (fun out (p,i)=>(if i > 0 then out++#[] else out)++p) a=bs.foldl (·++·) a:=by
      intro bs
      induction bs with
      | nil=>intro k a; rfl
      | cons b bs ih=>intro k a; simp only [List.zipIdx_cons,List.foldl_cons]; rw [ih]; congr 1; split <;> simp
    first | exact go bs 0 #[] | (have:=go bs 0 #[]; simpa using this)
  unfold hM
  rw [j0,j0,e,List.foldl_append]
  rfl
noncomputable section
theorem ai.of1 {P:Params} {r:FnR} {x:Str} (a:Addr) (ha:r.a=a) {oc:Value} {od:Option Addr} {osl:Array (Option Value)} {nm:Str} {params:Arguments} {dV kV doc pm ct:Value} {an:Option Addr}
    (ho:(Mine.hd.heap_1 P).lookup a=some ⟨oc,od,.func (fnOf nm r.qual params r.body r.scope dV kV doc pm an (.ref (a - 1)) ct),osl⟩) (hn:r.names=[x]) (he:r.extra=[])
    (hb:∀ (s:Shared) (v:Value),BindsTo s (fnOf nm r.qual params r.body r.scope dV kV doc pm an (.ref (a - 1)) ct) ⟨[v],[]⟩ [(x,v)])
    (cd:codeIn (Mine.hd.heap_1 P) (.ref (r.a - 1)) r.qual=true) (ok:(r.scope.isCoroutine==false&&r.scope.isGenerator==false&&r.scope.kind==.function&&r.scope.names.all (fun x=>x.2 != .cell)&&(r.names++r.extra.map (·.1)).all fun x=>r.scope.names.lookup x==some .local)=true) (cl:r.cl=[]):ai P r:=
  ai.of a ha ho (fun s vs hl _=>by
    rw [hn] at hl
    obtain ⟨v,rfl⟩:=bK hl
    rw [hn,he]
    exact ⟨[],rfl,hb s v⟩) cd ok cl
noncomputable def fn387_1:FnR:=⟨387,[.ofString "octet"],[],Y.dB (Y.d 48),Y.dS (Y.d 48),.ofString "print_escape",[]⟩
noncomputable def fn392_1:FnR:=⟨392,[.ofString "octets"],[],Y.dB (Y.d 49),Y.dS (Y.d 49),.ofString "print_string",[]⟩
noncomputable def fn789_1:FnR:=⟨789,[.ofString "octets"],[],Y.dB (Y.d 74),Y.dS (Y.d 74),.ofString "_law_escaped",[]⟩
theorem ik (P:Params):ai P fn387_1:=by
  refine' ai.of1 387 rfl ?h rfl rfl (fun s v=>BindsTo.of_eq (by kernel_rfl)) (by kernel_rfl) (by kernel_rfl) rfl
  case h=>k_is
theorem im (P:Params):ai P fn392_1:=by
  refine' ai.of1 392 rfl ?h rfl rfl (fun s v=>BindsTo.of_eq (by kernel_rfl)) (by kernel_rfl) (by kernel_rfl) rfl
  case h=>k_is
theorem jz (P:Params):ai P fn789_1:=by
  refine' ai.of1 789 rfl ?h rfl rfl (fun s v=>BindsTo.of_eq (by kernel_rfl)) (by kernel_rfl) (by kernel_rfl) rfl
  case h=>k_is
section
variable {w:World} {p:Program} {loose:List Str} {mean:ExcName→Option Value} {mg mb:Str→Option Value} {R0:List (Addr×Obj)} {ρ0:List Addr} {lm:Nat}
theorem pw:(List.range 256).map (fun k=>gR ((cR (c:=bD w p loose mean mg mb R0 ρ0 lm) bC iL 14 0).S fn387_1 fn387_1.body ⟨[(.ofString "octet",.i (k:Nat))],[],[],0,[]⟩))=(List.range 256).map fun k=>some (dE (k:Nat)):=by kernel_rfl
noncomputable def gG (o:Array UInt8) (h:o.size≤100) (F:Array UInt8) (hF:F.size≤400):Sy:=⟨[(.ofString "octets",.y o 100 h),(.ofString "shorts",.s 0),(.ofString "found",.y F 400 hF)],[(1,.T [.b #[],.s 0]),(0,.N [(10,#[110]),(13,#[114]),(9,#[116]),(8,#[98]),(12,#[102]),(40,#[40]),(41,#[41]),(92,#[92])])],[],2,[]⟩
noncomputable def xB {c:Ct} {n:Nat} {r:FnR} {ss:List Stmt} {σ:Sy} (xs:List Str) (x:Str) (q:Option (CS c n r ss σ)):Option (Option SV×List (Nat×SO)×List (Nat×SO)×Nat×List (Nat×SV)×List (Option SV)×Option (Array UInt8)):=q.map fun q=>(q.res,q.σ'.fr,q.σ'.ol,q.σ'.nx,q.σ'.wd,xs.map fun x=>q.σ'.loc.lookup x,(q.σ'.loc.lookup x).bind fun v=>(qT v).map (·.1))
noncomputable def lO:List Stmt:=match fn789_1.body with
  | _::.For _ _ b _ _::_=>b
  | _=>[]
theorem lR {o:Array UInt8} {h:o.size≤100} {F:Array UInt8} {hF:F.size≤400}:(List.range 256).map (fun k=>xB [.ofString "octets",.ofString "shorts"] (.ofString "found") ((cR (c:=bD w p loose mean mg mb R0 ρ0 lm) bC iL 16 0).S fn789_1 lO { gG o h F hF with loc:=put (.ofString "octet") (.i (k:Nat)) (gG o h F hF).loc })) =
    (List.range 256).map fun k=>some (none,(gG o h F hF).fr,[],2,[],[some (.y o 100 h),some (.s 0)],some (F++dE (k:Nat))):=by kernel_rfl
theorem mF {α:Type} {f g:Nat→α} {N k:Nat} (h:(List.range N).map f=(List.range N).map g) (hk:k<N):f k=g k:=List.map_inj_left.mp h k (List.mem_range.mpr hk)
theorem sZ {A:Around} {E:Value→Shared→Prop} {s:Shared} {h₀:Heap} {L:Addr} {m:Str→Option Value} {k:UInt8} {to:Tok} {Q:Value→Shared→Prop} (hd:Rm A 0 0) (F:Fr h₀ L s.heap m) (X:(Mine.hd.heap_1 w.params).In h₀) (T:Top p loose mean mg mb h₀)
    (post:∀ t h' tk',Fr h₀ L h' m→But [] s.heap h'→Q (.bytes (dE (k.toNat:Int)) t) { s with heap:=h',toks:=tk' }):wpAny (model PG w) A (call (.ref 387) [.int (k.toNat:Int) to]) Q E s:=
  cY (vs:=[.i (k.toNat:Int)]) (ρ0:=[]) (ol:=[]) rfl (ik _) rfl (ib (mF pw k.toNat_lt)) hd F X T .nil trivial rfl (.cons .i .nil) post
noncomputable def qV (sc:Scope) (env:Env) (f x:Str):Bool:=
  (relabel sc env).kind==.function&&(relabel sc env).names.lookup f==some .globalImplicit&&(relabel sc env).names.lookup x==some .local&&(!(f==("__debug__":Str))&&!(x==("__debug__":Str)))&&env.globals==mainGlobals
open LCg in
theorem mo {n:Nat} {r:FnR} {σ:Sy} {f x y:Str} {fa:Addr} {pf p1 pc px py pos:Pos} {scope:Scope} {cl:List (Str×Addr)} {u0:SV} {o:Array UInt8} {m:Nat} (g:UInt8→Array UInt8) (h0:∀ ρ y,VR ρ u0 y→∃ t,y=.bytes o t) (hy:σ.loc.lookup y=some u0) (hyk:dX (aa r 0) y=true) (ho:o.size≤sizeLine)
    (hclos:∀ L,closureFor scope (aa r L)=pure cl) (hcell:∀ z∈scope.names,z.2≠.cell) (hkind:scope.kind=.function) (hnames:∀ z∈scope.names,z.2=.local→scope.names.lookup z.1=some .local) (hx:scope.names.lookup x=some .local)
    (ok:∀ L,qV scope (aa r L) f x=true) (hf:nsIn (Mine.hd.heap_1 w.params) mainGlobals f=some (some (.ref fa))) (hk:keepIn (Mine.hd.heap_1 w.params) (.ref fa)=true) (hb:(o.toList.map g).length+ah (o.toList.map g)≤m)
    (turn:∀ (f:Fx) (s:Shared) (mm:Str→Option Value) (k:UInt8) (t:Tok) (Q E':Value→Shared→Prop),f.Ok (bD w p loose mean mg mb R0 ρ0 lm) n→Fr f.h₀ f.L s.heap mm→(∀ t h' tk',Fr f.h₀ f.L h' mm→But [] s.heap h'→Q (.bytes (g k) t) { s with heap:=h',toks:=tk' })→wpAny (model PG w) f.A (call (.ref fa) [.int (k.toNat:Int) t]) Q E' s) :
    af (bD w p loose mean mg mb R0 ρ0 lm) n σ (fun L=>eval (.ListComp (.Call (.Name f pf) [.Name x p1] [] pc) [⟨.Name x px,.Name y py,[],0⟩] scope pos) (aa r L)) (fun ρ y=>VR ρ (.s σ.nx) y) { σ with fr:=(σ.nx,.J (o.toList.map g) m hb)::σ.fr,nx:=σ.nx+1 }:=fun F v tk Q okF S hq=>by
  obtain ⟨yv,hv,h1⟩:=S.lv _ _ hy
  obtain ⟨ty,rfl⟩:=h0 _ _ h1
  have okL:=ok F.L
  unfold qV at okL
  simp only [Bool.and_eq_true,beq_iff_eq,Bool.not_eq_true'] at okL
  obtain ⟨⟨⟨⟨k1,k2⟩,k3⟩,k5,k6⟩,k8⟩:=okL
  refine iC S.fr (hclos F.L) hcell hkind hnames hx (dj (env:=aa r F.L) S.fr hv ⟨o,ty,v.Rf++v.R1,rfl,okF.hd,S.fr,S.nw,ho,fun g'=>?_⟩ hyk) (fun z_=>rfl)
  have e:o.size=(o.toList.map g).length:=by rw [List.length_map,Array.length_toList]
  rw [e]
  refine eI trivial (fun i b z C oC m₂ h tk' Q' E' all hi hp hoC hm₂ F' N' hC hall hq'=>?_) fun ys hys D h tk2 FD ND offD=>hq _ _ tk2 ⟨[D],rfl⟩ ⟨D,S.top,rfl⟩ (S.pushJ FD ND offD hys)
  obtain ⟨c,u,hc,rfl⟩:=hp
  obtain ⟨c',hc',rfl⟩:=List.getElem?_map ..▸hi |> Option.map_eq_some_iff.mp
  obtain rfl:c=c':=Option.some.inj ((Array.getElem?_toList▸hc':o[i]?=some c')▸hc.symm)
  refine wpAny_Call_NameR (LCgL.ld_global F' okF.X okF.T hf ?_ k8 k1 k2 k5)
  exact callWith_K okF.X hk (LCgL.ld_own N' hC hoC hm₂ (PyProof.Rows.args_nil ⟨okF.X.keeps F'.keep,turn F _ _ c u _ _ okF F' hq'⟩) k1 k3 k6 |> fun q=>PyProof.Rows.args_cons q rfl) rfl rfl
theorem VR.bb {ρ:List Addr} {x:Array UInt8} {v:Value} (q:VR ρ (.b x) v):∃ t,v=.bytes x t:=q
theorem VR.yb {ρ:List Addr} {x:Array UInt8} {n:Nat} {h:x.size≤n} {v:Value} (q:VR ρ (.y x n h) v):∃ t,v=.bytes x t:=q
theorem qk {σ:Sy} {i:Nat} {q:SO} {l:List (Nat×SO)}:Sy.look { σ with fr:=(i,q)::l } i=some q:=by
  unfold Sy.look
  rw [List.lookup_cons,beq_self_eq_true]
  rfl
noncomputable def yB (x:Array UInt8) (h:x.size≤1000):YB (.b x):=⟨x,1000,h,fun _ _ h=>h⟩
noncomputable def yY {x:Array UInt8} {n:Nat} {h:x.size≤n}:YB (.y x n h):=⟨x,n,h,fun _ _ h=>h⟩
theorem mh {c:Ct} {n:Nat} {r:FnR} {σ:Sy} {i:Nat} {ps:Pos} (x:Array UInt8) {l:List UInt8} (h:l.toArray=x):af c n σ (fun L=>eval (.Constant (.bytes l) i ps) (aa r L)) (fun ρ y=>VR ρ (.b x) y) σ:=by
  subst h
  exact fun f v tk Q ok S hq=>PySem.W.Constant_bytes (hq _ v _ (List.prefix_refl _) ⟨_,rfl⟩ S)
theorem pj {o:Array UInt8} (h:o.size≤100):(o.toList.map fun k=>dE (k.toNat:Int)).length+ah (o.toList.map fun k=>dE (k.toNat:Int))≤500:=by
  have h2:ah (o.toList.map fun k=>dE (k.toNat:Int))≤4*o.toList.length:=cz o.toList
  rw [List.length_map]
  rw [Array.length_toList] at h2 ⊢
  exact lin (.c _ (.c _ .z)) (.m 5 (.v 0) (.k 100) (.c (.v 1) (.m 4 (.v 0)) .z)) (.a (.v 0) (.v 1)) (.k 500) rfl h h2
variable {A:Around} {E:Value→Shared→Prop} {s:Shared} {h₀:Heap} {L:Addr} {m:Str→Option Value} {o:Array UInt8} {to:Tok} {Q:Value→Shared→Prop}
theorem qp (hd:Rm A 0 1) (F:Fr h₀ L s.heap m) (X:(Mine.hd.heap_1 w.params).In h₀) (T:Top p loose mean mg mb h₀) (ho:o.size≤100)
    (post:∀ t h' tk',Fr h₀ L h' m→But [] s.heap h'→Q (.bytes (nI o) t) { s with heap:=h',toks:=tk' }):wpAny (model PG w) A (call (.ref 392) [.bytes o to]) Q E s:=by
  refine' cY (n:=1) (vs:=[.y o 100 ho]) (ρ0:=[]) (ol:=[]) rfl (im _) rfl ⟨_,_,fun _ _ h=>VR.yb (n:=1000+500+1000) h,⟨?j⟩⟩ hd F X T .nil trivial rfl (.cons .y .nil) post
  case j=>
   apply ny
   apply jE
   · apply jE
     · exact mh #[40] rfl
     · apply fW
       · kernel_rfl
       · exact ⟨fun z_ z_=>rfl⟩
       · kernel_rfl
       · apply mo (u0:=.y o 100 ho) (fun k=>dE (k.toNat:Int))
         · exact fun _ _ h=>VR.yb h
         · kernel_rfl
         · kernel_rfl
         · rw [sizeLine_eq]; exact Nat.le_trans ho (by decide)
         · exact fun z_=>cV (by decide)
         · decide
         · rfl
         · decide
         · kernel_rfl
         · exact fun z_=>by kernel_rfl
         · kernel_rfl
         · kernel_rfl
         · exact pj ho
         · exact fun f s mm k t Q E' ok F h=>sZ (Rm.of ok) F ok.X ok.T h
       · exact qk
       · decide
       · decide
     · exact nR (yB #[40] (by decide)) yY rfl
   · exact mh #[41] rfl
   · exact nR (yY (h:=_)) (yB #[41] (by decide)) rfl
theorem bU (h:o.size≤100) (i:Nat):(hM (o.toList.take i)).size≤400:=by
  have h1:=dk #[] (eL (o.toList.take i))
  have h2:=cz (o.toList.take i)
  have h3:(o.toList.take i).length≤o.size:=Array.length_toList▸List.length_take_le' i _
  rw [show (#[]:Array UInt8).size=0 from rfl,Nat.zero_mul,Nat.zero_add] at h1
  exact Nat.le_trans h1 (Nat.le_trans h2 (Nat.mul_le_mul_left 4 (Nat.le_trans h3 h)))
noncomputable def dg (ho:o.size≤100) (i:Nat):Sy:=gG o ho _ (bU ho i)
theorem iP (ho:o.size≤100):((cR (c:=bD w p loose mean mg mb R0 ρ0 lm) bC iL 20 0).S fn789_1 (fn789_1.body.take 1) ⟨[(.ofString "octets",.y o 100 ho)],[],[],0,[]⟩).map (fun q=>(q.res,q.σ'))=some (none,{ gG o ho #[] (Nat.zero_le _) with loc:=[(.ofString "octets",.y o 100 ho),(.ofString "shorts",.s 0),(.ofString "found",.b #[])] }):=by kernel_rfl
theorem qW {ho:o.size≤100} {i:Nat} {l:List (Str×SV)} {v:SV} (h1:l.lookup (.ofString "octets")=some (.y o 100 ho)) (h2:l.lookup (.ofString "shorts")=some (.s 0)) (h3:l.lookup (.ofString "found")=some v) (hv:∀ ρ y,VR ρ v y→∃ t,y=.bytes (hM (o.toList.take i)) t) (x:Str) (u:SV) (hu:(dg ho i).loc.lookup x=some u):∃ u',l.lookup x=some u'∧∀ ρ y,VR ρ u' y→VR ρ u y:=by
  rcases lookHead hu with ⟨rfl,rfl⟩ | ⟨_,hu⟩
  · exact ⟨_,h1,fun _ _ h=>h⟩
  rcases lookHead hu with ⟨rfl,rfl⟩ | ⟨_,hu⟩
  · exact ⟨_,h2,fun _ _ h=>h⟩
  rcases lookHead hu with ⟨rfl,rfl⟩ | ⟨_,hu⟩
  · exact ⟨_,h3,hv⟩
  · cases hu
theorem i9 {own:List (Addr×Obj)} {i:Nat} {b:UInt8} (ho:o.size≤100) (h:o[i]?=some b):∃ σ',Wk σ' (dg ho (i+1))∧af (bD w p loose mean mg mb (R0++own) ρ0 lm) 0 { dg ho i with loc:=put (.ofString "octet") (.i (b.toNat:Int)) (dg ho i).loc } (fun L=>execs lO (aa fn789_1 L)) (ak none) σ':=by
  have e:=mF (lR (p:=p) (w:=w) (loose:=loose) (mean:=mean) (mg:=mg) (mb:=mb) (R0:=R0++own) (ρ0:=ρ0) (lm:=lm) (h:=ho) (hF:=bU ho i)) b.toNat_lt
  obtain ⟨⟨res,σ',j⟩,_,e⟩:=Option.map_eq_some_iff.mp e
  simp only [Prod.mk.injEq] at e
  obtain ⟨rfl,e2,e3,e4,e5,e6,e7⟩:=e
  obtain ⟨v,e8,e7⟩:=Option.bind_eq_some_iff.mp e7
  obtain ⟨q,_,e7⟩:=Option.map_eq_some_iff.mp e7
  refine ⟨σ',⟨e2.symm,e3.symm,e4.symm,e5.symm,qW ((List.cons.inj e6).1) ((List.cons.inj (List.cons.inj e6).2).1) e8 fun ρ y hy=>?_⟩,j⟩
  rw [kq (Array.getElem?_toList▸h),← e7]
  exact q.2 ρ y hy
theorem kE:fn789_1.body.drop 1=[.For (.Name (.ofString "octet") ⟨457,8,457,13⟩) (.Name (.ofString "octets") ⟨457,17,457,23⟩) lO [] ⟨457,4,463,98⟩,.Return (some (.Name (.ofString "found") ⟨464,11,464,16⟩)) ⟨464,4,464,16⟩]:=by kernel_rfl
theorem kW (ho:o.size≤100):SJ (bD w p loose mean mg mb R0 ρ0 lm) 0 fn789_1 (fn789_1.body.drop 1) (dg ho 0) (some (.y _ 400 (bU ho o.size))) (dg ho o.size):=by
  rw [kE]
  exact ⟨pG (τ:=dg ho) (u0:=.y o 100 ho) (by kernel_rfl) (fun z_ z_=>rfl) (ed rfl (by kernel_rfl)) (fun _ _ h=>VR.yb h) (fun z_=>rfl) (fun own i b h=>i9 ho h) (ny (ed rfl (by kernel_rfl)))⟩
theorem rr (ho:o.size≤100):SJ (bD w p loose mean mg mb R0 ρ0 lm) 0 fn789_1 fn789_1.body ⟨[(.ofString "octets",.y o 100 ho)],[],[],0,[]⟩ (some (.y _ 400 (bU ho o.size))) (dg ho o.size):=
  SJ.split 1 (SJ.wk (τ:=dg ho 0) (SJ.ok (iP ho)) ⟨rfl,rfl,rfl,rfl,qW rfl rfl rfl fun _ _ h=>VR.bb h⟩) (kW ho)
theorem qe (hd:Rm A 0 1) (F:Fr h₀ L s.heap m) (X:(Mine.hd.heap_1 w.params).In h₀) (T:Top p loose mean mg mb h₀) (ho:o.size≤100)
    (post:∀ t h' tk',Fr h₀ L h' m→But [] s.heap h'→Q (.bytes (hM o.toList) t) { s with heap:=h',toks:=tk' }):wpAny (model PG w) A (call (.ref 789) [.bytes o to]) Q E s:=
  cY (vs:=[.y o 100 ho]) (ρ0:=[]) (ol:=[]) rfl (jz _) rfl ⟨_,_,fun _ _ h=>by rw [← List.take_of_length_le (Nat.le_of_eq (Array.length_toList (xs:=o)))]; exact VR.yb h,rr ho⟩ ⟨hd.hd,Nat.le_trans (Nat.add_le_add_right (Nat.add_le_add_left (Nat.zero_le (2*1)) _) 0) hd.dp,Nat.le_trans (Nat.add_le_add_right (Nat.add_le_add_left (Nat.zero_le (20*1)) _) (10*0)) hd.un⟩ F X T .nil trivial rfl (.cons .y .nil) post
end
end
end
section
noncomputable section
variable {c:Ct} {n:Nat} {σ:Sy}
theorem Rm.lm {f:Fx} (ok:f.Ok c n) (hl:10≤c.lm):Rm f.A 0 1:=⟨ok.hd,by have:=ok.dp; exact lin (.c _ (.c _ (.c _ .z))) (.c (.k 10) (.v 2) (.c (.a (.a (.v 0) (.m 2 (.v 1))) (.v 2)) (.k 890) .z)) (.a (.a (.a (.v 0) (.k 1)) (.m 2 (.k 1))) (.k 0)) (.k 890) rfl hl this,by have:=ok.un; exact lin (.c _ (.c _ (.c _ .z))) (.m 10 (.k 10) (.v 2) (.c (.a (.a (.v 0) (.m 20 (.v 1))) (.m 10 (.v 2))) (.k 8900) .z)) (.a (.a (.a (.v 0) (.k 3)) (.m 20 (.k 1))) (.m 10 (.k 0))) (.k 8900) rfl hl this⟩
theorem pv {o:Array UInt8} (h:o.size≤100):(hM o.toList).size≤400:=by
  have:=bU h o.size
  rw [List.take_of_length_le (Nat.le_of_eq Array.length_toList)] at this
  exact this
theorem sT {g:Addr} {x y:SV} {k:Str} (hg:Nat.beq g 68=true) (hx:x=.t k) (z:ZB y) (hk:(k==Str.ofString "integer"&&Nat.ble z.b 2000000)=true):aO c 0 σ g [x,y] (.b (byteArr (aM z.n))) σ:=fun f v tk xs Q ok S ⟨x',r,e1,h1,y',r',e2,h2,e3⟩ hq=>by
  obtain rfl:=Nat.eq_of_beq_eq_true hg
  obtain ⟨k1,k2⟩:=bA.mp hk
  subst e1 e2 hx
  obtain ⟨t,rfl⟩:=h1
  obtain ⟨u,rfl⟩:=z.ok _ _ h2
  rw [show r'=[] from e3,beq_iff_eq.mp k1]
  exact bw (kh S.fr ok.X ok.T (Nat.le_trans z.h (Nat.le_of_ble_eq_true k2)) fun t h' tk' F' b=>hq _ (v.to h') tk' (List.prefix_refl _) .b (S.but F' b) rfl) ok (Nat.le_add_right _ _) (Nat.le_add_right _ _)
theorem oM {g:Addr} {x y:SV} {k:Str} (hg:Nat.beq g 68=true) (hx:x=.t k) (z:ZB y) (hk:(k==Str.ofString "real"&&Nat.ble z.b 600000000)=true):aO c 0 σ g [x,y] (.b (bh z.n)) σ:=fun f v tk xs Q ok S ⟨x',r,e1,h1,y',r',e2,h2,e3⟩ hq=>by
  obtain rfl:=Nat.eq_of_beq_eq_true hg
  obtain ⟨k1,k2⟩:=bA.mp hk
  subst e1 e2 hx
  obtain ⟨t,rfl⟩:=h1
  obtain ⟨u,rfl⟩:=z.ok _ _ h2
  rw [show r'=[] from e3,beq_iff_eq.mp k1]
  exact bw (j4 S.fr ok.X ok.T (Nat.le_trans z.h (Nat.le_of_ble_eq_true k2)) fun t h' tk' F' b=>hq _ (v.to h') tk' (List.prefix_refl _) .b (S.but F' b) rfl) ok (Nat.le_add_right _ _) (Nat.le_add_right _ _)
theorem lP {g:Addr} {y:SV} (hg:Nat.beq g 782=true) (z:ZB y) (hk:Nat.ble z.b 600000000=true):aO c 0 σ g [y] (.b (bh z.n)) σ:=fun f v tk xs Q ok S ⟨y',r',e2,h2,e3⟩ hq=>by
  obtain rfl:=Nat.eq_of_beq_eq_true hg
  subst e2
  obtain ⟨u,rfl⟩:=z.ok _ _ h2
  rw [show r'=[] from e3]
  exact bw (nA S.fr ok.X ok.T (Nat.le_trans z.h (Nat.le_of_ble_eq_true hk)) fun t h' tk' F' b=>hq _ (v.to h') tk' (List.prefix_refl _) .b (S.but F' b) rfl) ok (Nat.le_add_right _ _) (Nat.le_add_right _ _)
theorem oz (hl:10≤c.lm) {g:Addr} {y:SV} (hg:Nat.beq g 392=true) (z:YB y) (hk:Nat.ble z.n 100=true):aO c 0 σ g [y] (.b (nI z.x)) σ:=fun f v tk xs Q ok S ⟨y',r',e2,h2,e3⟩ hq=>by
  obtain rfl:=Nat.eq_of_beq_eq_true hg
  subst e2
  obtain ⟨u,rfl⟩:=z.ok _ _ h2
  rw [show r'=[] from e3]
  exact qp (Rm.lm ok hl) S.fr ok.X ok.T (Nat.le_trans z.h (Nat.le_of_ble_eq_true hk)) fun t h' tk' F' b=>hq _ (v.to h') tk' (List.prefix_refl _) .b (S.but F' b) rfl
theorem oq (hl:10≤c.lm) {g:Addr} {y:SV} (hg:Nat.beq g 789=true) (z:YB y) (hk:z.x.size≤100):aO c 0 σ g [y] (.y (hM z.x.toList) 400 (pv hk)) σ:=fun f v tk xs Q ok S ⟨y',r',e2,h2,e3⟩ hq=>by
  obtain rfl:=Nat.eq_of_beq_eq_true hg
  subst e2
  obtain ⟨u,rfl⟩:=z.ok _ _ h2
  rw [show r'=[] from e3]
  exact qe (Rm.lm ok hl) S.fr ok.X ok.T hk fun t h' tk' F' b=>hq _ (v.to h') tk' (List.prefix_refl _) .y (S.but F' b) rfl
noncomputable def xO (hl:10≤c.lm) (g:Addr) (vs:List SV) (σ:Sy):Option (CC c 0 g vs σ):=match vs with
  | [y]=>(ay (Nat.beq g 782)).elim ((ay (Nat.beq g 392)).elim ((ay (Nat.beq g 789)).bind fun h=>(wW y).bind fun z=>(ay (Nat.ble z.n 100)).map fun hk=>⟨_,σ,oq hl h.down z (Nat.le_trans z.h (Nat.le_of_ble_eq_true hk.down))⟩)
      fun h=>(wW y).bind fun z=>(ay (Nat.ble z.n 100)).map fun hk=>⟨_,σ,oz hl h.down z hk.down⟩)
    fun h=>(qC y).bind fun z=>(ay (Nat.ble z.b 600000000)).map fun hk=>⟨_,σ,lP h.down z hk.down⟩
  | [x,y]=>(ay (Nat.beq g 68)).bind fun h=>(pC x).bind fun k=>(qC y).bind fun z=>(ay (k.1==Str.ofString "integer"&&Nat.ble z.b 2000000)).elim
    ((ay (k.1==Str.ofString "real"&&Nat.ble z.b 600000000)).map fun hk=>⟨_,σ,oM h.down k.2 z hk.down⟩)
    fun hk=>some ⟨_,σ,sT h.down k.2 z hk.down⟩
  | _=>none
noncomputable def aN (hl:10≤c.lm) (o:∀ g vs σ,Option (CC c 0 g vs σ)) (g:Addr) (vs:List SV) (σ:Sy):Option (CC c 0 g vs σ):=(xO hl g vs σ).elim (o g vs σ) some
end
end
section
noncomputable section
section
variable {w:World} {p:Program} {loose:List Str} {mean:ExcName→Option Value} {mg mb:Str→Option Value} {R0:List (Addr×Obj)} {lm:Nat}
noncomputable abbrev oR (c:Ct):=∀ g vs σ,Option (CC c 0 g vs σ)
noncomputable def eR (k:Str) (v:SV) (x:Bool) (ac:SV):SO:=.D [(Str.ofString "kind",.t k),(Str.ofString "value",v),(Str.ofString "is_exec",.o x),(Str.ofString "access",ac)] 4
theorem aj {n:Nat} {f:Addr} {vr:List SV} {r:FnR} {o:Array UInt8} {k:Str} {v av:SV} {y:Value} {x:Bool} {ac:Int} {t t0 t1 t2 t3 t4:Tok} {a d sp:Addr} (orc:oR (bD w p loose mean mg mb R0 [a,d,sp] lm)) {A:Around} {E:Value→Shared→Prop} {s:Shared} {h₀:Heap} {L:Addr} {m:Str→Option Value} {xr:List Value} {Q:Value→Shared→Prop}
    (hf:sa.fn f (vr.length+1)=some r) (hr:gR ((run orc n).S r r.body ⟨(r.names.zip (.s 0::vr)++r.extra).reverse,[],[(0,.I 86 1),(1,eR k v x av)],3,[]⟩)=some o) (hd:Rm A lm n) (F:Fr h₀ L s.heap m) (X:(Mine.hd.heap_1 w.params).In h₀) (T:Top p loose mean mg mb h₀) (N:News h₀ L s.heap R0)
    (m1:(a,instObj 86 d)∈R0) (m2:(d,aZ w.params k y x ac t t0 t1 t2 t3 t4)∈R0) (hv:VR [a,d,sp] v y) (ha:VR [a,d,sp] av (.int ac t0)) (hx:aC [a,d,sp] vr xr)
    (hq:∀ u h' tk,Fr h₀ L h' m→But [] s.heap h'→Q (.bytes o u) { s with heap:=h',toks:=tk }):wpAny (model PG w) A (call (.ref f) (.ref a::xr)) Q E s:=
  fy (vs:=.s 0::vr) hf hr hd F X T N ⟨⟨_,_,rfl,m1,_,rfl,rfl⟩,⟨_,_,rfl,m2,_,.cons .t (.cons hv (.cons .o (.cons ha rfl))),rfl⟩,trivial⟩ rfl (.cons (.s rfl) hx) hq
theorem a0 {n:Nat} {f:Addr} {vr vt:List SV} {r:FnR} {o:Array UInt8} {q:Nat} {a d:Addr} (orc:oR (bD w p loose mean mg mb R0 [a,d] lm)) {A:Around} {E:Value→Shared→Prop} {s:Shared} {h₀:Heap} {L:Addr} {m:Str→Option Value} {xr xt:List Value} {Q:Value→Shared→Prop}
    (hf:sa.fn f (vr.length+1)=some r) (hr:gR ((run orc n).S r r.body ⟨(r.names.zip (.s 0::vr)++r.extra).reverse,[],[(0,.T vt)],2,[]⟩)=some o) (hd:Rm A lm n) (F:Fr h₀ L s.heap m) (X:(Mine.hd.heap_1 w.params).In h₀) (T:Top p loose mean mg mb h₀) (N:News h₀ L s.heap R0)
    (m1:(a,aS xt.toArray q)∈R0) (hv:aC [a,d] vt xt) (hx:aC [a,d] vr xr)
    (hq:∀ u h' tk,Fr h₀ L h' m→But [] s.heap h'→Q (.bytes o u) { s with heap:=h',toks:=tk }):wpAny (model PG w) A (call (.ref f) (.ref a::xr)) Q E s:=
  fy (vs:=.s 0::vr) hf hr hd F X T N ⟨⟨_,_,rfl,m1,_,_,hv,rfl⟩,trivial⟩ rfl (.cons (.s rfl) hx) hq
end
theorem mM {w:World} {k:Nat} {p:Program} {loose:List Str} {mean:ExcName→Option Value} {mg mb:Str→Option Value} {s:Shared} {h₀:Heap} {L:Addr} {m:Str→Option Value} {R:List (Addr×Obj)}
    {v:Value} {t:Tr} {Q E:Value→Shared→Prop}
    (F:Fr h₀ L s.heap m) (X:(Mine.hd.heap_1 w.params).In h₀) (T:Top p loose mean mg mb h₀) (N:News h₀ L s.heap R) (hO:aW k t) (hT:aA R v t)
    (post:∀ u h' tk',Fr h₀ L h' m→But [] s.heap h'→Q (.bytes (kX t) u) { s with heap:=h',toks:=tk' }) :
    wpAny (model rw_on0273_01.row.prog w) (AR 800 8000) (call (.ref 801) [v]) Q E s:=by
  cases hT with
  | int m1=>exact a0 (d:=0) (lm:=10) (n:=30) (r:=fn801_1) (aN (Nat.le_refl _) bC) (by kernel_rfl) (by kernel_rfl) ⟨rfl,by decide,by decide⟩ F X T N m1 (.cons .t (.cons .b .nil)) .nil post
  | bool m1=>exact a0 (d:=0) (lm:=10) (n:=30) (r:=fn801_1) (aN (Nat.le_refl _) bC) (by kernel_rfl) (by kernel_rfl) ⟨rfl,by decide,by decide⟩ F X T N m1 (.cons .t (.cons .b .nil)) .nil post
  | real m1=>
    cases hO with | real hn=>
    exact a0 (d:=0) (lm:=10) (n:=30) (r:=fn801_1) (aN (Nat.le_refl _) bC) (by kernel_rfl) (by kernel_rfl) ⟨rfl,by decide,by decide⟩ F X T N m1 (.cons .t (.cons (.z (h:=hn)) (.nil))) .nil post
  | name m1=>exact a0 (d:=0) (lm:=10) (n:=30) (r:=fn801_1) (aN (Nat.le_refl _) bC) (by kernel_rfl) (by kernel_rfl) ⟨rfl,by decide,by decide⟩ F X T N m1 (.cons .t (.cons .b (.cons .o (.nil)))) .nil post
  | op m1=>exact a0 (d:=0) (lm:=10) (n:=30) (r:=fn801_1) (aN (Nat.le_refl _) bC) (by kernel_rfl) (by kernel_rfl) ⟨rfl,by decide,by decide⟩ F X T N m1 (.cons .t (.cons .b .nil)) .nil post
  | word m1=>exact a0 (d:=0) (lm:=10) (n:=30) (r:=fn801_1) (aN (Nat.le_refl _) bC) (by kernel_rfl) (by kernel_rfl) ⟨rfl,by decide,by decide⟩ F X T N m1 (.cons .t (.cons .b .nil)) .nil post
  | strN m1=>exact a0 (d:=0) (lm:=10) (n:=30) (r:=fn801_1) (aN (Nat.le_refl _) bC) (by kernel_rfl) (by kernel_rfl) ⟨rfl,by decide,by decide⟩ F X T N m1 (.cons .t (.cons .n (.nil))) .nil post
  | strS m1=>exact a0 (d:=0) (lm:=10) (n:=30) (r:=fn801_1) (aN (Nat.le_refl _) bC) (by kernel_rfl) (by kernel_rfl) ⟨rfl,by decide,by decide⟩ F X T N m1 (.cons .t (.cons .b .nil)) .nil post
  | rowN m1=>exact a0 (d:=0) (lm:=10) (n:=30) (r:=fn801_1) (aN (Nat.le_refl _) bC) (by kernel_rfl) (by kernel_rfl) ⟨rfl,by decide,by decide⟩ F X T N m1 (.cons .t (.cons .n (.cons .o (.cons .o (.nil))))) .nil post
  | @rowS _ l _ _ _ _ _ _ _ m1 m2 hz hT=>exact a0 (d:=l) (lm:=10) (n:=30) (r:=fn801_1) (aN (Nat.le_refl _) bC) (by kernel_rfl) (by kernel_rfl) ⟨rfl,by decide,by decide⟩ F X T N m1 (.cons .t (.cons (.s (i:=1) rfl) (.cons .o (.cons .o (.nil))))) .nil post
end
end
section
noncomputable section
theorem shown_flat {ts:List Tr} {r x q:Bool} {d:Int} (h:r=false∨d≤0):shown (.row ts r x q) d=if q then #[45,112,97,99,107,101,100,97,114,114,97,121,45] else #[45,97,114,114,97,121,45]:=by
  cases q
  · exact qs h
  · exact o9 h
theorem eG {ts:List Tr} {x q:Bool} {d:Int} (h:¬ d≤0):shown (.row ts true x q) d=if x then #[123]++Builtin.Bytes.joined #[32] (shownL ts (d - 1))++#[125] else #[91]++Builtin.Bytes.joined #[32] (shownL ts (d - 1))++#[93]:=by
  cases x
  · exact pe rfl h
  · exact oH rfl h
section
variable {c:Ct} {n:Nat} {r:FnR} {σ:Sy}
theorem lQ {b:Str} {ca:Addr}:[(b,ca)].lookup b=some ca:=by rw [List.lookup_cons,beq_self_eq_true]
theorem df {bb:Bool} {b:Str} {ca:Addr} {co:Obj} {d:Int} {td:Tok} {p1 p2 p3 ps:Pos} {ci:Nat} (hd:decide (d≤0)=bb) (hm:(ca,co)∈c.R0) (hc:co.data=.cell (some (.int d td))) (hk:(r.scope.kind==.function&&r.scope.names.lookup b==some .cell&&(b==("__debug__":Str))==false)=true) :
    af c (n+1) σ (fun L=>isTrue (.BoolOp .Or [.Compare (.Name b p1) [.LtE] [.Constant (.int 0) ci p2] p3] ps) (aa (r.wc b ca) L) (eval (.BoolOp .Or [.Compare (.Name b p1) [.LtE] [.Constant (.int 0) ci p2] p3] ps) (aa (r.wc b ca) L))) (fun _ x=>x=bb) σ:=fun f v tk Q ok S hq=>by
  subst hd
  obtain ⟨hk,k3⟩:=bA.mp hk
  obtain ⟨k1,k2⟩:=bA.mp hk
  refine PyProof.Rows.isTrue_or (wpAny_isTrue_Compare1 (wpAny_Name (wpAny_loadName_cell (env:=aa (r.wc b ca) f.L) (beq_iff_eq.mp k1) (beq_iff_eq.mp k2) (lQ) ⟨co,(S.nw _ (List.mem_append_right _ (S.sb _ hm))).1,hc⟩ ?_) (beq_iff_eq.mp k3)) rfl)
  refine wpAny_Constant_int (PyProof.Rows.le_int (wpAny_truthy_bool ?_))
  cases h:decide (d≤0) with
  | true=>exact hq true v _ (List.prefix_refl _) h.symm S
  | false=>exact PyProof.Rows.isTrue_or_nil (hq false v _ (List.prefix_refl _) h.symm S)
end
section
variable {w:World} {p:Program} {loose:List Str} {mean:ExcName→Option Value} {mg mb:Str→Option Value} {R0:List (Addr×Obj)} {ρ0:List Addr} {lm:Nat}
theorem mR {σ:Sy} {j:Nat} {sp sd rw rd li:Addr} {vs:List Value} {q:Nat} {i k:Int} {n g l:Value} {ti tk u1 u2 u3 u4 w1 w2 w3:Tok} (hi:ρ0[j]?=some sp) (hl:10≤lm)
    (m3:(sp,instObj 182 sd)∈R0) (m4:(sd,cK w.params (.ref rw) i k ti tk w1 w2 w3)∈R0) (m5:(rw,instObj 128 rd)∈R0) (m6:(rd,bc w.params (Str.ofString "things") n (.ref li) g l u1 u2 u3 u4)∈R0) (m7:(li,listOf vs.toArray q)∈R0) (hz:vs.length≤100) {m:Nat} :
    aO (bD w p loose mean mg mb R0 ρ0 lm) m σ 379 [.s j] (.s σ.nx) { σ with fr:=(σ.nx,.L ((slicePick vs.toArray (some i) (some (i+k)) none).toList.map SV.u))::σ.fr,nx:=σ.nx+1 }:=fun f v tk xs Q ok S ⟨y',r',e2,h2,e3⟩ hq=>by
  subst e2
  obtain ⟨a',e,rfl⟩:=h2
  obtain rfl:sp=a':=Option.some.inj ((az S.ini hi).symm.trans e)
  rw [show r'=[] from e3]
  have up:∀ p∈R0,p∈v.Rf++v.R1:=fun p hp=>List.mem_append_right _ (S.sb p hp)
  exact bw (rK S.fr ok.X ok.T S.nw (up _ m3) (up _ m4) (up _ m5) (up _ m6) (up _ m7) hz fun D h' tk' F' N' hD b=>hq _ _ tk' ⟨[D],rfl⟩ ⟨D,S.top,rfl⟩ (S.pushL F' N' (fun p hp=>Nat.ne_of_lt (hD p hp)) ⟨_,0,aC.us.mpr rfl,rfl⟩) rfl) ok.zero (by show 890≤880+lm; exact lin (.c _ .z) (.c (.k 10) (.v 0) .z) (.k 890) (.a (.k 880) (.v 0)) rfl hl) (by show 8900≤8800+10*lm; exact lin (.c _ .z) (.m 10 (.k 10) (.v 0) .z) (.k 8900) (.a (.k 8800) (.m 10 (.v 0))) rfl hl)
end
theorem em {ts:List Tr} {i:Nat} {t:Tr} {b:Array UInt8} {d:Int} (h:ts[i]?=some t) (hb:(shownL ts d)[i]?=some b):b=shown t d:=by
  induction ts generalizing i with
  | nil=>cases h
  | cons u ts ih=>
    cases i with
    | zero=>cases h; simp only [shownL,List.getElem?_cons_zero,Option.some.injEq] at hb; exact hb.symm
    | succ i=>simp only [shownL,List.getElem?_cons_succ] at h hb; exact ih h hb
theorem cB {ts:List Tr} {k:Nat} {d:Int} (hk:k<3) (hl:ts.length≤3) (hO:∀ t∈ts,aW k t):ts.length=(shownL ts d).length∧(shownL ts d).length+ah (shownL ts d)≤50000:=by
  have h1:=cw d hO
  have hp:500*4 ^ k≤500*4 ^ 2:=Nat.mul_le_mul_left _ (Nat.pow_le_pow_right (by exact lin .z .z (.a (.k 0) (.k 1)) (.k 4) rfl ) (by exact lin (.c _ .z) (.c (.a (.v 0) (.k 1)) (.k 3) .z) (.v 0) (.k 2) rfl hk))
  have hm:=Nat.mul_le_mul hl hp
  exact ⟨h1.2.symm,by rw [h1.2]; exact lin (.c _ (.c _ (.c _ .z))) (.c (.v 0) (.k 3) (.c (.v 1) (.v 2) (.c (.v 2) (.m 3 (.m 500 (.k 16))) .z))) (.a (.v 0) (.v 1)) (.k 50000) rfl hl h1.1 hm⟩
theorem oO {c:Ct} {σ:Sy} {u:SV} {a:Str} {r:SV} {o:Option { r:SV // gn c σ u a r }} (h:o.map (·.1)=some r):gn c σ u a r:=by
  obtain ⟨q,_,rfl⟩:=Option.map_eq_some_iff.mp h
  exact q.2
noncomputable def bn:FnR:=⟨411,[.ofString "thing",.ofString "depth"],[],Y.dB (Y.d 52),Y.dS (Y.d 52),.ofString "print_row",[]⟩
theorem mf (P:Params):jk P bn (.ofString "thing") (.ofString "depth"):=by
  refine' jk.of (f:=411) rfl ?h ?b (by kernel_rfl) (by kernel_rfl) (fun z_=>by kernel_rfl)
  case h=>k_is
  case b=>exact fun s x y=>BindsTo.of_eq (by kernel_rfl)
noncomputable def db (kk:Str) (x:Bool) (ac:Int) (b:Bool) (h:decide (2≤ac)=b):Sy:=⟨[(.ofString "thing",.s 0)],[],[(0,.I 86 1),(1,eR kk (.s 2) x (.r ac 2 b h))],3,[]⟩
section
variable {w:World} {p:Program} {loose:List Str} {mean:ExcName→Option Value} {mg mb:Str→Option Value} {R:List (Addr×Obj)}
theorem dq {kk:Str} {o:Array UInt8} {k:Nat} {a dd sp:Addr} {x b:Bool} {ac d:Int} {td t t0 t1 t2 t3 t4:Tok} {h:decide (2≤ac)=b} {s:Shared} {h₀:Heap} {L:Addr} {m:Str→Option Value} {Q E:Value→Shared→Prop} (hk:k<3) (F:Fr h₀ L s.heap m) (X:(Mine.hd.heap_1 w.params).In h₀) (T:Top p loose mean mg mb h₀) (N:News h₀ L s.heap R)
    (m1:(a,instObj 86 dd)∈R) (m2:(dd,aZ w.params kk (.ref sp) x ac t t0 t1 t2 t3 t4)∈R)
    (hr:∀ ca co,co.data=.cell (some (.int d td))→∃ σ' u,(∀ ρ z,VR ρ u z→∃ t,z=.bytes o t)∧SJ (bD w p loose mean mg mb ((ca,co)::R) [a,dd,sp] (54+80*k)) 20 (bn.wc (.ofString "depth") ca) bn.body (db kk x ac b h) (some u) σ')
    (post:∀ u h' tk',Fr h₀ L h' m→But [] s.heap h'→Q (.bytes o u) { s with heap:=h',toks:=tk' }) :
    wpAny (model rw_on0273_01.row.prog w) (AR (785 - 80*k) (7850 - 800*k)) (call (.ref 411) [.ref a,.int d td]) Q E s:=
  cU (r:=bn) (ρ0:=[a,dd,sp]) (nx:=3) (v0:=.s 0) (ol:=[(0,.I 86 1),(1,eR kk (.s 2) x (.r ac 2 b h))]) (lm:=54+80*k) (n:=20) rfl (mf _) ⟨rfl,by show 785 - 80*k+1+2*20+(54+80*k)≤890; exact lin (.c _ (.c _ .z)) (.c (.a (.v 1) (.m 80 (.v 0))) (.k 785) .z) (.a (.a (.a (.v 1) (.k 1)) (.m 2 (.k 20))) (.a (.k 54) (.m 80 (.v 0)))) (.k 890) rfl (eC (lin (.c _ .z) (.m 80 (.a (.v 0) (.k 1)) (.k 3) .z) (.m 80 (.v 0)) (.k 785) rfl hk)),by show 7850 - 800*k+3+20*20+10*(54+80*k)≤8900; exact lin (.c _ (.c _ .z)) (.c (.a (.v 1) (.m 800 (.v 0))) (.k 7850) .z) (.a (.a (.a (.v 1) (.k 3)) (.m 20 (.k 20))) (.m 10 (.a (.k 54) (.m 80 (.v 0))))) (.k 8900) rfl (eC (lin (.c _ .z) (.m 800 (.a (.v 0) (.k 1)) (.k 3) .z) (.m 800 (.v 0)) (.k 7850) rfl hk))⟩ F X T N
    ⟨⟨_,_,rfl,m1,_,rfl,rfl⟩,⟨_,_,rfl,m2,_,.cons .t (.cons (.s (i:=2) rfl) (.cons .o (.cons .r rfl))),rfl⟩,trivial⟩ rfl (.s rfl) hr post
theorem kO {k n:Nat} (W:a9 w k) {zs:List Value} {ts:List Tr} {d:Int} {td:Tok} {ca:Addr} {co:Obj} {σ1:Sy} {ρ0:List Addr} {pf p1 p2 p3 p4 pc:Pos} {ci:Nat} {sc:Scope} (hc:co.data=.cell (some (.int d td))) (hT:am w.params R zs ts) (hO:∀ t∈ts,aW k t)
    (ok:∀ L,pV sc (aa (bn.wc (.ofString "depth") ca) L) (.ofString "written") (.ofString "one") (.ofString "depth")=true) (hn:19≤n) (hk:k<3) :
    gj (bD w p loose mean mg mb ((ca,co)::R) ρ0 (54+80*k)) n (bn.wc (.ofString "depth") ca) σ1 (.Call (.Name (.ofString "written") pf) [.Name (.ofString "one") p1,.BinOp (.Name (.ofString "depth") p2) .Sub (.Constant (.int 1) ci p3) p4] [] pc) (.ofString "one") sc [(.ofString "depth",ca)] zs (shownL ts (d - 1)):=fun f v fok S i b z C oC m₂ h tk Q E' all h1 h2 hoC hm₂ F N hC hs post=>by
  obtain ⟨t,ht,hv⟩:=iQ hT h2
  obtain rfl:=em ht h1
  refine gY (fa:=419) (ok f.L) (by kernel_rfl) (by kernel_rfl) (by kernel_rfl) fok.X fok.T hoC hm₂ F N hC (hs _ (List.mem_append_right _ (S.sb _ (.head _)))) hc fun td' tk'=>?_
  exact aH (W F fok.X fok.T (ag N fun p hp=>hs _ (List.mem_append_right _ (S.sb _ (.tail _ hp)))) (hO t (List.mem_of_getElem? ht)) hv post) fok.hd (by have:=fok.dp; show f.A.depth≤800 - 80*k; have:f.A.depth+2*n+(54+80*k)≤890:=this; exact lin (.c _ (.c _ (.c _ (.c _ .z)))) (.m 2 (.k 19) (.v 0) (.c (.a (.a (.v 2) (.m 2 (.v 0))) (.a (.k 54) (.m 80 (.v 1)))) (.k 890) (.c (.k 800) (.a (.v 3) (.m 80 (.v 1))) .z))) (.v 2) (.v 3) rfl hn this (f5 _ _)) rfl rfl (by have:=fok.un; show f.A.units≤8000 - 800*k; have:f.A.units+20*n+10*(54+80*k)≤8900:=this; exact lin (.c _ (.c _ (.c _ (.c _ .z)))) (.m 20 (.k 19) (.v 0) (.c (.a (.a (.v 2) (.m 20 (.v 0))) (.m 10 (.a (.k 54) (.m 80 (.v 1))))) (.k 8900) (.c (.k 8000) (.a (.v 3) (.m 800 (.v 1))) .z))) (.v 2) (.v 3) rfl hn this (f5 _ _))
noncomputable def dJ (ss:List Stmt):PySem.Expr×List Stmt:=match ss with
  | .If t b _ _::_=>(match t with
    | .BoolOp _ (x::_) _=>x
    | t=>t,b)
  | _=>default
noncomputable def sY:PySem.Expr:=(dJ bn.body).1
noncomputable def xA (R:List (Addr×Obj)) (w:World) (p:Program) (loose:List Str) (mean:ExcName→Option Value) (mg mb:Str→Option Value) (k:Nat) (a dd sp:Addr) (σ:Sy):Prop:=
  ∀ ca co,af (bD w p loose mean mg mb ((ca,co)::R) [a,dd,sp] (54+80*k)) 20 σ (fun L=>isTrue sY (aa (bn.wc (.ofString "depth") ca) L) (eval sY (aa (bn.wc (.ofString "depth") ca) L))) (fun _ x=>x=false) σ
theorem uE {kk:Str} {x:Bool} {ac:Int} {hr:decide (2≤ac)=true} {k:Nat} {a dd sp:Addr} (h:∀ ca co,((cR (c:=bD w p loose mean mg mb ((ca,co)::R) [a,dd,sp] (54+80*k)) bC iL 18 20).T (bn.wc (.ofString "depth") ca) sY (db kk x ac true hr)).map (fun q=>(q.b,q.σ'))=some (false,db kk x ac true hr)):xA R w p loose mean mg mb k a dd sp (db kk x ac true hr):=fun ca co=>po (h ca co)
variable {ts:List Tr} {x:Bool} {d:Int} {td:Tok} {k:Nat} {kk:Str} {o:Array UInt8} {a dd sp sd rw rd li:Addr} {vs:List Value} {mm:Nat} {i many:Int} {n g l:Value} {ti tk u1 u2 u3 u4 w1 w2 w3 t t0 t1 t2 t3 t4:Tok} {ac:Int} {hr:decide (2≤ac)=true} {s:Shared} {h₀:Heap} {L:Addr} {m:Str→Option Value} {Q E:Value→Shared→Prop}
theorem ky (hk:k<3) (F:Fr h₀ L s.heap m) (X:(Mine.hd.heap_1 w.params).In h₀) (T:Top p loose mean mg mb h₀) (N:News h₀ L s.heap R) (m1:(a,instObj 86 dd)∈R) (m2:(dd,aZ w.params kk (.ref sp) x ac t t0 t1 t2 t3 t4)∈R) (hX:xA R w p loose mean mg mb k a dd sp (db kk x ac true hr)) (h0:d≤0)
    (hB:∀ ca co,gR ((cR (c:=bD w p loose mean mg mb ((ca,co)::R) [a,dd,sp] (54+80*k)) bC iL 19 20).S (bn.wc (.ofString "depth") ca) (dJ bn.body).2 (db kk x ac true hr))=some o)
    (post:∀ u h' tk',Fr h₀ L h' m→But [] s.heap h'→Q (.bytes o u) { s with heap:=h',toks:=tk' }) :
    wpAny (model rw_on0273_01.row.prog w) (AR (785 - 80*k) (7850 - 800*k)) (call (.ref 411) [.ref a,.int d td]) Q E s:=
  dq (h:=hr) hk F X T N m1 m2 (fun ca co hc=>(ib (hB ca co)).elim fun σ2 h=>h.elim fun u h=>
    ⟨σ2,u,h.1,⟨oX (b:=true) (kQ (hX ca co) (df (r:=bn) (decide_eq_true h0) (.head _) hc (by kernel_rfl))) h.2.j⟩⟩) post
theorem prow_deep (hk:k<3) (W:a9 w k) (F:Fr h₀ L s.heap m) (X:(Mine.hd.heap_1 w.params).In h₀) (T:Top p loose mean mg mb h₀) (N:News h₀ L s.heap R) (m1:(a,instObj 86 dd)∈R) (m2:(dd,aZ w.params kk (.ref sp) x ac t t0 t1 t2 t3 t4)∈R)
    (m3:(sp,instObj 182 sd)∈R) (m4:(sd,cK w.params (.ref rw) i many ti tk w1 w2 w3)∈R) (m5:(rw,instObj 128 rd)∈R) (m6:(rd,bc w.params (Str.ofString "things") n (.ref li) g l u1 u2 u3 u4)∈R) (m7:(li,listOf vs.toArray mm)∈R) (hz:vs.length≤100)
    (hl:ts.length≤3) (hO:∀ t∈ts,aW k t) (hT:am w.params R (slicePick vs.toArray (some i) (some (i+many)) none).toList ts) (hX:xA R w p loose mean mg mb k a dd sp (db kk x ac true hr)) (h0:¬ d≤0) (hb:(shownL ts (d - 1)).length+ah (shownL ts (d - 1))≤50000)
    (hB:∀ ca co,gR ((cR (c:=bD w p loose mean mg mb ((ca,co)::R) [a,dd,sp] (54+80*k)) bC iL 19 20).S (bn.wc (.ofString "depth") ca) (List.drop 2 bn.body) ⟨[(.ofString "thing",.s 0),(.ofString "parts",.s 4)],[(4,.J (shownL ts (d - 1)) 50000 hb),(3,.L ((slicePick vs.toArray (some i) (some (i+many)) none).toList.map SV.u))],[(0,.I 86 1),(1,eR kk (.s 2) x (.r ac 2 true hr))],5,[]⟩)=some o)
    (post:∀ u h' tk',Fr h₀ L h' m→But [] s.heap h'→Q (.bytes o u) { s with heap:=h',toks:=tk' }) :
    wpAny (model rw_on0273_01.row.prog w) (AR (785 - 80*k) (7850 - 800*k)) (call (.ref 411) [.ref a,.int d td]) Q E s:=
  dq (h:=hr) hk F X T N m1 m2 (fun ca co hc=>(ib (hB ca co)).elim fun σ2 h=>h.elim fun u h=>
    ⟨σ2,u,h.1,⟨oY (b:=false) (kQ (hX ca co) (df (r:=bn) (σ:=db kk x ac true hr) (decide_eq_false h0) (.head _) hc (by kernel_rfl))) oV (pE (fun z_=>by kernel_rfl) (by kernel_rfl) (fun z_=>by kernel_rfl) (by decide) (by kernel_rfl) (by decide) (by kernel_rfl) (fun z_ z_=>rfl)
      (wJ (fa:=379) (u:=.s 0) (by kernel_rfl) (by kernel_rfl) (by kernel_rfl) (by kernel_rfl) (by kernel_rfl) (oO (o:=uo _ _ _) (by kernel_rfl)) (mR (j:=2) rfl (Nat.le_trans (by decide:10≤54) (Nat.le_add_right 54 _)) (.tail _ m3) (.tail _ m4) (.tail _ m5) (.tail _ m6) (.tail _ m7) hz)) (by kernel_rfl) ((cM hT).trans (cB (d:=d - 1) hk hl hO).1) (by kernel_rfl) hb (kO W hc hT hO (fun z_=>by kernel_rfl) (by decide) hk) h.2.j)⟩⟩) post
theorem pF {v:Value} {r q:Bool} (hk:k<3) (W:a9 w k)
    (F:Fr h₀ L s.heap m) (X:(Mine.hd.heap_1 w.params).In h₀) (T:Top p loose mean mg mb h₀) (N:News h₀ L s.heap R) (hO:aW (k+1) (.row ts r x q)) (hT:al w.params R v (.row ts r x q))
    (post:∀ u h' tk',Fr h₀ L h' m→But [] s.heap h'→Q (.bytes (shown (.row ts r x q) d) u) { s with heap:=h',toks:=tk' }) :
    wpAny (model rw_on0273_01.row.prog w) (AR (785 - 80*k) (7850 - 800*k)) (call (.ref 411) [v,.int d td]) Q E s:=by
  cases hO with | row hl hO=>
  cases hT with | @row _ _ _ _ _ _ _ _ _ _ _ _ _ _ _ _ ac _ _ _ _ _ _ _ _ _ _ _ _ _ _ _ _ m1 m2 m3 m4 m5 m6 m7 hz hT=>
  cases hr:decide (2≤ac) with
  | false=>exact dq (h:=hr) hk F X T N m1 m2 (fun ca co hc=>ib (q:=(run bC 20).S (bn.wc (.ofString "depth") ca) bn.body (db _ x ac false hr)) (by cases q <;> kernel_rfl)) (by rw [hr,shown_flat (.inl rfl)] at post; exact post)
  | true=>
    rw [hr] at post
    by_cases h0:d≤0
    · exact ky (hr:=hr) hk F X T N m1 m2 (uE fun ca co=>by cases q <;> kernel_rfl) h0 (fun ca co=>by cases q <;> kernel_rfl) (by rw [shown_flat (.inr h0)] at post; exact post)
    · rw [eG h0] at post
      have hO':=(cB (d:=d - 1) hk hl hO).2
      cases x <;> exact prow_deep (hr:=hr) hk W F X T N m1 m2 m3 m4 m5 m6 m7 hz hl hO hT (uE fun ca co=>by cases q <;> kernel_rfl) h0 hO' (fun ca co=>by cases q <;> kernel_rfl) post
end
end
end
section
noncomputable def dY (w:World) (k:Nat):Prop:=∀ {p:Program} {loose:List Str} {mean:ExcName→Option Value} {mg mb:Str→Option Value} {s:Shared} {h₀:Heap} {L:Addr} {m:Str→Option Value} {R:List (Addr×Obj)}
    {v:Value} {t:Tr} {d:Int} {td:Tok} {Q E:Value→Shared→Prop},
    Fr h₀ L s.heap m→(Mine.hd.heap_1 w.params).In h₀→Top p loose mean mg mb h₀→News h₀ L s.heap R→aW k t→aA R v t→
    (∀ u h' tk',Fr h₀ L h' m→But [] s.heap h'→Q (.bytes (shown t d) u) { s with heap:=h',toks:=tk' })→
    wpAny (model rw_on0273_01.row.prog w) (AR (800 - 80*k) (8000 - 800*k)) (call (.ref 794) [v,.int d td]) Q E s
noncomputable section
noncomputable def aX:FnR:=⟨794,[.ofString "tree",.ofString "depth"],[],Y.dB (Y.d 75),Y.dS (Y.d 75),.ofString "_law_shown",[]⟩
theorem gP (P:Params):jk P aX (.ofString "tree") (.ofString "depth"):=by
  refine' jk.of (f:=794) rfl ?h ?b (by kernel_rfl) (by kernel_rfl) (fun z_=>by kernel_rfl)
  case h=>k_is
  case b=>exact fun s x y=>BindsTo.of_eq (by kernel_rfl)
section
variable {w:World} {p:Program} {loose:List Str} {mean:ExcName→Option Value} {mg mb:Str→Option Value} {R:List (Addr×Obj)}
noncomputable def qz (vt zs:List SV):Sy:=⟨[(.ofString "tree",.s 0)],[],[(0,.T vt),(1,.L zs)],2,[]⟩
variable {k:Nat} {vt:List SV} {zs xt:List Value} {o:Array UInt8} {q mm:Nat} {a l:Addr} {d:Int} {td:Tok} {s:Shared} {h₀:Heap} {L:Addr} {m:Str→Option Value} {Q E:Value→Shared→Prop}
theorem jQ (F:Fr h₀ L s.heap m) (X:(Mine.hd.heap_1 w.params).In h₀) (T:Top p loose mean mg mb h₀) (N:News h₀ L s.heap R) (hk:k≤3) (m1:(a,aS xt.toArray q)∈R) (m2:(l,listOf zs.toArray mm)∈R) (hv:aC [a,l] vt xt)
    (hr:∀ ca co,co.data=.cell (some (.int d td))→∃ σ' u,(∀ ρ z,VR ρ u z→∃ t,z=.bytes o t)∧SJ (bD w p loose mean mg mb ((ca,co)::R) [a,l] (40+80*k)) 20 (aX.wc (.ofString "depth") ca) aX.body (qz vt (zs.map SV.u)) (some u) σ')
    (post:∀ u h' tk',Fr h₀ L h' m→But [] s.heap h'→Q (.bytes o u) { s with heap:=h',toks:=tk' }) :
    wpAny (model rw_on0273_01.row.prog w) (AR (800 - 80*k) (8000 - 800*k)) (call (.ref 794) [.ref a,.int d td]) Q E s:=
  cU (r:=aX) (ρ0:=[a,l]) (nx:=2) (v0:=.s 0) (ol:=[(0,.T vt),(1,.L (zs.map SV.u))]) (lm:=40+80*k) (n:=20) rfl (gP _) ⟨rfl,by show 800 - 80*k+1+2*20+(40+80*k)≤890; exact lin (.c _ (.c _ .z)) (.c (.a (.v 1) (.m 80 (.v 0))) (.k 800) .z) (.a (.a (.a (.v 1) (.k 1)) (.m 2 (.k 20))) (.a (.k 40) (.m 80 (.v 0)))) (.k 890) rfl (eC (lin (.c _ .z) (.m 80 (.v 0) (.k 3) .z) (.m 80 (.v 0)) (.k 800) rfl hk)),by show 8000 - 800*k+3+20*20+10*(40+80*k)≤8900; exact lin (.c _ (.c _ .z)) (.c (.a (.v 1) (.m 800 (.v 0))) (.k 8000) .z) (.a (.a (.a (.v 1) (.k 3)) (.m 20 (.k 20))) (.m 10 (.a (.k 40) (.m 80 (.v 0))))) (.k 8900) rfl (eC (lin (.c _ .z) (.m 800 (.v 0) (.k 3) .z) (.m 800 (.v 0)) (.k 8000) rfl hk))⟩ F X T N
    ⟨⟨_,_,rfl,m1,_,_,hv,rfl⟩,⟨_,_,rfl,m2,zs,mm,aC.us.mpr rfl,rfl⟩,trivial⟩ rfl (.s rfl) hr post
theorem shown_run {vt:List SV} {xt:List Value} (F:Fr h₀ L s.heap m) (X:(Mine.hd.heap_1 w.params).In h₀) (T:Top p loose mean mg mb h₀) (N:News h₀ L s.heap R) (hk:k≤3) (m1:(a,aS xt.toArray q)∈R) (hv:aC [a] vt xt)
    (hr:∀ ca co,gR ((run (c:=bD w p loose mean mg mb ((ca,co)::R) [a] (40+80*k)) (aN (Nat.le_trans (by decide:10≤40) (Nat.le_add_right 40 _)) bC) 20).S (aX.wc (.ofString "depth") ca) aX.body ⟨[(.ofString "tree",.s 0)],[],[(0,.T vt)],1,[]⟩)=some o)
    (post:∀ u h' tk',Fr h₀ L h' m→But [] s.heap h'→Q (.bytes o u) { s with heap:=h',toks:=tk' }) :
    wpAny (model rw_on0273_01.row.prog w) (AR (800 - 80*k) (8000 - 800*k)) (call (.ref 794) [.ref a,.int d td]) Q E s:=
  cU (r:=aX) (ρ0:=[a]) (nx:=1) (v0:=.s 0) (ol:=[(0,.T vt)]) (lm:=40+80*k) (n:=20) rfl (gP _) ⟨rfl,by show 800 - 80*k+1+2*20+(40+80*k)≤890; exact lin (.c _ (.c _ .z)) (.c (.a (.v 1) (.m 80 (.v 0))) (.k 800) .z) (.a (.a (.a (.v 1) (.k 1)) (.m 2 (.k 20))) (.a (.k 40) (.m 80 (.v 0)))) (.k 890) rfl (eC (lin (.c _ .z) (.m 80 (.v 0) (.k 3) .z) (.m 80 (.v 0)) (.k 800) rfl hk)),by show 8000 - 800*k+3+20*20+10*(40+80*k)≤8900; exact lin (.c _ (.c _ .z)) (.c (.a (.v 1) (.m 800 (.v 0))) (.k 8000) .z) (.a (.a (.a (.v 1) (.k 3)) (.m 20 (.k 20))) (.m 10 (.a (.k 40) (.m 80 (.v 0))))) (.k 8900) rfl (eC (lin (.c _ .z) (.m 800 (.v 0) (.k 3) .z) (.m 800 (.v 0)) (.k 8000) rfl hk))⟩ F X T N
    ⟨⟨_,_,rfl,m1,_,_,hv,rfl⟩,trivial⟩ rfl (.s rfl) (fun ca co _=>ib (hr ca co)) post
theorem jg {k n:Nat} (W:dY w k) {zs:List Value} {ts:List Tr} {d:Int} {td:Tok} {ca:Addr} {co:Obj} {σ1:Sy} {ρ0:List Addr} {pf p1 p2 p3 p4 pc:Pos} {ci:Nat} {sc:Scope} (hc:co.data=.cell (some (.int d td))) (hT:aK R zs ts) (hO:∀ t∈ts,aW k t)
    (ok:∀ L,pV sc (aa (aX.wc (.ofString "depth") ca) L) (.ofString "_law_shown") (.ofString "one") (.ofString "depth")=true) (hk:k<3) :
    gj (bD w p loose mean mg mb ((ca,co)::R) ρ0 (40+80*(k+1))) n (aX.wc (.ofString "depth") ca) σ1 (.Call (.Name (.ofString "_law_shown") pf) [.Name (.ofString "one") p1,.BinOp (.Name (.ofString "depth") p2) .Sub (.Constant (.int 1) ci p3) p4] [] pc) (.ofString "one") sc [(.ofString "depth",ca)] zs (shownL ts (d - 1)):=fun f v fok S i b z C oC m₂ h tk Q E' all h1 h2 hoC hm₂ F N hC hs post=>by
  obtain ⟨t,ht,hv⟩:=lq hT h2
  obtain rfl:=em ht h1
  refine gY (fa:=794) (ok f.L) (by kernel_rfl) (by kernel_rfl) (by kernel_rfl) fok.X fok.T hoC hm₂ F N hC (hs _ (List.mem_append_right _ (S.sb _ (.head _)))) hc fun td' tk'=>?_
  exact aH (W F fok.X fok.T (ag N fun p hp=>hs _ (List.mem_append_right _ (S.sb _ (.tail _ hp)))) (hO t (List.mem_of_getElem? ht)) hv post) fok.hd (by have:=fok.dp; show f.A.depth≤800 - 80*k; have:f.A.depth+2*n+(40+80*(k+1))≤890:=this; exact lin (.c _ (.c _ (.c _ (.c _ .z)))) (.c (.a (.a (.v 1) (.m 2 (.v 2))) (.a (.k 40) (.m 80 (.a (.v 0) (.k 1))))) (.k 890) (.c (.k 800) (.a (.v 3) (.m 80 (.v 0))) .z)) (.v 1) (.v 3) rfl this (f5 _ _)) rfl rfl (by have:=fok.un; show f.A.units≤8000 - 800*k; have:f.A.units+20*n+10*(40+80*(k+1))≤8900:=this; exact lin (.c _ (.c _ (.c _ (.c _ .z)))) (.c (.a (.a (.v 1) (.m 20 (.v 2))) (.m 10 (.a (.k 40) (.m 80 (.a (.v 0) (.k 1)))))) (.k 8900) (.c (.k 8000) (.a (.v 3) (.m 800 (.v 0))) .z)) (.v 1) (.v 3) rfl this (f5 _ _))
theorem oL {c:Ct} {σ:Sy} {a b r:SV} {o:Option { r:SV // ef c σ a b r }} (h:o.map (·.1)=some r):ef c σ a b r:=by
  obtain ⟨q,_,rfl⟩:=Option.map_eq_some_iff.mp h
  exact q.2
noncomputable def kI:List Stmt:=(dJ (List.drop 1 aX.body)).2
noncomputable def dO (x q:Bool):List SV:=[.t (.ofString "row"),.s 1,.o x,.o q]
noncomputable def cv (vt zs:List SV):Sy:=⟨[(.ofString "tree",.s 0),(.ofString "sort",.t (.ofString "row"))],[],[(0,.T vt),(1,.L zs)],2,[]⟩
variable {ts:List Tr} {x pk:Bool}
theorem fz (F:Fr h₀ L s.heap m) (X:(Mine.hd.heap_1 w.params).In h₀) (T:Top p loose mean mg mb h₀) (N:News h₀ L s.heap R) (hk:k≤3) (m1:(a,aS xt.toArray q)∈R) (m2:(l,listOf zs.toArray mm)∈R) (hv:aC [a,l] (dO x pk) xt)
    (hB:∀ ca co,co.data=.cell (some (.int d td))→∃ σ' u,(∀ ρ z,VR ρ u z→∃ t,z=.bytes o t)∧SJ (bD w p loose mean mg mb ((ca,co)::R) [a,l] (40+80*k)) 20 (aX.wc (.ofString "depth") ca) kI (cv (dO x pk) (zs.map SV.u)) (some u) σ')
    (post:∀ u h' tk',Fr h₀ L h' m→But [] s.heap h'→Q (.bytes o u) { s with heap:=h',toks:=tk' }) :
    wpAny (model rw_on0273_01.row.prog w) (AR (800 - 80*k) (8000 - 800*k)) (call (.ref 794) [.ref a,.int d td]) Q E s:=
  jQ F X T N hk m1 m2 hv (fun ca co hc=>(hB ca co hc).elim fun σ' h=>h.elim fun u h=>⟨σ',u,h.1,⟨af.split 1 (wM (o:=(run bC 20).S (aX.wc (.ofString "depth") ca) (List.take 1 aX.body) (qz (dO x pk) (zs.map SV.u))) (σ':=cv (dO x pk) (zs.map SV.u)) (by kernel_rfl))
    (oX (b:=true) (po (o:=(cR bC iL 19 20).T (aX.wc (.ofString "depth") ca) (dJ (List.drop 1 aX.body)).1 (cv (dO x pk) (zs.map SV.u))) (by kernel_rfl)) h.2.j)⟩⟩) post
theorem jW {ca:Addr} {co:Obj}:af (bD w p loose mean mg mb ((ca,co)::R) [a,l] (40+80*k)) 20 (cv (dO x pk) (zs.map SV.u)) (fun L=>isTrue (dJ kI).1 (aa (aX.wc (.ofString "depth") ca) L) (eval (dJ kI).1 (aa (aX.wc (.ofString "depth") ca) L))) (fun _ x=>x=false) (cv (dO x pk) (zs.map SV.u)):=
  po (o:=(cR bC iL 17 20).T (aX.wc (.ofString "depth") ca) (dJ kI).1 (cv (dO x pk) (zs.map SV.u))) (by kernel_rfl)
theorem eO {w:World} {k:Nat} (hk:k≤3) (IH:∀ j,k=j+1→dY w j):dY w k:=by
  intro p loose mean mg mb s h₀ L m R v t d td Q E F X T N hO hT post
  cases hT with
  | int m1=>exact shown_run F X T N hk m1 (.cons .t (.cons .b .nil)) (fun ca co=>by kernel_rfl) post
  | bool m1=>exact shown_run F X T N hk m1 (.cons .t (.cons .b .nil)) (fun ca co=>by kernel_rfl) post
  | real m1=>cases hO with | real hn=>exact shown_run F X T N hk m1 (.cons .t (.cons (.z (h:=hn)) .nil)) (fun ca co=>by kernel_rfl) post
  | @name _ _ x _ _ _ m1=>cases hO with | name hn=>cases x <;> exact shown_run F X T N hk m1 (.cons .t (.cons (.y (h:=hn)) (.cons .o .nil))) (fun ca co=>by kernel_rfl) post
  | op m1=>cases hO with | op hn=>exact shown_run F X T N hk m1 (.cons .t (.cons (.y (h:=hn)) .nil)) (fun ca co=>by kernel_rfl) post
  | word m1=>exact shown_run F X T N hk m1 (.cons .t (.cons .b .nil)) (fun ca co=>by kernel_rfl) post
  | strN m1=>exact shown_run F X T N hk m1 (.cons .t (.cons .n .nil)) (fun ca co=>by kernel_rfl) post
  | strS m1=>cases hO with | str hn=>exact shown_run F X T N hk m1 (.cons .t (.cons (.y (h:=hn)) .nil)) (fun ca co=>by kernel_rfl) post
  | @rowN _ _ x q _ _ m1=>exact shown_run F X T N hk m1 (.cons .t (.cons .n (.cons .o (.cons .o .nil)))) (fun ca co=>by cases q <;> kernel_rfl) (by rw [shown_flat (.inl rfl)] at post; exact post)
  | @rowS a l _ _ ts x q tt _ m1 m2 hz hT=>
    cases hO with | @row k _ _ _ _ hl hO=>
    have hv:aC [a,l] (dO x q) [.str (Str.ofString "row") tt,.ref l,.bool x,.bool q]:=.cons .t (.cons (.s (i:=1) rfl) (.cons .o (.cons .o .nil)))
    by_cases h0:d≤0
    · rw [shown_flat (.inr h0)] at post
      exact fz F X T N hk m1 m2 hv (fun ca co hc=>(ib (q:=(cR bC iL 18 20).S (aX.wc (.ofString "depth") ca) (dJ kI).2 (cv (dO x q) _)) (by cases q <;> kernel_rfl)).elim fun σ2 h=>h.elim fun u h=>
        ⟨σ2,u,h.1,⟨oX (b:=true) (kQ jW (df (r:=aX) (decide_eq_true h0) (.head _) hc (by kernel_rfl))) h.2.j⟩⟩) post
    · rw [eG h0] at post
      have hb:=(cB (d:=d - 1) (Nat.lt_of_succ_le hk) hl hO).2
      exact fz F X T N hk m1 m2 hv (fun ca co hc=>(ib (q:=(cR bC iL 17 20).S (aX.wc (.ofString "depth") ca) (List.drop 2 kI) ⟨[(.ofString "tree",.s 0),(.ofString "sort",.t (.ofString "row")),(.ofString "inner",.y (Builtin.Bytes.joined [32].toArray (shownL ts (d - 1))) 50000 (rc (by decide) hb))],[(2,.J (shownL ts (d - 1)) 50000 hb)],[(0,.T (dO x q)),(1,.L _)],3,[]⟩) (by cases x <;> kernel_rfl)).elim fun σ2 h=>h.elim fun u h=>
        ⟨σ2,u,h.1,⟨oY (b:=false) (kQ jW (df (r:=aX) (σ:=cv (dO x q) _) (decide_eq_false h0) (.head _) hc (by kernel_rfl))) oV (qH ⟨fun z_ z_=>rfl,fun z_ z_ z_=>rfl⟩ (by kernel_rfl) (fW (m:=50000) (hb:=hb) (by kernel_rfl) ⟨fun z_ z_=>rfl⟩ (by kernel_rfl) (oE (m:=50000) (i:=1) (fun z_=>by kernel_rfl) (by decide) (by kernel_rfl) (by decide) (by kernel_rfl) (fun z_ z_=>rfl) (xL (u:=.s 0) (by kernel_rfl) (by kernel_rfl) (oL (o:=wt _ _ _) (by kernel_rfl))) (by kernel_rfl) ((kZ hT).trans (cB (d:=d - 1) (Nat.lt_of_succ_le hk) hl hO).1) (by kernel_rfl) hb (jg (IH k rfl) hc hT hO (fun z_=>by kernel_rfl) (Nat.lt_of_succ_le hk))) (by kernel_rfl) (by kernel_rfl) (by kernel_rfl)) h.2.j)⟩⟩) post
theorem gF (w:World):∀ k,k≤3→dY w k
  | 0,h=>eO h fun j e=>absurd e (by exact fun q=>pX (.c _ .z) (.c (.a (.v 0) (.k 1)) (.k 0) .z) rfl (cr e))
  | k+1,h=>eO h fun j e=>by
    obtain rfl:k=j:=by exact Nat.le_antisymm (lin (.c _ (.c _ .z)) (.c (.a (.v 0) (.k 1)) (.a (.v 1) (.k 1)) .z) (.v 0) (.v 1) rfl (cb e)) (lin (.c _ (.c _ .z)) (.c (.a (.v 1) (.k 1)) (.a (.v 0) (.k 1)) .z) (.v 1) (.v 0) rfl (cr e))
    exact gF w k (by exact lin (.c _ .z) (.c (.a (.v 0) (.k 1)) (.k 3) .z) (.v 0) (.k 3) rfl h)
end
end
end
section
noncomputable section
section
variable {w:World} {p:Program} {loose:List Str} {mean:ExcName→Option Value} {mg mb:Str→Option Value} {R0:List (Addr×Obj)} {ρ0:List Addr} {lm:Nat}
theorem St.new0 {f:Fx} {v:Vr} {σ:Sy} (S:St (bD w p loose mean mg mb R0 ρ0 lm) f v σ):News f.h₀ f.L v.h R0:=ag S.nw fun p hp=>List.mem_append_right _ (S.sb p hp)
theorem rL {σ:Sy} {g:Addr} {y:SV} {i0:Nat} {a d sp sd tx td ba:Addr} {b:Array UInt8} {i k:Int} {n g' l:Value} {ti tk u1 u2 u3 u4 w1 w2 w3:Tok} (hg:Nat.beq g 372=true) (hy:y=.s i0) (hi:Nat.beq i0 2=true) (hl:10≤lm)
    (m3:(sp,instObj 182 sd)∈R0) (m4:(sd,cK w.params (.ref tx) i k ti tk w1 w2 w3)∈R0) (m5:(tx,instObj 107 td)∈R0) (m6:(td,bc w.params (Str.ofString "octets") n (.ref ba) g' l u1 u2 u3 u4)∈R0) (m7:(ba,a8 b)∈R0) (hz:b.size≤100) :
    aO (bD w p loose mean mg mb R0 [a,d,sp] lm) 0 σ g [y] (.y (KBy.picked b (some i) (some (i+k))) 100 (Nat.le_trans (fv _ _ _) hz)) σ:=fun f v tk xs Q ok S ⟨y',r',e2,h2,e3⟩ hq=>by
  obtain rfl:=Nat.eq_of_beq_eq_true hg
  obtain rfl:=Nat.eq_of_beq_eq_true hi
  subst e2 hy
  obtain ⟨a',e,rfl⟩:=h2
  obtain rfl:sp=a':=Option.some.inj ((az S.ini (i:=2) rfl).symm.trans e)
  rw [show r'=[] from e3]
  exact bw (rM S.fr ok.X ok.T S.new0 m3 m4 m5 m6 m7 hz fun u h' tk' F' b=>hq _ (v.to h') tk' (List.prefix_refl _) .y (S.but F' b) rfl) ok (by show 890≤880+lm; exact lin (.c _ .z) (.c (.k 10) (.v 0) .z) (.k 890) (.a (.k 880) (.v 0)) rfl hl) (by show 8900≤8800+10*lm; exact lin (.c _ .z) (.m 10 (.k 10) (.v 0) .z) (.k 8900) (.a (.k 8800) (.m 10 (.v 0))) rfl hl)
theorem rN {σ:Sy} {g:Addr} {x y:SV} {i0:Nat} {k:Nat} {a d sp:Addr} {ts:List Tr} {r b q:Bool} (hg:Nat.beq g 411=true) (hx:x=.s i0) (hi:Nat.beq i0 0=true) (hk:k<3) (W:a9 w k) (hl:lm=108+80*k) (hO:aW (k+1) (.row ts r b q)) (hT:al w.params R0 (.ref a) (.row ts r b q))
    (z:{ n:Int // ∀ ρ x,VR ρ y x→∃ t,x=.int n t }):aO (bD w p loose mean mg mb R0 [a,d,sp] lm) 0 σ g [x,y] (.b (shown (.row ts r b q) z.1)) σ:=fun f v tk xs Q ok S ⟨x',r,e1,h1,y',r',e2,h2,e3⟩ hq=>by
  obtain rfl:=Nat.eq_of_beq_eq_true hg
  obtain rfl:=Nat.eq_of_beq_eq_true hi
  subst e1 e2 hx
  obtain ⟨a',e,rfl⟩:=h1
  obtain rfl:a=a':=Option.some.inj ((az S.ini (i:=0) rfl).symm.trans e)
  obtain ⟨t,rfl⟩:=z.2 _ _ h2
  rw [show r'=[] from e3]
  exact bw (pF hk W S.fr ok.X ok.T S.new0 hO hT fun u h' tk' F' b=>hq _ (v.to h') tk' (List.prefix_refl _) .b (S.but F' b) rfl) ok (by show 890≤_+lm; exact lin (.c _ (.c _ (.c _ .z))) (.c (.a (.k 108) (.m 80 (.v 0))) (.v 1) (.c (.k 785) (.a (.v 2) (.m 80 (.v 0))) .z)) (.k 890) (.a (.v 2) (.v 1)) rfl (cr hl) (f5 _ _)) (by show 8900≤_+10*lm; exact lin (.c _ (.c _ (.c _ .z))) (.m 10 (.a (.k 108) (.m 80 (.v 0))) (.v 1) (.c (.k 7850) (.a (.v 2) (.m 800 (.v 0))) .z)) (.k 8900) (.a (.v 2) (.m 10 (.v 1))) rfl (cr hl) (f5 _ _))
noncomputable def pL {a d sp sd tx td ba:Addr} {b:Array UInt8} {i k:Int} {n g' l:Value} {ti tk u1 u2 u3 u4 w1 w2 w3:Tok} (hl:10≤lm)
    (m3:(sp,instObj 182 sd)∈R0) (m4:(sd,cK w.params (.ref tx) i k ti tk w1 w2 w3)∈R0) (m5:(tx,instObj 107 td)∈R0) (m6:(td,bc w.params (Str.ofString "octets") n (.ref ba) g' l u1 u2 u3 u4)∈R0) (m7:(ba,a8 b)∈R0) (hz:b.size≤100):oR (bD w p loose mean mg mb R0 [a,d,sp] lm):=fun g vs σ=>match vs with
  | [y]=>(ay (Nat.beq g 372)).bind fun hg=>(cI y).bind fun j=>(ay (Nat.beq j.1 2)).map fun hj=>⟨_,σ,rL hg.down j.2 hj.down hl m3 m4 m5 m6 m7 hz⟩
  | _=>none
noncomputable def vc {k:Nat} {a d sp:Addr} {ts:List Tr} {r b q:Bool} (hk:k<3) (W:a9 w k) (hl:lm=108+80*k) (hO:aW (k+1) (.row ts r b q)) (hT:al w.params R0 (.ref a) (.row ts r b q)):oR (bD w p loose mean mg mb R0 [a,d,sp] lm):=fun g vs σ=>match vs with
  | [x,y]=>(ay (Nat.beq g 411)).bind fun hg=>(cI x).bind fun j=>(ay (Nat.beq j.1 0)).bind fun hj=>(dr y).map fun z=>⟨_,σ,rN hg.down j.2 hj.down hk W hl hO hT z⟩
  | _=>none
end
theorem ng {w:World} {k:Nat} {p:Program} {loose:List Str} {mean:ExcName→Option Value} {mg mb:Str→Option Value} {s:Shared} {h₀:Heap} {L:Addr} {m:Str→Option Value} {R:List (Addr×Obj)}
    {v:Value} {t:Tr} {Q E:Value→Shared→Prop}
    (F:Fr h₀ L s.heap m) (X:(Mine.hd.heap_1 w.params).In h₀) (T:Top p loose mean mg mb h₀) (N:News h₀ L s.heap R) (hO:aW k t) (hT:al w.params R v t)
    (post:∀ u h' tk',Fr h₀ L h' m→But [] s.heap h'→Q (.bytes (kX t) u) { s with heap:=h',toks:=tk' }) :
    wpAny (model rw_on0273_01.row.prog w) (AR 800 8000) (call (.ref 406) [v]) Q E s:=by
  cases hT with
  | int m1 m2=>
    cases hO with | int hn=>
    exact aj (sp:=0) (lm:=10) (n:=30) (r:=fn406_1) (aN (Nat.le_refl _) bC) (by kernel_rfl) (by kernel_rfl) ⟨rfl,by decide,by decide⟩ F X T N m1 m2 (.z (h:=hn)) .i .nil post
  | real m1 m2=>
    cases hO with | real hn=>
    exact aj (sp:=0) (lm:=10) (n:=30) (r:=fn406_1) (aN (Nat.le_refl _) bC) (by kernel_rfl) (by kernel_rfl) ⟨rfl,by decide,by decide⟩ F X T N m1 m2 (.z (h:=hn)) .i .nil post
  | @bool _ _ b _ _ _ _ _ _ _ _ m1 m2=>
    cases b with
    | true=>exact aj (sp:=0) (lm:=10) (n:=30) (r:=fn406_1) (aN (Nat.le_refl _) bC) (by kernel_rfl) (by kernel_rfl) ⟨rfl,by decide,by decide⟩ F X T N m1 m2 .o .i .nil post
    | false=>exact aj (sp:=0) (lm:=10) (n:=30) (r:=fn406_1) (aN (Nat.le_refl _) bC) (by kernel_rfl) (by kernel_rfl) ⟨rfl,by decide,by decide⟩ F X T N m1 m2 .o .i .nil post
  | name m1 m2=>exact aj (sp:=0) (lm:=10) (n:=30) (r:=fn406_1) (aN (Nat.le_refl _) bC) (by kernel_rfl) (by kernel_rfl) ⟨rfl,by decide,by decide⟩ F X T N m1 m2 .b .i .nil post
  | op m1 m2=>exact aj (sp:=0) (lm:=10) (n:=30) (r:=fn406_1) (aN (Nat.le_refl _) bC) (by kernel_rfl) (by kernel_rfl) ⟨rfl,by decide,by decide⟩ F X T N m1 m2 .b .i .nil post
  | @word _ _ c _ _ _ _ _ _ _ _ _ m1 m2=>
    cases c with
    | mark=>exact aj (sp:=0) (k:=Wd.kind .mark) (lm:=10) (n:=30) (r:=fn406_1) (aN (Nat.le_refl _) bC) (by kernel_rfl) (by kernel_rfl) ⟨rfl,by decide,by decide⟩ F X T N m1 m2 .u .i .nil post
    | null=>exact aj (sp:=0) (k:=Wd.kind .null) (lm:=10) (n:=30) (r:=fn406_1) (aN (Nat.le_refl _) bC) (by kernel_rfl) (by kernel_rfl) ⟨rfl,by decide,by decide⟩ F X T N m1 m2 .u .i .nil post
    | dict=>exact aj (sp:=0) (k:=Wd.kind .dict) (lm:=10) (n:=30) (r:=fn406_1) (aN (Nat.le_refl _) bC) (by kernel_rfl) (by kernel_rfl) ⟨rfl,by decide,by decide⟩ F X T N m1 m2 .u .i .nil post
    | save=>exact aj (sp:=0) (k:=Wd.kind .save) (lm:=10) (n:=30) (r:=fn406_1) (aN (Nat.le_refl _) bC) (by kernel_rfl) (by kernel_rfl) ⟨rfl,by decide,by decide⟩ F X T N m1 m2 .u .i .nil post
    | fontid=>exact aj (sp:=0) (k:=Wd.kind .fontid) (lm:=10) (n:=30) (r:=fn406_1) (aN (Nat.le_refl _) bC) (by kernel_rfl) (by kernel_rfl) ⟨rfl,by decide,by decide⟩ F X T N m1 m2 .u .i .nil post
  | @str _ _ _ _ _ _ _ _ _ _ _ _ _ _ ac _ _ _ _ _ _ _ _ _ _ _ _ _ _ _ m1 m2 m3 m4 m5 m6 m7 hz=>
    cases hr:decide (2≤ac) with
    | true=>exact aj (lm:=10) (n:=30) (r:=fn406_1) (aN (Nat.le_refl _) (pL (Nat.le_refl _) m3 m4 m5 m6 m7 hz)) (by kernel_rfl) (by kernel_rfl) ⟨rfl,by decide,by decide⟩ F X T N m1 m2 (.s (i:=2) rfl) (.r (c:=2) (h:=hr)) .nil (by rw [hr] at post; exact post)
    | false=>exact aj (lm:=10) (n:=30) (r:=fn406_1) (aN (Nat.le_refl _) (pL (Nat.le_refl _) m3 m4 m5 m6 m7 hz)) (by kernel_rfl) (by kernel_rfl) ⟨rfl,by decide,by decide⟩ F X T N m1 m2 (.s (i:=2) rfl) (.r (c:=2) (h:=hr)) .nil (by rw [hr] at post; exact post)
  | @row _ _ _ _ _ _ _ q _ _ _ _ _ _ _ _ _ _ _ _ _ _ _ _ _ _ _ _ _ _ _ _ _ m1 m2 m3 m4 m5 m6 m7 hz hT=>
    cases q with
    | true=>exact aj (sp:=0) (k:=Str.ofString "packed") (lm:=10) (n:=30) (r:=fn406_1) (aN (Nat.le_refl _) bC) (by kernel_rfl) (by kernel_rfl) ⟨rfl,by decide,by decide⟩ F X T N m1 m2 .u .i .nil post
    | false=>exact aj (sp:=0) (k:=Str.ofString "array") (lm:=10) (n:=30) (r:=fn406_1) (aN (Nat.le_refl _) bC) (by kernel_rfl) (by kernel_rfl) ⟨rfl,by decide,by decide⟩ F X T N m1 m2 .u .i .nil post
theorem bg {k:Nat}:(AR (800 - 80*k) (8000 - 800*k)).depth+1+2*30+10≤890:=by show 800 - 80*k+61+10≤890; exact lin (.c _ .z) (.c (.v 0) (.k 800) .z) (.a (.a (.v 0) (.k 61)) (.k 10)) (.k 890) rfl (Nat.sub_le _ _)
theorem be {k:Nat}:(AR (800 - 80*k) (8000 - 800*k)).units+3+20*30+10*10≤8900:=by show 8000 - 800*k+603+100≤8900; exact lin (.c _ .z) (.c (.v 0) (.k 8000) .z) (.a (.a (.v 0) (.k 603)) (.k 100)) (.k 8900) rfl (Nat.sub_le _ _)
theorem cW {w:World} {k:Nat} (hk:k≤3) (IH:∀ j,k=j+1→a9 w j):a9 w k:=by
  intro p loose mean mg mb s h₀ L m R v t d td Q E F X T N hO hT post
  cases hT with
  | int m1 m2=>
    cases hO with | int hn=>
    exact aj (sp:=0) (lm:=10) (n:=30) (r:=fn419_2) (aN (Nat.le_refl _) bC) (by kernel_rfl) (by kernel_rfl) ⟨rfl,bg,be⟩ F X T N m1 m2 (.z (h:=hn)) .i (.cons .u .nil) post
  | real m1 m2=>
    cases hO with | real hn=>
    exact aj (sp:=0) (lm:=10) (n:=30) (r:=fn419_2) (aN (Nat.le_refl _) bC) (by kernel_rfl) (by kernel_rfl) ⟨rfl,bg,be⟩ F X T N m1 m2 (.z (h:=hn)) .i (.cons .u .nil) post
  | @bool _ _ b _ _ _ _ _ _ _ _ m1 m2=>
    cases b with
    | true=>exact aj (sp:=0) (lm:=10) (n:=30) (r:=fn419_2) (aN (Nat.le_refl _) bC) (by kernel_rfl) (by kernel_rfl) ⟨rfl,bg,be⟩ F X T N m1 m2 .o .i (.cons .u .nil) post
    | false=>exact aj (sp:=0) (lm:=10) (n:=30) (r:=fn419_2) (aN (Nat.le_refl _) bC) (by kernel_rfl) (by kernel_rfl) ⟨rfl,bg,be⟩ F X T N m1 m2 .o .i (.cons .u .nil) post
  | @name _ _ _ _ x _ _ _ _ _ _ _ m1 m2=>
    cases hO with | name hn=>
    cases x with
    | true=>exact aj (sp:=0) (lm:=10) (n:=30) (r:=fn419_2) (aN (Nat.le_refl _) bC) (by kernel_rfl) (by kernel_rfl) ⟨rfl,bg,be⟩ F X T N m1 m2 (.y (h:=hn)) .i (.cons .u .nil) post
    | false=>exact aj (sp:=0) (lm:=10) (n:=30) (r:=fn419_2) (aN (Nat.le_refl _) bC) (by kernel_rfl) (by kernel_rfl) ⟨rfl,bg,be⟩ F X T N m1 m2 (.y (h:=hn)) .i (.cons .u .nil) post
  | op m1 m2=>
    cases hO with | op hn=>
    exact aj (sp:=0) (lm:=10) (n:=30) (r:=fn419_2) (aN (Nat.le_refl _) bC) (by kernel_rfl) (by kernel_rfl) ⟨rfl,bg,be⟩ F X T N m1 m2 (.y (h:=hn)) .i (.cons .u .nil) post
  | @word _ _ c _ _ _ _ _ _ _ _ _ m1 m2=>
    cases c with
    | mark=>exact aj (sp:=0) (k:=Wd.kind .mark) (lm:=10) (n:=30) (r:=fn419_2) (aN (Nat.le_refl _) bC) (by kernel_rfl) (by kernel_rfl) ⟨rfl,bg,be⟩ F X T N m1 m2 .u .i (.cons .u .nil) post
    | null=>exact aj (sp:=0) (k:=Wd.kind .null) (lm:=10) (n:=30) (r:=fn419_2) (aN (Nat.le_refl _) bC) (by kernel_rfl) (by kernel_rfl) ⟨rfl,bg,be⟩ F X T N m1 m2 .u .i (.cons .u .nil) post
    | dict=>exact aj (sp:=0) (k:=Wd.kind .dict) (lm:=10) (n:=30) (r:=fn419_2) (aN (Nat.le_refl _) bC) (by kernel_rfl) (by kernel_rfl) ⟨rfl,bg,be⟩ F X T N m1 m2 .u .i (.cons .u .nil) post
    | save=>exact aj (sp:=0) (k:=Wd.kind .save) (lm:=10) (n:=30) (r:=fn419_2) (aN (Nat.le_refl _) bC) (by kernel_rfl) (by kernel_rfl) ⟨rfl,bg,be⟩ F X T N m1 m2 .u .i (.cons .u .nil) post
    | fontid=>exact aj (sp:=0) (k:=Wd.kind .fontid) (lm:=10) (n:=30) (r:=fn419_2) (aN (Nat.le_refl _) bC) (by kernel_rfl) (by kernel_rfl) ⟨rfl,bg,be⟩ F X T N m1 m2 .u .i (.cons .u .nil) post
  | @str _ _ _ _ _ _ _ _ _ _ _ _ _ _ ac _ _ _ _ _ _ _ _ _ _ _ _ _ _ _ m1 m2 m3 m4 m5 m6 m7 hz=>
    cases hr:decide (2≤ac) with
    | true=>exact aj (lm:=10) (n:=30) (r:=fn419_2) (aN (Nat.le_refl _) (pL (Nat.le_refl _) m3 m4 m5 m6 m7 hz)) (by kernel_rfl) (by kernel_rfl) ⟨rfl,bg,be⟩ F X T N m1 m2 (.s (i:=2) rfl) (.r (c:=2) (h:=hr)) (.cons .u .nil) (by rw [hr] at post; exact post)
    | false=>exact aj (lm:=10) (n:=30) (r:=fn419_2) (aN (Nat.le_refl _) (pL (Nat.le_refl _) m3 m4 m5 m6 m7 hz)) (by kernel_rfl) (by kernel_rfl) ⟨rfl,bg,be⟩ F X T N m1 m2 (.s (i:=2) rfl) (.r (c:=2) (h:=hr)) (.cons .u .nil) (by rw [hr] at post; exact post)
  | @row _ _ _ _ _ _ _ q _ _ _ _ _ _ _ _ _ _ _ _ _ _ _ _ _ _ _ _ _ _ _ _ _ m1 m2 m3 m4 m5 m6 m7 hz hT=>
    have hT0:=al.row m1 m2 m3 m4 m5 m6 m7 hz hT
    have hO0:=hO
    cases hO with | @row j _ _ _ _ hl hO=>
    cases q with
    | true=>exact aj (sp:=0) (k:=Str.ofString "packed") (lm:=(108+80*j)) (n:=30) (r:=fn419_2) (aN (by show 10≤108+80*j; exact lin (.c _ .z) .z (.k 10) (.a (.k 108) (.m 80 (.v 0))) rfl ) (vc (by exact lin (.c _ .z) (.c (.a (.v 0) (.k 1)) (.k 3) .z) (.a (.v 0) (.k 1)) (.k 3) rfl hk) (IH j rfl) rfl hO0 hT0)) (by kernel_rfl) (by kernel_rfl) ⟨rfl,by show 800 - 80*(j+1)+1+2*30+(108+80*j)≤890; exact lin (.c _ (.c _ .z)) (.c (.a (.v 1) (.m 80 (.a (.v 0) (.k 1)))) (.k 800) .z) (.a (.a (.a (.v 1) (.k 1)) (.m 2 (.k 30))) (.a (.k 108) (.m 80 (.v 0)))) (.k 890) rfl (eC (lin (.c _ .z) (.m 80 (.a (.v 0) (.k 1)) (.k 3) .z) (.m 80 (.a (.v 0) (.k 1))) (.k 800) rfl hk)),by show 8000 - 800*(j+1)+3+20*30+10*(108+80*j)≤8900; exact lin (.c _ (.c _ .z)) (.c (.a (.v 1) (.m 800 (.a (.v 0) (.k 1)))) (.k 8000) .z) (.a (.a (.a (.v 1) (.k 3)) (.m 20 (.k 30))) (.m 10 (.a (.k 108) (.m 80 (.v 0))))) (.k 8900) rfl (eC (lin (.c _ .z) (.m 800 (.a (.v 0) (.k 1)) (.k 3) .z) (.m 800 (.a (.v 0) (.k 1))) (.k 8000) rfl hk))⟩ F X T N m1 m2 .u .u (.cons .i .nil) post
    | false=>exact aj (sp:=0) (k:=Str.ofString "array") (lm:=(108+80*j)) (n:=30) (r:=fn419_2) (aN (by show 10≤108+80*j; exact lin (.c _ .z) .z (.k 10) (.a (.k 108) (.m 80 (.v 0))) rfl ) (vc (by exact lin (.c _ .z) (.c (.a (.v 0) (.k 1)) (.k 3) .z) (.a (.v 0) (.k 1)) (.k 3) rfl hk) (IH j rfl) rfl hO0 hT0)) (by kernel_rfl) (by kernel_rfl) ⟨rfl,by show 800 - 80*(j+1)+1+2*30+(108+80*j)≤890; exact lin (.c _ (.c _ .z)) (.c (.a (.v 1) (.m 80 (.a (.v 0) (.k 1)))) (.k 800) .z) (.a (.a (.a (.v 1) (.k 1)) (.m 2 (.k 30))) (.a (.k 108) (.m 80 (.v 0)))) (.k 890) rfl (eC (lin (.c _ .z) (.m 80 (.a (.v 0) (.k 1)) (.k 3) .z) (.m 80 (.a (.v 0) (.k 1))) (.k 800) rfl hk)),by show 8000 - 800*(j+1)+3+20*30+10*(108+80*j)≤8900; exact lin (.c _ (.c _ .z)) (.c (.a (.v 1) (.m 800 (.a (.v 0) (.k 1)))) (.k 8000) .z) (.a (.a (.a (.v 1) (.k 3)) (.m 20 (.k 30))) (.m 10 (.a (.k 108) (.m 80 (.v 0))))) (.k 8900) rfl (eC (lin (.c _ .z) (.m 800 (.a (.v 0) (.k 1)) (.k 3) .z) (.m 800 (.a (.v 0) (.k 1))) (.k 8000) rfl hk))⟩ F X T N m1 m2 .u .u (.cons .i .nil) post
theorem eS (w:World):∀ k,k≤3→a9 w k
  | 0,h=>cW h fun j e=>absurd e (by exact fun q=>pX (.c _ .z) (.c (.a (.v 0) (.k 1)) (.k 0) .z) rfl (cr e))
  | k+1,h=>cW h fun j e=>by
    obtain rfl:k=j:=by exact Nat.le_antisymm (lin (.c _ (.c _ .z)) (.c (.a (.v 0) (.k 1)) (.a (.v 1) (.k 1)) .z) (.v 0) (.v 1) rfl (cb e)) (lin (.c _ (.c _ .z)) (.c (.a (.v 1) (.k 1)) (.a (.v 0) (.k 1)) .z) (.v 1) (.v 0) rfl (cr e))
    exact eS w k (by exact lin (.c _ .z) (.c (.a (.v 0) (.k 1)) (.k 3) .z) (.v 0) (.k 3) rfl h)
end
end
section
set_option backward.match.sparseCases false
noncomputable def sL:PySem.Expr:=match List.drop 11 fn777_3.body with
  | [.Return (some (.Tuple [_,.Tuple [_,e] _ _] _ _)) _]=>e
  | _=>.Tuple [] 0 default
theorem sn {w:World} {p:Program} {loose:List Str} {mean:ExcName→Option Value} {mg mb:Str→Option Value} {s:Shared} {h₀:Heap} {L:Addr} {m:Str→Option Value} {R:List (Addr×Obj)}
    {n:Int} {t:Tok} {Q:Value→Shared→Prop} {E:Value→Shared→Prop} (F:Fr h₀ L s.heap m) (X:(Mine.hd.heap_1 w.params).In h₀) (T:Top p loose mean mg mb h₀) (N:News h₀ L s.heap R) (hm:m (Str.ofString "number")=some (.int n t)) (hn:n.natAbs≤2000000)
    (post:∀ u h' tk',Fr h₀ L h' m→News h₀ L h' R→Q (.bytes (byteArr (aM n)) u) { s with heap:=h',toks:=tk' }) :
    wpAny (model rw_on0273_01.row.prog w) (AR 800 8000) (eval sL (aa fn777_3 L)) Q E s:=by
  have mk4:Mk 4:=⟨⟩
  k_with "eval ListComp"=>((with_reducible rename Mk 4=>mk4); refine bM ?_)
  k_with "eval Name"=>((with_reducible rename Mk 4=>mk4); (refine dj (by assumption) hm ?_ (by with_unfolding_all rfl)))
  show wpAny _ _ (eval (PySem.Expr.Call (.Name _ _) [_] [] _) _) _ _ _
  k_steps
  unfold bO
  (with_reducible rename Fr _ _ _ _=>lF)
  refine eX lF rfl (by decide) rfl (by decide) rfl ?_ (by intro _; rfl)
  k_steps
  unfold bO
  (with_reducible rename Sg _ _=>hS)
  have hFl:=a6 hn
  have hFi:=b6 n
  have hFz:=hS.len
  unfold PySem.Str.length at hFz
  refine ⟨_,_,_,rfl,trivial,by assumption,by assumption,by rw [hFz,sizeLine_eq]; exact lin (.c _ .z) (.c (.v 0) (.k 9) .z) (.v 0) (.k 16777216) rfl hFl,fun g=>?_⟩
  rw [hFz]
  suffices rest:∀ k i ys,i+k=(aM n).length→IntsAre ys ((aM n).take i)→LCg.CompRest _ _ _ _ _ _ _ _ _ _ _ _ _ _ _ k i ys _ from rest (aM n).length 0 [] (by exact Nat.le_antisymm (lin (.c _ .z) .z (.a (.k 0) (.v 0)) (.v 0) rfl ) (lin (.c _ .z) .z (.v 0) (.a (.k 0) (.v 0)) rfl )) .nil
  intro k
  induction k with
  | zero=>
    intro i ys hi hys
    refine LCg.CompRest.zero ?_
    intro D h tk FD ND offD
    rw [List.take_of_length_le (by exact lin (.c _ (.c _ .z)) (.c (.v 0) (.a (.v 1) (.k 0)) .z) (.v 0) (.v 1) rfl (cr hi))] at hys
    k_steps
    (with_reducible rename News _ _ _ _=>lN)
    exact post _ _ _ (by assumption) (ag lN (fun p hp=>by first | exact hp | exact .tail _ hp | exact .tail _ (.tail _ hp)))
  | succ k ih=>
    intro i ys hi hys
    refine LCg.CompRest.succ fun v I oI C oC D m₂ h tk E' hP hoC hm₂ FC NC off hne=>?_
    obtain ⟨c,u,hc,rfl⟩:=hS.sign hP
    have hc0:0≤c:=(hFi c (List.mem_of_getElem? hc)).1
    k_steps
    refine LCg.CompEnd.intro FC NC _ (fun p hp=>hp) off trivial ?_
    exact ih _ _ (by exact Nat.le_antisymm (lin (.c _ (.c _ (.c _ .z))) (.c (.a (.v 1) (.a (.v 2) (.k 1))) (.v 0) .z) (.a (.a (.v 1) (.k 1)) (.v 2)) (.v 0) rfl (cb hi)) (lin (.c _ (.c _ (.c _ .z))) (.c (.v 0) (.a (.v 1) (.a (.v 2) (.k 1))) .z) (.v 0) (.a (.a (.v 1) (.k 1)) (.v 2)) rfl (cr hi))) (cu hys hc hc0)
end
section
noncomputable section
section
variable {c:Ct} {n:Nat} {r:FnR} {σ σ1 σ2 σ3:Sy}
structure EJ (c:Ct) (n:Nat) (r:FnR) (e:PySem.Expr) (σ:Sy) (u:SV) (σ':Sy):Prop where
  j:af c n σ (fun L=>eval e (aa r L)) (fun ρ x=>VR ρ u x) σ'
structure TJ (c:Ct) (n:Nat) (r:FnR) (e:PySem.Expr) (σ:Sy) (b:Bool) (σ':Sy):Prop where
  j:af c n σ (fun L=>isTrue e (aa r L) (eval e (aa r L))) (fun _ x=>x=b) σ'
theorem EJ.of {e:PySem.Expr} {u:SV} {o:Option (CE c n r e σ)} (h:o.map (fun q=>(q.v,q.σ'))=some (u,σ1)):EJ c n r e σ u σ1:=by
  obtain ⟨⟨v,σ2,j⟩,_,e⟩:=Option.map_eq_some_iff.mp h
  cases e
  exact ⟨j⟩
theorem TJ.of {e:PySem.Expr} {b:Bool} {o:Option (CT c n r e σ)} (h:o.map (fun q=>(q.b,q.σ'))=some (b,σ1)):TJ c n r e σ b σ1:=⟨po h⟩
theorem SJ.ifN {t:PySem.Expr} {x y rest:List Stmt} {ps:Pos} {b:Bool} {res:Option SV} (h1:TJ c n r t σ b σ1) (h2:SJ c n r (cond b x y) σ1 none σ2) (h3:SJ c n r rest σ2 res σ3):SJ c n r (.If t x y ps::rest) σ res σ3:=⟨oY h1.j h2.j h3.j⟩
theorem SJ.ret {e:PySem.Expr} {ps:Pos} {u:SV} {rest:List Stmt} (h:EJ c n r e σ u σ1):SJ c n r (.Return (some e) ps::rest) σ (some u) σ1:=⟨ny h.j⟩
theorem SJ.nil:SJ c n r [] σ none σ:=⟨oV⟩
theorem TJ.or0 {x:PySem.Expr} {xs:List PySem.Expr} {ps:Pos} {b:Bool} (h1:TJ c n r x σ false σ1) (h2:TJ c n r (.BoolOp .Or xs ps) σ1 b σ2):TJ c n r (.BoolOp .Or (x::xs) ps) σ b σ2:=⟨kQ h1.j h2.j⟩
theorem TJ.orn {ps:Pos}:TJ c n r (.BoolOp .Or [] ps) σ false σ:=⟨wo⟩
theorem TJ.and1 {x:PySem.Expr} {xs:List PySem.Expr} {ps:Pos} {b:Bool} (h1:TJ c n r x σ true σ1) (h2:TJ c n r (.BoolOp .And xs ps) σ1 b σ2):TJ c n r (.BoolOp .And (x::xs) ps) σ b σ2:=⟨qG h1.j h2.j⟩
theorem TJ.and0 {x:PySem.Expr} {xs:List PySem.Expr} {ps:Pos} (h1:TJ c n r x σ false σ1):TJ c n r (.BoolOp .And (x::xs) ps) σ false σ1:=⟨re h1.j⟩
theorem qr {o:Array UInt8}:ej c .NotEq (.b o) (.b o) false:=fun ha hb hq=>by
  obtain ⟨_,rfl⟩:=ha
  obtain ⟨_,rfl⟩:=hb
  exact ne_bytes (by rw [bne_self_eq_false]; exact hq)
theorem qb {o:Array UInt8}:ej c .Eq (.b o) (.b o) true:=fun ha hb hq=>by
  obtain ⟨_,rfl⟩:=ha
  obtain ⟨_,rfl⟩:=hb
  exact eq_bytes (by rw [beq_self_eq_true]; exact hq)
theorem TJ.ne_b {x y:PySem.Expr} {ps:Pos} {o:Array UInt8} (h1:EJ c n r x σ (.b o) σ1) (h2:EJ c n r y σ1 (.b o) σ2) (hm:behindInMarks .NotEq y=false):TJ c n r (.Compare x [.NotEq] [y] ps) σ false σ2:=
  ⟨ke h1.j h2.j (iA qr) hm⟩
theorem EJ.eq_b {x y:PySem.Expr} {ps:Pos} {o:Array UInt8} (h1:EJ c n r x σ (.b o) σ1) (h2:EJ c n r y σ1 (.b o) σ2) (hm:behindInMarks .Eq y=false):EJ c n r (.Compare x [.Eq] [y] ps) σ (.o true) σ2:=
  ⟨lE h1.j h2.j (iA qb) hm⟩
end
section
variable {w:World} {p:Program} {loose:List Str} {mean:ExcName→Option Value} {mg mb:Str→Option Value} {R:List (Addr×Obj)} {ρ0:List Addr} {lm:Nat} {σ:Sy}
noncomputable def nL (w:World) (p:Program) (loose:List Str) (mean:ExcName→Option Value) (mg mb:Str→Option Value) (R:List (Addr×Obj)) (g:Addr) (xs:Tok→List Value) (o:Array UInt8):Prop:=
  ∀ {s:Shared} {h₀:Heap} {L:Addr} {m:Str→Option Value} {td:Tok} {Q E:Value→Shared→Prop},Fr h₀ L s.heap m→(Mine.hd.heap_1 w.params).In h₀→Top p loose mean mg mb h₀→News h₀ L s.heap R→(∀ u h' tk',Fr h₀ L h' m→But [] s.heap h'→Q (.bytes o u) { s with heap:=h',toks:=tk' })→wpAny (model PG w) (AR 560 5600) (call (.ref g) (xs td)) Q E s
theorem fj {g a:Addr} {i:Nat} {o:Array UInt8} {x:SV} (hx:x=.s i) (hi:ρ0[i]?=some a) (hl:330≤lm) (K:nL w p loose mean mg mb R g (fun z_=>[.ref a]) o):aO (bD w p loose mean mg mb R ρ0 lm) 0 σ g [x] (.b o) σ:=fun f v tk xs Q ok S ⟨x',r,e1,h1,h2⟩ hq=>by
  subst e1 hx
  obtain ⟨a',e,rfl⟩:=h1
  obtain rfl:a=a':=Option.some.inj ((az S.ini hi).symm.trans e)
  rw [show r=[] from h2]
  have hR:v.R1=R:=S.wp
  exact bw (K (td:=0) S.fr ok.X ok.T (ag S.nw fun p hp=>List.mem_append_right _ (hR.symm▸hp)) fun u h' tk' F' b=>hq _ (v.to h') tk' (List.prefix_refl _) .b (S.but F' b) rfl) ok (Nat.add_le_add_left hl 560) (Nat.add_le_add_left (Nat.mul_le_mul_left 10 hl) 5600)
theorem d9 {g a:Addr} {i:Nat} {o:Array UInt8} {x y:SV} (hx:x=.s i) (hi:ρ0[i]?=some a) (z:{ n:Int // ∀ ρ x,VR ρ y x→∃ t,x=.int n t }) (hl:330≤lm) (K:nL w p loose mean mg mb R g (fun td=>[.ref a,.int z.1 td]) o):aO (bD w p loose mean mg mb R ρ0 lm) 0 σ g [x,y] (.b o) σ:=fun f v tk xs Q ok S ⟨x',r,e1,h1,y',r',e2,h2,h3⟩ hq=>by
  subst e1 e2 hx
  obtain ⟨a',e,rfl⟩:=h1
  obtain ⟨t,rfl⟩:=z.2 _ _ h2
  obtain rfl:a=a':=Option.some.inj ((az S.ini hi).symm.trans e)
  rw [show r'=[] from h3]
  have hR:v.R1=R:=S.wp
  exact bw (K S.fr ok.X ok.T (ag S.nw fun p hp=>List.mem_append_right _ (hR.symm▸hp)) fun u h' tk' F' b=>hq _ (v.to h') tk' (List.prefix_refl _) .b (S.but F' b) rfl) ok (Nat.add_le_add_left hl 560) (Nat.add_le_add_left (Nat.mul_le_mul_left 10 hl) 5600)
structure dT (w:World) (R:List (Addr×Obj)) (made tree:Addr) (t:Tr):Prop where
  hO:aW 3 t
  th:al w.params R (.ref made) t
  tr:aA R (.ref tree) t
noncomputable def tY {made tree:Addr} {t:Tr} (H:dT w R made tree t) (h0:ρ0[0]?=some made) (h1:ρ0[1]?=some tree) (hl:330≤lm) (g:Addr) (vs:List SV) (σ:Sy):Option (CC (bD w p loose mean mg mb R ρ0 lm) 0 g vs σ):=match vs with
  | [x,y]=>(cI x).bind fun i=>(dr y).bind fun z=>(ay (Nat.beq g 419&&Nat.beq i.1 0)).elim
    ((ay (Nat.beq g 794&&Nat.beq i.1 1)).map fun h=>⟨.b (shown t z.1),σ,by
      obtain ⟨k1,k2⟩:=bA.mp h.down
      rw [Nat.eq_of_beq_eq_true k1]
      exact d9 i.2 ((Nat.eq_of_beq_eq_true k2).symm▸h1) z hl fun F X T N post=>gF w 3 (Nat.le_refl 3) F X T N H.hO H.tr post⟩)
    fun h=>some ⟨.b (shown t z.1),σ,by
      obtain ⟨k1,k2⟩:=bA.mp h.down
      rw [Nat.eq_of_beq_eq_true k1]
      exact d9 i.2 ((Nat.eq_of_beq_eq_true k2).symm▸h0) z hl fun F X T N post=>eS w 3 (Nat.le_refl 3) F X T N H.hO H.th post⟩
  | [x]=>(cI x).bind fun i=>(ay (Nat.beq g 406&&Nat.beq i.1 0)).elim
    ((ay (Nat.beq g 801&&Nat.beq i.1 1)).map fun h=>⟨.b (kX t),σ,by
      obtain ⟨k1,k2⟩:=bA.mp h.down
      rw [Nat.eq_of_beq_eq_true k1]
      exact fj i.2 ((Nat.eq_of_beq_eq_true k2).symm▸h1) hl fun F X T N post=>aH (A':=AR 800 8000) (mM F X T N H.hO H.tr post) rfl (by decide) rfl rfl (by decide)⟩)
    fun h=>some ⟨.b (kX t),σ,by
      obtain ⟨k1,k2⟩:=bA.mp h.down
      rw [Nat.eq_of_beq_eq_true k1]
      exact fj i.2 ((Nat.eq_of_beq_eq_true k2).symm▸h0) hl fun F X T N post=>aH (A':=AR 800 8000) (ng F X T N H.hO H.th post) rfl (by decide) rfl rfl (by decide)⟩
  | _=>none
noncomputable def uZ {made tree:Addr} {t:Tr} (H:dT w R made tree t) (h0:ρ0[0]?=some made) (h1:ρ0[1]?=some tree) (hl:330≤lm) (more:oR (bD w p loose mean mg mb R ρ0 lm)):oR (bD w p loose mean mg mb R ρ0 lm):=fun g vs σ=>(tY H h0 h1 hl g vs σ).elim (more g vs σ) some
end
end
end
section
noncomputable section
noncomputable def fn806_1:FnR:=⟨806,[.ofString "script"],[],Y.dB (Y.d 77),Y.dS (Y.d 77),.ofString "law",[]⟩
noncomputable def L3:List Stmt:=List.drop 3 fn806_1.body
noncomputable def jV:List Str:=[.ofString "plain",.ofString "real",.ofString "name",.ofString "operator",.ofString "word",.ofString "string"]
noncomputable def uQ (d:Int) (vt:List SV):Sy:=⟨[(.ofString "depth",.i d),(.ofString "made",.s 0),(.ofString "tree",.s 1)],[],[(1,.T vt)],2,[]⟩
noncomputable def fe (d:Int) (vt:List SV):Sy:=⟨[(.ofString "depth",.i d),(.ofString "made",.s 0),(.ofString "tree",.s 1),(.ofString "held",.s 2)],[(2,.L [])],[(1,.T vt)],3,[]⟩
noncomputable def rV {c:Ct} {n:Nat} {r:FnR} {ss:List Stmt} {σ:Sy} (o:Option (CS c n r ss σ)):Option (Option SV×Sy):=o.map fun q=>(q.res,q.σ')
section
variable {w:World} {p:Program} {loose:List Str} {mean:ExcName→Option Value} {mg mb:Str→Option Value} {R:List (Addr×Obj)} {made tree:Addr} {t:Tr} {d:Int} {us:List SV}
noncomputable abbrev gi (p:Program) (loose:List Str) (mean:ExcName→Option Value) (mg mb:Str→Option Value) (H:dT w R made tree t):ie (bD w p loose mean mg mb R [made,tree] 330) 10:=cR (uZ H rfl rfl (Nat.le_refl _) bC) iL 20 10
theorem lV (H:dT w R made tree t):(jV.map fun k=>rV ((gi p loose mean mg mb H).S fn806_1 (L3.take 1) (uQ d (.t k::us))))=jV.map fun k=>some (none,fe d (.t k::us)):=by kernel_rfl
theorem oo (H:dT w R made tree t):(jV.map fun k=>rV ((gi p loose mean mg mb H).S fn806_1 ((L3.drop 2).take 1) (fe d (.t k::us))))=jV.map fun k=>some (none,fe d (.t k::us)):=by kernel_rfl
theorem sD {k:Str} (H:dT w R made tree t) (hk:k∈jV):SJ (bD w p loose mean mg mb R [made,tree] 330) 10 fn806_1 L3 (uQ d (.t k::us)) (some (.o true)) (fe d (.t k::us)):=
  SJ.split 1 (SJ.ok (List.map_inj_left.mp (lV (d:=d) (us:=us) H) k hk)) (SJ.ifN (b:=false) (TJ.or0 (TJ.ne_b (o:=shown t d) (EJ.of (σ1:=fe d (.t k::us)) (o:=(gi p loose mean mg mb H).E fn806_1 _ _) (by kernel_rfl)) (EJ.of (σ1:=fe d (.t k::us)) (o:=(gi p loose mean mg mb H).E fn806_1 _ _) (by kernel_rfl)) rfl) (TJ.or0 (TJ.ne_b (o:=kX t) (EJ.of (σ1:=fe d (.t k::us)) (o:=(gi p loose mean mg mb H).E fn806_1 _ _) (by kernel_rfl)) (EJ.of (σ1:=fe d (.t k::us)) (o:=(gi p loose mean mg mb H).E fn806_1 _ _) (by kernel_rfl)) rfl) TJ.orn)) SJ.nil
    (SJ.split 1 (SJ.ok (List.map_inj_left.mp (oo (d:=d) (us:=us) H) k hk)) (SJ.ret (EJ.eq_b (o:=shown t 9) (EJ.of (σ1:=fe d (.t k::us)) (o:=(gi p loose mean mg mb H).E fn806_1 _ _) (by kernel_rfl)) (EJ.of (σ1:=fe d (.t k::us)) (o:=(gi p loose mean mg mb H).E fn806_1 _ _) (by kernel_rfl)) rfl))))
end
end
end
section
section
open LCg
variable {prog:Program} {w:World} {A:Around} {E:Value→Shared→Prop} {h₀:Heap} {L:Addr} {m:Str→Option Value} {env:Env}
theorem tK {α:Type} {G:Prop} (a:α) (k:∀ b,b=a→G):G:=k a rfl
theorem lg {elt iter test:PySem.Expr} {x x₂:Str} {px px₂ tp:Pos} {tk:Nat} {scope:Scope} {cl:List (Str×Addr)} {pos:Pos} {s₂:Shared} {I:Addr} {fp wr:List Addr} {n:Nat} {Md:Nat→Value→Heap→Prop} {St:Nat→Heap→Prop} {news:List (Addr×Obj)} {RR:Value→Addr→Result→Shared→Prop}
    (W:KTurns prog w A (.Tuple [.Name x px,.Name x₂ px₂] tk tp) I fp wr n (fun _ v h=>∃ T r,v=.ref T∧h.IsTuple T #[.ref r,.ref r]) Md St)
    (self:∀ i (s:Shared) (Q:Value→Shared→Prop) (E:Value→Shared→Prop),St i s.heap→Q (.ref I) s→wpAny (model prog w) A (pyIter (.ref I)) Q E s)
    (hh:A.handled=none) (hcell:∀ y∈scope.names,y.2≠.cell) (hkind:scope.kind=.function) (hx:scope.names.lookup x=some .local) (hx₂:scope.names.lookup x₂=some .local) (hxx:x≠x₂)
    (hst:St 0 s₂.heap) (hfp:∀ b∈fp,b<s₂.heap.objs.size) (F:Fr h₀ L s₂.heap m) (N:News h₀ L s₂.heap news) (hLw:L ∉ wr) (hw:∀ b∈wr,h₀.get? b=none) (off:∀ p∈news,p.1 ∉ wr)
    (htest:∀ C m₂ h tk r (Q:Bool→Shared→Prop) (E:Value→Shared→Prop),h.Ns C m₂→m₂ x=some (.ref r)→m₂ x₂=some (.ref r)→Q false { s₂ with heap:=h,toks:=tk }→wpAny (model prog w) A (isTrue test (compEnvC scope cl C env) (eval test (compEnvC scope cl C env))) Q E { s₂ with heap:=h,toks:=tk })
    (hRR:∀ D C h tk m',Fr h₀ L h m→News h₀ L h ((D,lst [])::news)→h.Ns C m'→h₀.get? C=none→C≠L→C≠D→(∀ p∈news,p.1≠C)→RR (.ref D) C (.ok .next) { s₂ with heap:=h,toks:=tk }) :
    wpAny (model prog w) A (newList []) (fun acc s₃=>wpAny (model prog w) A (newFunctionEnv scope env.globals cl [] env.qual none .none (some env)) (fun cenv s₄=>
      codeAny (model prog w) A (.compStart (.ListComp elt [⟨.Tuple [.Name x px,.Name x₂ px₂] tk tp,iter,[test],0⟩] scope pos) 0 (.ref I) acc { cenv with scope:=relabel scope env }) (RR acc cenv.locals) s₄) E s₃) E s₂:=by
  refine wpAny_newObj_type (wpAny_newFunctionEnv hcell (by intro y hy; simp at hy) (fun h₁ hns₁ hsb₁=>?_) hkind)
  dsimp only at hns₁ hsb₁ ⊢
  refine tK (s₂.heap.push { cls:=.type "list",dict:=none,data:=.seq ([]:List Value).toArray }) fun H2 hH2=>?_
  rw [← hH2] at hns₁ hsb₁ ⊢
  have hC:H2.objs.size=s₂.heap.objs.size+1:=by rw [hH2,Heap.size_push]
  have hDC:s₂.heap.objs.size≠H2.objs.size:=by rw [hC]; exact Nat.ne_of_lt (Nat.lt_succ_self _)
  have below:∀ b,b<s₂.heap.objs.size→b≠H2.objs.size∧b≠s₂.heap.objs.size:=fun b hb=>⟨by rw [hC]; exact Nat.ne_of_lt (Nat.lt_succ_of_lt hb),Nat.ne_of_lt hb⟩
  have hDf:s₂.heap.objs.size ∉ fp:=fun hm=>Nat.lt_irrefl _ (hfp _ hm)
  have hCf:H2.objs.size ∉ fp:=fun hm=>by have:=hfp _ hm; rw [hC] at this; exact Nat.lt_irrefl _ (Nat.lt_of_succ_lt this)
  have old:∀ b o,s₂.heap.get? b=some o→h₁.get? b=some o:=fun b o e=>hsb₁.extBut b o (below b (Heap.lt_size e)).1 (Heap.get?_push_of_some _ (by rw [hH2]; exact Heap.get?_push_of_some _ e))
  have hacc:h₁.get? s₂.heap.objs.size=some (lst []):=hsb₁.extBut _ _ hDC (Heap.get?_push_of_some _ (by rw [hH2]; exact Heap.get?_push_size _ rfl))
  have hst₁:St 0 h₁:=W.frame _ _ _ hst fun b _ o e=>old b o e
  have fresh₀:∀ a,s₂.heap.objs.size≤a→h₀.get? a=none:=fun a ha=>by
    cases e:h₀.get? a with
    | none=>rfl
    | some o'=>exact absurd (Heap.lt_size (F.keep a o' e)) (Nat.not_lt.mpr ha)
  have hD₀:h₀.get? s₂.heap.objs.size=none:=fresh₀ _ (Nat.le_refl _)
  have hC₀:h₀.get? H2.objs.size=none:=fresh₀ _ (by rw [hC]; exact Nat.le_succ _)
  have hLlt:L<s₂.heap.objs.size:=F.ns.lt
  have hDL:s₂.heap.objs.size≠L:=Ne.symm (below L hLlt).2
  have hCL:H2.objs.size≠L:=Ne.symm (below L hLlt).1
  have offC:∀ p∈news,p.1≠H2.objs.size:=fun p hp=>(below _ (Heap.lt_size (N p hp).1)).1
  have turned:∀ {h h':Heap},Fr h₀ L h m→News h₀ L h ((s₂.heap.objs.size,lst [])::news)→(∀ b o,b ∉ wr→h.get? b=some o→h'.get? b=some o)→Fr h₀ L h' m∧News h₀ L h' ((s₂.heap.objs.size,lst [])::news):=fun {h h'} F' N' hk=>
    ⟨⟨F'.ns.at' fun o e=>hk L o hLw e,fun b o e=>hk b o (fun hm=>by rw [hw b hm] at e; cases e) (F'.keep b o e),F'.above⟩,fun p hp=>⟨hk _ _ (by
      rcases List.mem_cons.mp hp with rfl | hp
      · exact fun hm=>hDf (W.sub _ hm)
      · exact off p hp) (N' p hp).1,(N' p hp).2⟩⟩
  have loop:∀ s₃:Shared,s₃={ s₂ with heap:=h₁,toks:=s₂.toks+([]:List (Str×Value)).length }→
      codeAny (model prog w) A (.compLoop (.ListComp elt [⟨.Tuple [.Name x px,.Name x₂ px₂] tk tp,iter,[test],0⟩] scope pos) 0 (.ref I) (.ref s₂.heap.objs.size) (compEnvC scope cl H2.objs.size env)) (RR (.ref s₂.heap.objs.size) H2.objs.size) s₃:=by
    rintro s₃ rfl
    refine codeAny_loop rfl (fun k s'=>∃ h' tk i m',s'={ s₂ with heap:=h',toks:=tk }∧i≤n∧k=n+1 - i∧St i h'∧Fr h₀ L h' m∧h'.Ns H2.objs.size m'∧News h₀ L h' ((s₂.heap.objs.size,lst [])::news)) ?_ (n+1)
      ⟨h₁,_,0,_,rfl,Nat.zero_le _,rfl,hst₁,F.keeps old,hns₁,fun p hp=>?_⟩
    · rintro k s' ⟨h',tk,i,m',rfl,hi,rfl,hst',F',hn',N'⟩
      refine wpAny_noted ?_
      rw [compTurn_list]
      refine wpAny_bind (wpAny_standAt (wpAny_bind ?_))
      by_cases hlt:i<n
      · refine W.item i _ _ _ hlt hst' fun v h₂ tk₂ hMd hk₂=>?_
        refine wpAny_bind (W.go i v _ _ _ hMd fun h₃ hP hst₃ hk₃=>?_)
        obtain ⟨T,r,rfl,hT⟩:=hP
        have hCw:H2.objs.size ∉ wr:=fun hm=>hCf (W.sub _ hm)
        have q0:=turned F' N' hk₂
        have F₂:=q0.1
        have N₂:=q0.2
        have q0:=turned F₂ N₂ hk₃
        have F₃:=q0.1
        have N₃:=q0.2
        have hn₃:=(hn'.at' fun o e=>hk₂ _ o hCw e).at' fun o e=>hk₃ _ o hCw e
        refine wpAny_bind (assign_Tuple_tuple hh hT rfl rfl fun h₅ he=>?_)
        have he':∀ b o,h₃.get? b=some o→h₅.get? b=some o:=fun b o e=>he b o (Nat.ne_of_lt (Heap.lt_size e)) e
        refine assignInOrder_cons (wpAny_assign_Name (wpAny_storeName_local (lookup_relabel_local hx) (hn₃.at' fun o e=>he' _ o e) (fun h₆ hn₆ hs₆=>?_) (by simp [compEnvC,relabel,hkind])))
        refine assignInOrder_cons (wpAny_assign_Name (wpAny_storeName_local (lookup_relabel_local hx₂) hn₆ (fun h₇ hn₇ hs₇=>?_) (by simp [compEnvC,relabel,hkind])))
        refine assignInOrder_nil ?_
        have old7:∀ b o,b≠H2.objs.size→h₃.get? b=some o→h₇.get? b=some o:=fun b o hb e=>hs₇.extBut b o hb (hs₆.extBut b o hb (he' b o e))
        refine wpAny_bind (wpAny_tests_one (htest _ _ _ _ r _ _ hn₇ (by simp [hxx]) (by simp) ?_))
        rw [if_neg (by decide)]
        refine wpAny_pure ⟨rfl,n+1 - (i+1),by exact lin (.c _ (.c _ (.c _ (.c _ .z)))) (.c (.a (.v 2) (.a (.v 0) (.k 1))) (.a (.v 1) (.k 1)) (.c (.a (.v 1) (.k 1)) (.a (.v 3) (.v 0)) .z)) (.a (.v 2) (.k 1)) (.v 3) rfl (eC (lin (.c _ (.c _ .z)) (.c (.v 0) (.v 1) .z) (.a (.v 0) (.k 1)) (.a (.v 1) (.k 1)) rfl hi)) (f5 _ _),h₇,_,i+1,_,rfl,hlt,rfl,W.frame _ _ _ hst₃ fun b hb o e=>old7 b o (fun q=>hCf (q▸hb)) e,(F₃.keeps he').change hs₆ hCL hC₀ |>.change hs₇ hCL hC₀,hn₇,fun p hp=>⟨old7 _ _ ?_ (N₃ p hp).1,(N₃ p hp).2⟩⟩
        rcases List.mem_cons.mp hp with rfl | hp
        · exact hDC
        · exact offC p hp
      · obtain rfl:i=n:=Nat.le_antisymm hi (Nat.not_lt.mp hlt)
        refine W.done _ _ _ hst' fun h₂ tk₂ hk₂=>wpAny_pure ?_
        have q0:=turned F' N' hk₂
        have F₂:=q0.1
        have N₂:=q0.2
        exact hRR _ _ h₂ tk₂ _ F₂ N₂ (hn'.at' fun o e=>hk₂ _ o (fun hm=>hCf (W.sub _ hm)) e) hC₀ hCL (Ne.symm hDC) offC
    · rcases List.mem_cons.mp hp with rfl | hp
      · exact ⟨hacc,hDL,hD₀⟩
      · exact ⟨old _ _ (N p hp).1,(N p hp).2⟩
  exact codeAny_compStart_list (loop _ rfl) (self 0 _ _ _ hst₁ (loop _ rfl))
noncomputable def mu (prog:Program) (w:World) (A:Around) (h₀:Heap) (L:Addr) (m:Str→Option Value) (t:PySem.Expr) (Q:Value→Shared→Prop) (xv:Value) (s₁:Shared):Prop:=
  ∃ I fp wr n Md St news,xv=.ref I∧KTurns prog w A t I fp wr n (fun _ v h=>∃ T r,v=.ref T∧h.IsTuple T #[.ref r,.ref r]) Md St∧(∀ i (s:Shared) (Q:Value→Shared→Prop) (E:Value→Shared→Prop),St i s.heap→Q (.ref I) s→wpAny (model prog w) A (pyIter (.ref I)) Q E s)∧
    St 0 s₁.heap∧(∀ b∈fp,b<s₁.heap.objs.size)∧Fr h₀ L s₁.heap m∧News h₀ L s₁.heap news∧L ∉ wr∧(∀ b∈wr,h₀.get? b=none)∧(∀ p∈news,p.1 ∉ wr)∧∀ D h tk,Fr h₀ L h m→News h₀ L h ((D,lst [])::news)→Q (.ref D) { s₁ with heap:=h,toks:=tk }
theorem fV {s:Shared} {elt iter test:PySem.Expr} {x x₂:Str} {px px₂ tp:Pos} {tk:Nat} {scope:Scope} {cl:List (Str×Addr)} {pos:Pos} {Q:Value→Shared→Prop} (_F₀:Fr h₀ L s.heap m) (hh:A.handled=none)
    (hclos:closureFor scope env=pure cl) (hcell:∀ y∈scope.names,y.2≠.cell) (hkind:scope.kind=.function)
    (hnames:∀ y∈scope.names,y.2=.local→scope.names.lookup y.1=some .local) (hx:scope.names.lookup x=some .local) (hx₂:scope.names.lookup x₂=some .local) (hxx:x≠x₂)
    (htest:∀ (s₂:Shared) C m₂ h tk r (Q:Bool→Shared→Prop) (E:Value→Shared→Prop),h.Ns C m₂→m₂ x=some (.ref r)→m₂ x₂=some (.ref r)→Q false { s₂ with heap:=h,toks:=tk }→wpAny (model prog w) A (isTrue test (compEnvC scope cl C env) (eval test (compEnvC scope cl C env))) Q E { s₂ with heap:=h,toks:=tk })
    (h:wpAny (model prog w) A (eval iter env) (mu prog w A h₀ L m (.Tuple [.Name x px,.Name x₂ px₂] tk tp) Q) E s)
    (hs:∀ x,foldedSetIterable iter env x=pure x) :
    wpAny (model prog w) A (eval (.ListComp elt [⟨.Tuple [.Name x px,.Name x₂ px₂] tk tp,iter,[test],0⟩] scope pos) env) Q E s:=by
  rw [eval_ListComp]
  refine wpAny_comprehension_free (use:=none) rfl hs hclos hkind hnames (wpAny_mono h (fun xv s₁ h₁=>?_) fun _ _ e=>e)
  refine rj h₁ fun I fp wr n Md St news ei W self hst hfp F N hLw hw off fin=>?_
  subst ei
  refine self 0 _ _ _ hst (lg W self hh hcell hkind hx hx₂ hxx hst hfp F N hLw hw off (htest s₁) ?_)
  intro D C h tk m' F' N' hn hC₀ hCL hCD offC
  refine ⟨m',hn,fun h'' hs''=>fin D h'' tk (F'.change hs'' hCL hC₀) (fun p hp=>?_)⟩
  refine ⟨hs''.extBut _ _ ?_ (N' p hp).1,(N' p hp).2⟩
  rcases List.mem_cons.mp hp with rfl | hp
  · exact Ne.symm hCD
  · exact offC p hp
theorem p0 {s:Shared} {elts:List PySem.Expr} {k:Nat} {tp:Pos} {l1 l2:Addr} {n1 n2:Nat} {zs:List Value} {news:List (Addr×Obj)} {Q:Value→Shared→Prop} (hh:A.handled=none) (F:Fr h₀ L s.heap m) (N:News h₀ L s.heap news)
    (h1:(l1,listOf zs.toArray n1)∈news) (h2:(l2,listOf zs.toArray n2)∈news) (hr:∀ v∈zs,∃ r,v=Value.ref r) (fin:∀ D h tk,Fr h₀ L h m→News h₀ L h ((D,lst [])::news)→Q (.ref D) { s with heap:=h,toks:=tk }) :
    wpAny (model prog w) A (call (.type "zip") [.ref l1,.ref l2]) (mu prog w A h₀ L m (.Tuple elts k tp) Q) E s:=by
  have hl1:s.heap.IsList l1 zs.toArray:=⟨_,(N _ h1).1,rfl,n1,rfl⟩
  have hl2:s.heap.IsList l2 zs.toArray:=⟨_,(N _ h2).1,rfl,n2,rfl⟩
  have lt1:l1<s.heap.objs.size:=Heap.lt_size (N _ h1).1
  have lt2:l2<s.heap.objs.size:=Heap.lt_size (N _ h2).1
  have fresh₀:∀ a,s.heap.objs.size≤a→h₀.get? a=none:=fun a ha=>by
    cases e:h₀.get? a with
    | none=>rfl
    | some o'=>exact absurd (Heap.lt_size (F.keep a o' e)) (Nat.not_lt.mpr ha)
  refine call_zip_2 hl1 hl2 fun h' hz hTI hTO hi1 hi2 hsz hk=>?_
  have W:=(WalksT.zip2 (prog:=prog) (w:=w) hh _ _ _ _ _ _ _ (ktu_apart _ _ _ lt1 lt2) zs.toArray zs.toArray)
  have K:=KTurns.ofWalksU (elts:=elts) (k:=k) (pos:=tp) W.toU
  have big:∀ b,b∈[s.heap.objs.size+4,s.heap.objs.size+3,s.heap.objs.size,s.heap.objs.size+1]→s.heap.objs.size≤b:=by
    intro b hb
    simp only [List.mem_cons,List.not_mem_nil,or_false] at hb
    omega
  refine ⟨_,_,_,_,_,_,news,rfl,⟨K.sub,K.frame,K.item,fun i v s Q E hm hQ=>K.go i v s Q E hm fun h'' hP=>hQ h'' ?_,K.done⟩,W.self,⟨hz,hTI,⟨_,_,hTO⟩,hi1,hi2,hl1.at fun o e=>hk _ o e,hl2.at fun o e=>hk _ o e⟩,?_,F.keeps hk,N.grown hk,
    fun hm=>absurd (Nat.lt_of_lt_of_le F.ns.lt (big _ hm)) (Nat.lt_irrefl _),fun b hb=>fresh₀ _ (big _ hb),fun p hp hm=>absurd (Nat.lt_of_lt_of_le (Heap.lt_size (N p hp).1) (big _ hm)) (Nat.lt_irrefl _),fin⟩
  · obtain ⟨T,vals,rfl,⟨a,b,ea,eb,rfl⟩,hT⟩:=hP
    obtain rfl:=Option.some.inj (ea.symm.trans eb)
    obtain ⟨r,rfl⟩:=hr a (by simpa using List.mem_of_getElem? (by simpa using ea))
    exact ⟨T,r,rfl,hT⟩
  · intro b hb
    show b<h'.objs.size
    rw [hsz]
    simp only [List.mem_cons,List.not_mem_nil,or_false] at hb
    have:@LT.lt Nat _ l1 s.heap.objs.size:=lt1
    have:@LT.lt Nat _ l2 s.heap.objs.size:=lt2
    rcases hb with rfl | rfl | rfl | rfl | rfl | rfl | rfl <;> first | exact Nat.lt_add_of_pos_right (by decide) | exact Nat.add_lt_add_left (by decide) _ | exact Nat.lt_add_right _ lt1 | exact Nat.lt_add_right _ lt2
end
end
section
noncomputable section
section
variable {w:World} {p:Program} {loose:List Str} {mean:ExcName→Option Value} {mg mb:Str→Option Value} {R:List (Addr×Obj)} {made tree:Addr} {t:Tr} {d:Int} {s:Shared} {h₀:Heap} {L:Addr} {m:Str→Option Value} {Q:Flow→Shared→Prop} {E:Value→Shared→Prop}
theorem gW {ρ0:List Addr} {ol:List (Nat×SO)} {nx:Nat} {td:Tok} {σ':Sy} (j:SJ (bD w p loose mean mg mb R ρ0 330) 10 fn806_1 L3 ⟨[(.ofString "depth",.i d),(.ofString "made",.s 0),(.ofString "tree",.s 1)],[],ol,nx,[]⟩ (some (.o true)) σ') (F:Fr h₀ L s.heap m) (X:(Mine.hd.heap_1 w.params).In h₀) (T:Top p loose mean mg mb h₀) (N:News h₀ L s.heap R)
    (e1:m (.ofString "depth")=some (.int d td)) (e2:m (.ofString "made")=some (.ref made)) (e3:m (.ofString "tree")=some (.ref tree)) (hol:oa w.params ρ0 R ol) (hn:ρ0.length=nx) (h0:ρ0[0]?=some made) (h1:ρ0[1]?=some tree)
    (post:∀ h' tk' m',Fr h₀ L h' m'→Q (.ret (.bool true)) { s with heap:=h',toks:=tk' }):wpAny (model PG w) (AR 400 4000) (execs L3 (aa fn806_1 L)) Q E s:=by
  refine j.j ⟨AR 400 4000,E,h₀,L,s⟩ ⟨ρ0,[],R,s.heap,m⟩ s.toks Q ⟨rfl,(by decide:400+2*10+330≤890),(by decide:4000+20*10+10*330≤8900),X,T⟩ ⟨F,fun x u e=>?_,N,rfl,(fun i q e=>hol.get e),(fun _ h=>h),rfl,hn,.nil,(fun _ h=>nomatch h),List.prefix_refl _⟩ fun fl v' tk' _ q S=>?_
  · rcases lookHead e with ⟨rfl,rfl⟩ | ⟨_,e⟩
    · exact ⟨_,e1,.i⟩
    rcases lookHead e with ⟨rfl,rfl⟩ | ⟨_,e⟩
    · exact ⟨_,e2,.s h0⟩
    rcases lookHead e with ⟨rfl,rfl⟩ | ⟨_,e⟩
    · exact ⟨_,e3,.s h1⟩
    · cases e
  · obtain ⟨x,rfl,hx⟩:=q
    obtain rfl:x=.bool true:=hx
    exact post v'.h tk' v'.m S.fr
theorem iI {td tk:Tok} {k:Str} {vs:List Value} {n:Nat} (F:Fr h₀ L s.heap m) (X:(Mine.hd.heap_1 w.params).In h₀) (T:Top p loose mean mg mb h₀) (N:News h₀ L s.heap R) (H:dT w R made tree t)
    (hm:(tree,aS (.str k tk::vs).toArray n)∈R) (hk:k∈jV) (e1:m (.ofString "depth")=some (.int d td)) (e2:m (.ofString "made")=some (.ref made)) (e3:m (.ofString "tree")=some (.ref tree))
    (post:∀ h' tk' m',Fr h₀ L h' m'→Q (.ret (.bool true)) { s with heap:=h',toks:=tk' }):wpAny (model PG w) (AR 400 4000) (execs L3 (aa fn806_1 L)) Q E s:=
  gW (sD (us:=vs.map SV.u) H hk) F X T N e1 e2 e3 ⟨⟨_,_,rfl,hm,_,_,.cons .t (aC.us.mpr rfl),rfl⟩,trivial⟩ rfl rfl rfl post
variable {c:Ct} {n:Nat} {r:FnR} {σ σ1 σ2:Sy}
theorem vq {x:Str} {ps:Pos} {u:SV} (h:σ.loc.lookup x=some u) (hk:dX (aa r 0) x=true):dI c n σ (fun L=>eval (.Name x ps) (aa r L)) u σ:=fun f v tk Q ok S hq=>by
  obtain ⟨y,h1,h2⟩:=S.lv x u h
  exact dj (env:=aa r f.L) S.fr h1 (hq y v tk (List.prefix_refl _) h2 S rfl) hk
theorem lG {g:Str} {pf pc:Pos} {e:PySem.Expr} {fa:Addr} {u w:SV} (hg:c.k.gl.lookup g=some (.k fa)) (hok:fQ (aa r 0) g=true) (hkp:c.k.kp.contains fa=true) (hp:br e) (h:dI c n σ (fun L=>eval e (aa r L)) u σ1) (hC:aO c n σ1 fa [u] w σ2) :
    dI c n σ (fun L=>eval (.Call (.Name g pf) [e] [] pc) (aa r L)) w σ2:=fun f v tk Q ok S hq=>by
  obtain ⟨z,e1,rfl,e3⟩:=c.hk.gl _ _ hg
  refine wpAny_Call_NameR (nQ (env:=aa r f.L) S.fr ok.X (topRead_of ok.T) e1 e3 ?_ hok)
  refine callWith_K ok.X (c.hk.kp _ (List.contains_iff_mem.mp hkp)) ?_ (hp.star _ _) rfl
  refine PyProof.Rows.args_cons (h f v tk _ ok S fun x v1 t1 p1 q1 S1 m1=>PyProof.Rows.args_nil ⟨ok.X.keeps S1.fr.keep,hC f v1 t1 [x] Q ok S1 ⟨x,[],rfl,q1,rfl⟩ fun y v2 t2 p2 q2 S2 m2=>hq y v2 t2 (p1.trans p2) q2 S2 (m2.trans m1)⟩) (hp.star _ _)
theorem rQ {x x₂ y:Str} {elt e2:PySem.Expr} {px px₂ tp pz ph pc pos q1 q2 q3 pl ps:Pos} {tk i j:Nat} {scope:Scope} {cl:List (Str×Addr)} {zs:List Value} (hclos:∀ L,closureFor scope (aa r L)=pure cl) (hcell:∀ y∈scope.names,y.2≠.cell) (hkind:scope.kind=.function)
    (hnames:∀ y∈scope.names,y.2=.local→scope.names.lookup y.1=some .local) (hx:scope.names.lookup x=some .local) (hx₂:scope.names.lookup x₂=some .local) (hxx:x≠x₂) (hd:((x==("__debug__":Str))||(x₂==("__debug__":Str)))=false)
    (hz:fQ (aa r 0) (.ofString "zip")=true) (hp:br e2) (hy:σ.loc.lookup y=some (.s i)) (hyk:dX (aa r 0) y=true) (hl:σ1.look i=some (.L (zs.map SV.u))) (h2:dI c n σ (fun L=>eval e2 (aa r L)) (.s j) σ1) (hl2:σ1.look j=some (.L (zs.map SV.u))) (hr:∀ v∈zs,∃ r,v=Value.ref r) :
    TJ c n r (.Compare (.ListComp elt [⟨.Tuple [.Name x px,.Name x₂ px₂] tk tp,.Call (.Name (.ofString "zip") pz) [.Name y ph,e2] [] pc,[.Compare (.Name x q1) [.IsNot] [.Name x₂ q2] q3],0⟩] scope pos) [.NotEq] [.List [] pl] ps) σ false σ1:=⟨fun f v t Q ok S hq=>by
  obtain ⟨hd1,hd2⟩:=Bool.or_eq_false_iff.mp hd
  refine wpAny_isTrue_Compare1 (fV S.fr ok.hd (hclos f.L) hcell hkind hnames hx hx₂ hxx (fun s₂ C m₂ h tk r' Q' E' hn h1 h2 hq=>wpAny_isTrue_Compare1 (wpAny_Name (wpAny_loadName_local (by simp [compEnvC,relabel,hkind]) (lookup_relabel_local hx) hn h1 (wpAny_Name (wpAny_loadName_local (by simp [compEnvC,relabel,hkind]) (lookup_relabel_local hx₂) hn h2 (wpAny_isNot_ref_self (wpAny_truthy_bool hq))) hd2)) hd1) rfl) ?_ (fun z_=>rfl)) rfl
  refine wpAny_Call_NameR (lJ (v:=.type "zip") (by kernel_rfl) (by kernel_rfl) (by decide) (by decide) hz ok S.fr ?_)
  have hplain:(backTo pc (starEach [e2] (aa r f.L))).any (·.1)=false:=by rw [hp.star]; rfl
  obtain ⟨z,e1,hzz⟩:=S.lv y _ hy
  refine PyProof.Rows.callWith_type1 (PyProof.Rows.args_cons (dj (env:=aa r f.L) S.fr e1 (PyProof.Rows.args_cons (h2 f v t _ ok S fun x2 v2 t2 p2 q2 S2 m2=>PyProof.Rows.args_nil ?_) (hp.star _ _)) hyk) rfl) rfl hplain
  obtain ⟨l1,g1,rfl⟩:=hzz.up p2
  obtain ⟨l2,g2,rfl⟩:=q2
  obtain ⟨a1,o1,k1,n1,xs,c1,hv1,rfl⟩:=S2.look hl
  obtain ⟨a2,o2,k2,n2,ys,c2,hv2,rfl⟩:=S2.look hl2
  obtain rfl:=Option.some.inj (g1.symm.trans k1)
  obtain rfl:=Option.some.inj (g2.symm.trans k2)
  obtain rfl:=aC.us.mp hv1
  obtain rfl:=aC.us.mp hv2
  refine p0 ok.hd (m2▸S2.fr) S2.nw n1 n2 hr fun D h tk2 FD ND=>?_
  refine PyProof.Rows.List_ (PyProof.Rows.args_nil (PyProof.Rows.newList_N FD ND (fun h' F' N'=>?_) (by rw [sizeLine_eq]; decide)))
  refine ke_ne_ints (ns:=[]) (ms:=[]) (xs:=[]) (ys:=[]) (News.isList N' (.tail _ (.head _))) (News.isList N' (.head _)) .nil .nil ?_ (wpAny_truthy_bool ?_)
  · exact Nat.lt_of_le_of_lt (Nat.add_le_add_right (Nat.le_trans (Nat.le_add_right _ _) (Nat.le_trans (Nat.le_add_right _ _) ok.un)) 64) (by decide:8900+64<9900)
  · exact hq false ⟨v2.ρ,v2.Rf,v2.R1,h',v2.m⟩ _ p2 rfl { S2 with fr:=m2▸F',nw:=ag N' fun p hp=>.tail _ (.tail _ hp) }⟩
end
end
end
section
noncomputable section
section
variable {w:World} {p:Program} {loose:List Str} {mean:ExcName→Option Value} {mg mb:Str→Option Value} {R:List (Addr×Obj)} {made tree dd sp:Addr} {t:Tr} {d ac:Int} {zs:List Value} {v1:Value} {x pk:Bool} {kk:Str}
noncomputable def nj (w:World) (p:Program) (loose:List Str) (mean:ExcName→Option Value) (mg mb:Str→Option Value) (R:List (Addr×Obj)) (sp:Addr) (zs:List Value):Prop:=
  ∀ {σ:Sy} {ρ0:List Addr} {lm m j:Nat},ρ0[j]?=some sp→10≤lm→aO (bD w p loose mean mg mb R ρ0 lm) m σ 379 [.s j] (.s σ.nx) { σ with fr:=(σ.nx,.L (zs.map SV.u))::σ.fr,nx:=σ.nx+1 }
noncomputable def xi {ρ0:List Addr} {lm:Nat} (K:nj w p loose mean mg mb R sp zs) (h3:ρ0[3]?=some sp) (hl:10≤lm):oR (bD w p loose mean mg mb R ρ0 lm):=fun g vs σ=>match vs with
  | [x]=>(cI x).bind fun i=>(ay (Nat.beq g 379&&Nat.beq i.1 3)).map fun h=>⟨.s σ.nx,{ σ with fr:=(σ.nx,.L (zs.map SV.u))::σ.fr,nx:=σ.nx+1 },by
      obtain ⟨k1,k2⟩:=bA.mp h.down
      rw [Nat.eq_of_beq_eq_true k1,i.2]
      exact K ((Nat.eq_of_beq_eq_true k2).symm▸h3) hl⟩
  | _=>none
noncomputable def xC (v1:Value) (x pk:Bool) (kk:Str) (ac:Int):List (Nat×SO):=[(1,.T [.t (.ofString "row"),.u v1,.o x,.o pk]),(0,.I 86 2),(2,eR kk (.s 3) x (.i ac))]
noncomputable def uq (d:Int) (v1:Value) (x pk:Bool) (kk:Str) (ac:Int):Sy:=⟨[(.ofString "depth",.i d),(.ofString "made",.s 0),(.ofString "tree",.s 1)],[],xC v1 x pk kk ac,4,[]⟩
noncomputable def gu (d:Int) (v1:Value) (x pk:Bool) (kk:Str) (ac:Int) (zs:List Value):Sy:=⟨[(.ofString "depth",.i d),(.ofString "made",.s 0),(.ofString "tree",.s 1),(.ofString "held",.s 5)],[(5,.L (zs.map SV.u)),(4,.L (zs.map SV.u))],xC v1 x pk kk ac,6,[]⟩
noncomputable abbrev fR (H:dT w R made tree t) (K:nj w p loose mean mg mb R sp zs):ie (bD w p loose mean mg mb R [made,tree,dd,sp] 330) 10:=cR (uZ H rfl rfl (Nat.le_refl _) (xi K rfl (by decide))) iL 32 10
noncomputable def kindsR:List Str:=[.ofString "packed",.ofString "array"]
theorem nP (H:dT w R made tree t):∀ {zs:List Value} (K:nj w p loose mean mg mb R sp zs),zs.length≤3→(kindsR.map fun kk=>rV ((fR (dd:=dd) H K).S fn806_1 (L3.take 1) (uq d v1 x pk kk ac)))=kindsR.map fun kk=>some (none,gu d v1 x pk kk ac zs)
  | [],K,_=>by kernel_rfl
  | [_],K,_=>by kernel_rfl
  | [_,_],K,_=>by kernel_rfl
  | [_,_,_],K,_=>by kernel_rfl
  | _::_::_::_::_,K,h=>absurd h (by simp)
theorem mL (H:dT w R made tree t) (K:nj w p loose mean mg mb R sp zs):(kindsR.map fun kk=>((fR (dd:=dd) H K).C 344 [.s 0] (gu d v1 x pk kk ac zs)).map fun q=>(q.v,q.σ'))=kindsR.map fun kk=>some (.s 3,gu d v1 x pk kk ac zs):=by kernel_rfl
end
end
noncomputable section
section
variable {w:World} {p:Program} {loose:List Str} {mean:ExcName→Option Value} {mg mb:Str→Option Value} {R:List (Addr×Obj)} {made tree dd sp:Addr} {t:Tr} {d ac:Int} {zs:List Value} {v1:Value} {x pk:Bool} {kk:Str}
noncomputable def pq (d:Int) (v1:Value) (x pk:Bool) (kk:Str) (ac:Int) (zs:List Value):Sy:=⟨[(.ofString "depth",.i d),(.ofString "made",.s 0),(.ofString "tree",.s 1),(.ofString "held",.s 5)],[(6,.L (zs.map SV.u)),(5,.L (zs.map SV.u)),(4,.L (zs.map SV.u))],xC v1 x pk kk ac,7,[]⟩
theorem wn {c:Ct} {n:Nat} {g:Addr} {vs:List SV} {σ σ':Sy} {u:SV} {o:Option (CC c n g vs σ)} (h:o.map (fun q=>(q.v,q.σ'))=some (u,σ')):aO c n σ g vs u σ':=by
  obtain ⟨⟨v,σ2,j⟩,_,e⟩:=Option.map_eq_some_iff.mp h
  cases e
  exact j
theorem sf (H:dT w R made tree t) (K:nj w p loose mean mg mb R sp zs) (hz:zs.length≤3) (hr:∀ v∈zs,∃ r,v=Value.ref r) (hk:kk∈kindsR):SJ (bD w p loose mean mg mb R [made,tree,dd,sp] 330) 10 fn806_1 L3 (uq d v1 x pk kk ac) (some (.o true)) (pq d v1 x pk kk ac zs):=by
  refine SJ.split 1 (SJ.ok (List.map_inj_left.mp (nP (dd:=dd) (d:=d) (v1:=v1) (x:=x) (pk:=pk) (ac:=ac) H K hz) kk hk)) ?_
  refine SJ.ifN (b:=false) (TJ.or0 (TJ.ne_b (o:=shown t d) (EJ.of (σ1:=gu d v1 x pk kk ac zs) (o:=(fR (dd:=dd) H K).E fn806_1 _ _) (by kernel_rfl)) (EJ.of (σ1:=gu d v1 x pk kk ac zs) (o:=(fR (dd:=dd) H K).E fn806_1 _ _) (by kernel_rfl)) rfl) (TJ.or0 (TJ.ne_b (o:=kX t) (EJ.of (σ1:=gu d v1 x pk kk ac zs) (o:=(fR (dd:=dd) H K).E fn806_1 _ _) (by kernel_rfl)) (EJ.of (σ1:=gu d v1 x pk kk ac zs) (o:=(fR (dd:=dd) H K).E fn806_1 _ _) (by kernel_rfl)) rfl) TJ.orn)) SJ.nil ?_
  refine SJ.ifN (b:=false) (σ1:=pq d v1 x pk kk ac zs) (TJ.and1 (TJ.of (σ1:=gu d v1 x pk kk ac zs) (o:=(fR (dd:=dd) H K).T fn806_1 _ _) (by kernel_rfl)) (TJ.and0 ?_)) SJ.nil ?_
  · refine rQ (i:=5) (j:=6) (zs:=zs) (fun z_=>rfl) (by decide) rfl (by decide) rfl rfl (by decide) rfl ?_ ?_ rfl ?_ rfl ?_ rfl hr
    · kernel_rfl
    · exact ⟨fun z_ z_=>rfl⟩
    · kernel_rfl
    · refine lG (by kernel_rfl) (by kernel_rfl) (by kernel_rfl) ⟨fun z_ z_=>rfl⟩ (lG (by kernel_rfl) (by kernel_rfl) (by kernel_rfl) ⟨fun z_ z_=>rfl⟩ (vq (by kernel_rfl) (by kernel_rfl)) (wn (List.map_inj_left.mp (mL (dd:=dd) (d:=d) (v1:=v1) (x:=x) (pk:=pk) (ac:=ac) H K) kk hk))) (K rfl (by decide))
  · refine SJ.ret (EJ.eq_b (o:=shown t 9) (EJ.of (σ1:=pq d v1 x pk kk ac zs) (o:=(fR (dd:=dd) H K).E fn806_1 _ _) (by kernel_rfl)) (EJ.of (σ1:=pq d v1 x pk kk ac zs) (o:=(fR (dd:=dd) H K).E fn806_1 _ _) (by kernel_rfl)) rfl)
theorem things_ref {P:Params} {R:List (Addr×Obj)}:∀ {vs:List Value} {ts:List Tr},am P R vs ts→∀ v∈vs,∃ r,v=Value.ref r
  | _,_,.nil=>fun _ h=>nomatch h
  | _,_,.cons h r=>fC ⟨by cases h <;> exact ⟨_,rfl⟩,things_ref r⟩
theorem row_kind {pk:Bool}:(if pk then Str.ofString "packed" else Str.ofString "array")∈kindsR:=by cases pk; exact .tail _ (.head _); exact .head _
theorem mP {s:Shared} {h₀:Heap} {L:Addr} {m:Str→Option Value} {Q:Flow→Shared→Prop} {E:Value→Shared→Prop} {ts:List Tr} {r:Bool} {td tk:Tok} {n:Nat} (F:Fr h₀ L s.heap m) (X:(Mine.hd.heap_1 w.params).In h₀) (T:Top p loose mean mg mb h₀) (N:News h₀ L s.heap R) (H:dT w R made tree (.row ts r x pk))
    (hm:(tree,aS #[.str (Str.ofString "row") tk,v1,.bool x,.bool pk] n)∈R) (e1:m (.ofString "depth")=some (.int d td)) (e2:m (.ofString "made")=some (.ref made)) (e3:m (.ofString "tree")=some (.ref tree))
    (post:∀ h' tk' m',Fr h₀ L h' m'→Q (.ret (.bool true)) { s with heap:=h',toks:=tk' }):wpAny (model PG w) (AR 400 4000) (execs L3 (aa fn806_1 L)) Q E s:=by
  have hO:=H.hO
  have hT:=H.th
  cases hT with
  | row m1 m2 m3 m4 m5 m6 m7 hz hS=>
    exact gW (sf H (fun hi hl=>mR hi hl m3 m4 m5 m6 m7 hz) (Nat.le_trans (Nat.le_of_eq (cM hS)) (by cases hO; assumption)) (things_ref hS) row_kind) F X T N e1 e2 e3 ⟨⟨_,_,rfl,hm,_,_,.cons .t (.cons rfl (.cons .o (.cons .o rfl))),rfl⟩,⟨_,_,rfl,m1,_,rfl,rfl⟩,⟨_,_,rfl,m2,_,.cons .t (.cons (.s rfl) (.cons .o (.cons .i rfl))),rfl⟩,trivial⟩ rfl rfl rfl post
theorem tree_kind {v:Value} (h:aA R v t):(∃ a k tk vs n,v=.ref a∧(a,aS (.str k tk::vs).toArray n)∈R∧k∈jV)∨
    (∃ ts r x p a tk v1 n,t=.row ts r x p∧v=.ref a∧(a,aS #[.str (Str.ofString "row") tk,v1,.bool x,.bool p] n)∈R):=by
  cases h with
  | rowN m=>exact .inr ⟨_,_,_,_,_,_,_,_,rfl,rfl,m⟩
  | rowS m=>exact .inr ⟨_,_,_,_,_,_,_,_,rfl,rfl,m⟩
  | name m=>exact .inl ⟨_,_,_,[_,_],_,rfl,m,by decide⟩
  | _=>exact .inl ⟨_,_,_,[_],_,rfl,by assumption,by decide⟩
end
end
end
section
theorem yj:True:=by
  k_with "call ref"=>(k_here; (with_reducible show wpAny _ _ (call (Value.ref 498) [_,_]) _ _ _); refine bM ?_)
  k_with "call builtin:len"=>(k_here; (with_reducible show wpAny _ _ (call (Value.builtin "len") [Value.ref _]) _ _ _); (refine' gA ?N ?m ?z ?_; (case N=>k_asm); (case m=>k_mem); (case z=>omega)); intro qt' qk')
  trivial
theorem qi {w:World} {p:Program} {loose:List Str} {mean:ExcName→Option Value} {mg mb:Str→Option Value} {s:Shared} {h₀:Heap} {L:Addr} {m:Str→Option Value}
    {ma md mm li ld sv jr fr:Addr} {omd om:Obj} {es:List (Int×Value)} {used last:Int} {b:Array UInt8} {tb:Tok} {J:List (Addr×Obj)} {Q:Value→Shared→Prop}
    (F:Fr h₀ L s.heap m) (X:(Mine.hd.heap_1 w.params).In h₀) (T:Top p loose mean mg mb h₀)
    (N:News h₀ L s.heap ((md,omd)::(mm,om)::J)) (MJ:bZ w.params ma md li ld sv mm J) (MD:aT w.params li sv jr mm fr used last omd)
    (o:@Ne Nat md mm)
    (hom:om.IsDictOf (intKind rw_on0273_01.row.prog w) es) (hes:es.length≤1000) (lo:(mm==sysModules)=false)
    (hu:0≤used) (hb:b.size≤30) (hu2:used+30≤16000000) (hl:0≤last) (hl2:last≤100000)
    (post:∀ x dx ba tn vg tv t1 t2 t3 t4 omd' om' es' h' tk',Fr h₀ L h' m→News h₀ L h' ((ba,a8 b)::(x,instObj 107 dx)::(dx,bc w.params (Str.ofString "octets") (.int (last+1) tn) (.ref ba) vg tv t1 t2 t3 t4)::(md,omd')::(mm,om')::J)→
      aT w.params li sv jr mm fr (used+(b.size:Int)) (last+1) omd'→om'.IsDictOf (intKind rw_on0273_01.row.prog w) es'→es'.length≤es.length+1→But [md,mm] s.heap h'→AllLt ba ((x,omd)::(dx,omd)::(md,omd)::(mm,om)::J)→AllLt x ((md,omd)::(mm,om)::J)→AllLt dx ((md,omd)::(mm,om)::J)→
      Q (.ref x) { s with heap:=h',toks:=tk' }) :
    aw (model rw_on0273_01.row.prog w) (AR 810 8100) (call (.ref 519) [.ref ma,.bytes b tb]) Q (fun z_ z_=>False) s:=by
  have MJ0:=MJ
  have MD0:=MD
  obtain ⟨jm,jl,⟨jf,jd⟩,⟨jn,js⟩,jnd,jnm⟩:=MJ
  cases MD
  refine bi ?_
  walk_at "W enter"
  refine aI (aD ?_)
  k_steps
  refine aI (kf (fA ?_ rfl))
  k_steps
  refine fi rfl (aD (bH ?_ rfl))
  k_steps
  refine bP ?_
  (with_reducible rename Fr _ _ _ _=>lF)
  (with_reducible rename News _ _ _ _=>lN)
  refine aH (A':=AR 830 8300) (pY ⟨rfl,by decide,by decide⟩ lF (by k_asm) (by k_asm) (ag lN (by (intro p hp; repeat (first | exact hp | refine List.mem_cons_of_mem _ ?_)))) MJ0 MD0 o hom hes hu (Int.le_trans (Int.le_add_of_nonneg_right (by decide)) hu2) (Int.natCast_nonneg _) (Int.le_trans (Int.ofNat_le.mpr hb) (by decide)) hl hl2 ?_) rfl (by k_room) rfl rfl (by k_units)
  intro omd' om' es' t h' tk' F' N' MD' hom' hes' bt''
  clear lF lN MD0
  have MD2:=MD'
  cases MD'
  k_steps
  refine kP (K:=Mine.hd.heap_1 w.params) (C:=107) (by k_asm) (by k_asm) (by k_is) rfl (by k_is) ?_
  refine bi ?_
  refine pD (K:=Mine.hd.heap_1 w.params) (C:=107) (by k_asm) (by k_asm) (by k_in) (by k_is) (by k_is) (by k_is) ?_
  intro x dx h' F' N' l1 l2
  have l3:=uJ l1 l2
  have kq9:=allLt_of l1
  replace l1:=kq9
  dsimp only [AllLt] at l1
  have kq9:=allLt_of l3
  replace l3:=kq9
  dsimp only [AllLt] at l3
  walk_at "W enter"
  refine aI (aD ?_)
  k_steps
  refine aI ?_
  refine ic ?_ (by rfl)
  refine fA ?_ (by rfl)
  k_steps
  refine eZ rfl (aD (bH ?_ rfl))
  k_steps
  refine xx (by k_asm) (by k_asm) (by exact lin (.c _ .z) (.c (.v 0) (.k 30) .z) (.v 0) (.k 16777216) rfl hb) ?_
  intro D h' F' N' l1
  have kq9:=allLt_of l1
  replace l1:=kq9
  dsimp only [AllLt] at l1
  k_steps
  refine aD ?_
  k_steps
  (with_reducible rename News _ _ _ _=>eN)
  refine post _ _ _ _ _ _ _ _ _ _ _ _ _ _ _ (by assumption) (ag eN (by (intro p hp; repeat (first | exact hp | refine List.mem_cons_of_mem _ ?_)))) MD2 hom' hes' ?_ (by assumption) (by assumption) (by assumption)
  exact But.part (by assumption) (by assumption) (by assumption) (by assumption) (by
    intro p hp
    repeat' (rcases List.mem_cons.mp hp with rfl | hp; (first | (refine Or.inl ?_; first | exact List.mem_cons_self | exact List.mem_cons_of_mem _ List.mem_cons_self) | exact Or.inr (by k_mem)))
    exact Or.inr (by repeat (first | exact hp | refine List.mem_cons_of_mem _ ?_)))
end
section
inductive oe (da la:Addr) (od ol:Obj):List (Addr×Obj)→(Obj→Obj→List (Addr×Obj))→Prop
  | head {r:List (Addr×Obj)}:(∀ p∈r,p.1≠da)→(∀ p∈r,p.1≠la)→oe da la od ol ((da,od)::(la,ol)::r) (fun a b=>(da,a)::(la,b)::r)
  | tail {p:Addr×Obj} {r:List (Addr×Obj)} {g:Obj→Obj→List (Addr×Obj)}:p.1≠da→p.1≠la→oe da la od ol r g→oe da la od ol (p::r) (fun a b=>p::g a b)
theorem oe.left {da la:Addr} {od ol:Obj} {l:List (Addr×Obj)} {g:Obj→Obj→List (Addr×Obj)} (h:oe da la od ol l g):∀ p∈[(da,od),(la,ol)],p∈l:=by
  induction h with
  | head=>exact fC ⟨.head _,fC ⟨.tail _ (.head _),fun _ h=>nomatch h⟩⟩
  | tail _ _ _ ih=>exact fun p hp=>.tail _ (ih p hp)
theorem oe.news {da la:Addr} {od ol a b:Obj} {h₀ h h':Heap} {L:Addr} (B:But [da,la] h h') (N2:News h₀ L h' [(da,a),(la,b)]) {l:List (Addr×Obj)} {g:Obj→Obj→List (Addr×Obj)} (U:oe da la od ol l g):News h₀ L h l→News h₀ L h' (g a b):=by
  induction U with
  | head h1 h2=>exact fun N=>fC ⟨N2 _ (.head _),fC ⟨N2 _ (.tail _ (.head _)),fun p hp=>⟨B _ _ (N p (.tail _ (.tail _ hp))).1 (pg (h1 p hp) (h2 p hp)),(N p (.tail _ (.tail _ hp))).2⟩⟩⟩
  | tail h1 h2 _ ih=>exact fun N=>fC ⟨⟨B _ _ (N _ (.head _)).1 (pg h1 h2),(N _ (.head _)).2⟩,ih fun p hp=>N p (.tail _ hp)⟩
structure DeckIs (w:World) (la:Addr) (od:Obj) (vs:List Value) (ls:List Int) (mx:Int) (t3:Tok):Prop where
  dict:od.IsDictOf (strKind rw_on0273_01.row.prog w) [(Str.ofString "left",.ref la),(Str.ofString "mixed",.int mx t3)]
  nums:IntsAre vs ls
  low:∀ x∈ls,0≤x∧x<1000003
  m0:0≤mx
  m1:mx<1000003
  len:ls.length≤64
theorem lI {ls:List Int} {mx:Int} (h0:0≤mx) (h1:mx<1000003):0≤ao ls mx∧ao ls mx<1000003:=by
  cases ls with
  | nil=>
    unfold ao
    dsimp only
    rw [Int.fmod_eq_emod_of_nonneg _ (by exact ax .z .z .z (.k 0) (.k 1000003) rfl )]
    exact ⟨ax .z (.c _ .z) (.c (.k 0) (.v 0) .z) (.k 0) (.v 0) rfl (xa _ (n:=1000003) rfl),ax .z (.c _ .z) (.c (.a (.v 0) (.k 1)) (.k 1000003) .z) (.a (.v 0) (.k 1)) (.k 1000003) rfl (xu _ (n:=1000003) rfl)⟩
  | cons=>exact ⟨h0,h1⟩
theorem eP {w:World} {la:Addr} {od:Obj} {vs:List Value} {ls:List Int} {mx many:Int} {t3:Tok} (D:DeckIs w la od vs ls mx t3) (hm:0<many):0≤aq ls mx many∧aq ls mx many<many:=by
  cases ls <;> (
    unfold aq
    dsimp only
    rw [Int.fmod_eq_emod_of_nonneg _ (by exact ax .z (.c _ .z) (.c (.a (.k 0) (.k 1)) (.v 0) .z) (.k 0) (.v 0) rfl hm)]
    exact ⟨Int.emod_nonneg _ (by exact fun q=>ly .z (.c _ .z) (.c (.a (.k 0) (.k 1)) (.v 0) (.c (.v 0) (.k 0) .z)) rfl hm (oh q)),Int.emod_lt_of_pos _ hm⟩)
theorem DeckIs.next {w:World} {la:Addr} {od od':Obj} {vs vs':List Value} {ls:List Int} {mx:Int} {t3 t3':Tok} (D:DeckIs w la od vs ls mx t3) (hd:od'.IsDictOf (strKind rw_on0273_01.row.prog w) [(Str.ofString "left",.ref la),(Str.ofString "mixed",.int (ao ls mx) t3')]) (hv:IntsAre vs' ls.tail):DeckIs w la od' vs' ls.tail (ao ls mx) t3':=
  ⟨hd,hv,fun x hx=>D.low x (List.mem_of_mem_tail hx),(lI D.m0 D.m1).1,(lI D.m0 D.m1).2,by have:=D.len; rw [List.length_tail]; exact lin (.c _ (.c _ .z)) (.c (.v 0) (.k 64) (.c (.v 1) (.v 0) .z)) (.v 1) (.k 64) rfl this (Nat.sub_le _ _)⟩
theorem lA {w:World} {p:Program} {loose:List Str} {mean:ExcName→Option Value} {mg mb:Str→Option Value} {s:Shared} {h₀:Heap} {L:Addr} {m:Str→Option Value} {news:List (Addr×Obj)} {g:Obj→Obj→List (Addr×Obj)}
    {da la:Addr} {od:Obj} {t3 tm:Tok} {mx many:Int} {vs:List Value} {ls:List Int} {n:Nat} {Q E:Value→Shared→Prop}
    (F:Fr h₀ L s.heap m) (X:(Mine.hd.heap_1 w.params).In h₀) (T:Top p loose mean mg mb h₀) (N:News h₀ L s.heap news) (U:oe da la od (listOf vs.toArray n) news g) (hne:@Ne Nat da la) (lo:(da==sysModules)=false)
    (D:DeckIs w la od vs ls mx t3) (hm:0<many∧many≤2000000)
    (post:∀ k t h' tk' vs' ls' n' mx' t3' od',0≤k→k<many→DeckIs w la od' vs' ls' mx' t3'→Fr h₀ L h' m→News h₀ L h' (g od' (listOf vs'.toArray n'))→But [da,la] s.heap h'→Q (.int k t) { s with heap:=h',toks:=tk' }) :
    wpAny (model rw_on0273_01.row.prog w) (AR 800 8000) (call (.ref 760) [.ref da,.int many tm]) Q E s:=
  f9 F X T (ag N U.left) hne D.dict lo D.nums D.low D.m0 D.m1 D.len hm.1 hm.2 fun t h' tk' vs' n' t3' od' h3 F' N' hd b=>
    post _ t h' tk' vs' _ n' _ t3' od' (eP D hm.1).1 (eP D hm.1).2 (D.next hd h3) F' (U.news b N' N) b
end
section
section
variable {M:Model} {A:Around} {E:Value→Shared→Prop} {s:Shared} {env:Env}
theorem eY {e:PySem.Expr} {rest:List PySem.Expr} {pos:Pos} {Q:List Value→Shared→Prop} (h:aw M A (eval e env) (fun v s₁=>wpAny M A (spliced (backTo pos (starEach rest env))) (fun vs s₂=>Q (v::vs) s₂) E s₁) E s)
    (he:starEach (e::rest) env=(false,eval e env)::starEach rest env):aw M A (spliced (backTo pos (starEach (e::rest) env))) Q E s:=by
  rw [he]; exact fg h
theorem iV {f:Value} {e:PySem.Expr} {rest:List PySem.Expr} {pos:Pos} {Q:Args→Shared→Prop} (h:aw M A (spliced (backTo pos (starEach (e::rest) env))) (fun vs s'=>Q ⟨vs,[]⟩ s') E s)
    (he:starEach (e::rest) env=(false,eval e env)::starEach rest env):aw M A (evalArgs f true (backTo pos (starEach (e::rest) env)) []) Q E s:=by
  rw [he] at h ⊢; exact dP h
end
end
section
noncomputable def dh (md mm da la:Addr) (J:List (Addr×Obj)) (a:Addr):Prop:=@Ne Nat md a∧@Ne Nat mm a∧@Ne Nat da a∧@Ne Nat la a∧∀ q∈J,q.1≠a
structure Apart (md mm da la:Addr) (J:List (Addr×Obj)):Prop where
  n0:@Ne Nat da la
  n1:@Ne Nat da md
  n2:@Ne Nat da mm
  n3:@Ne Nat la md
  n4:@Ne Nat la mm
  o:@Ne Nat md mm
  jda:∀ p∈J,p.1≠da
  jla:∀ p∈J,p.1≠la
  lo:(mm==sysModules)=false
  lo2:(da==sysModules)=false
noncomputable section
noncomputable def cZ (ls:List Int) (mx:Int):List (Nat×SV)→Prop
  | []=>True
  | q::l=>(q.1=0∧cZ ls mx l)∨((0<q.1∧q.1≤2000000∧∀ ρ t,VR ρ q.2 (.int (aq ls mx q.1) t))∧cZ ls.tail (ao ls mx) l)
noncomputable def bud:List (Nat×SV)→Nat
  | []=>0
  | q::l=>(bif Nat.beq q.1 0 then 1 else 0)+bud l
noncomputable def cG (w:World) (R0:List (Addr×Obj)) (da la md mm li sv jr fr:Addr) (e0:Nat) (u0 l0:Int) (B:Nat) (sc:List (Nat×SV)) (R1:List (Addr×Obj)):Prop:=
  ∃ od vs n ls mx t3 omd om es used last,R1=(da,od)::(la,listOf vs.toArray n)::(md,omd)::(mm,om)::R0∧DeckIs w la od vs ls mx t3∧cZ ls mx sc∧aT w.params li sv jr mm fr used last omd∧om.IsDictOf (intKind PG w) es∧
    es.length+bud sc≤e0+B∧(u0≤used∧used+100*(bud sc:Int)≤u0+100*(B:Int))∧(l0≤last∧last+(bud sc:Int)≤l0+(B:Int))
theorem cG.out {w:World} {R0:List (Addr×Obj)} {da la md mm li sv jr fr:Addr} {e0:Nat} {u0 l0:Int} {B:Nat} {sc:List (Nat×SV)} {R1:List (Addr×Obj)} {G:Prop} (h:cG w R0 da la md mm li sv jr fr e0 u0 l0 B sc R1)
    (k:∀ od vs n ls mx t3 omd om es used last,R1=(da,od)::(la,listOf vs.toArray n)::(md,omd)::(mm,om)::R0→DeckIs w la od vs ls mx t3→cZ ls mx sc→aT w.params li sv jr mm fr used last omd→om.IsDictOf (intKind PG w) es→
    es.length+bud sc≤e0+B→(u0≤used∧used+100*(bud sc:Int)≤u0+100*(B:Int))→(l0≤last∧last+(bud sc:Int)≤l0+(B:Int))→G):G:=by
  obtain ⟨od,vs,n,ls,mx,t3,omd,om,es,used,last,e4,D,hf,MD,hom,b1,b2,b3⟩:=h
  exact k od vs n ls mx t3 omd om es used last e4 D hf MD hom b1 b2 b3
section
variable {w:World} {p:Program} {loose:List Str} {mean:ExcName→Option Value} {mg mb:Str→Option Value} {R0:List (Addr×Obj)} {ρ0:List Addr} {lm:Nat} {da la md mm ma li ld sv jr fr:Addr} {e0 B:Nat} {u0 l0:Int}
@[reducible] noncomputable def dZ (w:World) (p:Program) (loose:List Str) (mean:ExcName→Option Value) (mg mb:Str→Option Value) (R0:List (Addr×Obj)) (ρ0:List Addr) (lm:Nat) (da la md mm li sv jr fr:Addr) (e0:Nat) (u0 l0:Int) (B:Nat):Ct:=⟨w,p,loose,mean,mg,mb,R0,ρ0,lm,cG w R0 da la md mm li sv jr fr e0 u0 l0 B,sa,cO _⟩
structure aE (P:Params) (da la md mm ma li ld sv:Addr) (R0:List (Addr×Obj)) (e0:Nat) (u0 l0:Int) (B:Nat):Prop where
  ap:Apart md mm da la R0
  mj:bZ P ma md li ld sv mm R0
  e:e0+B≤1000
  u:0≤u0
  u2:u0+100*(B:Int)≤16000000
  l:0≤l0
  l2:l0+(B:Int)≤100000
theorem aE.all {P:Params} (hs:aE P da la md mm ma li ld sv R0 e0 u0 l0 B) {Rf:List (Addr×Obj)} {od ol omd om:Obj} (hU:∀ p∈Rf,∀ q∈(da,od)::(la,ol)::(md,omd)::(mm,om)::R0,q.1≠p.1) :
    (∀ p∈Rf++((md,omd)::(mm,om)::R0),p.1≠da∧p.1≠la)∧bZ P ma md li ld sv mm (Rf++((da,od)::(la,ol)::R0)):=by
  refine ⟨fun p hp=>(List.mem_append.mp hp).elim (fun h=>⟨Ne.symm (hU p h _ (.head _)),Ne.symm (hU p h _ (.tail _ (.head _)))⟩) fun h=>?_,bZ.app ((hs.mj.cons (a:=la) hs.ap.n3 hs.ap.n4).cons (a:=da) hs.ap.n1 hs.ap.n2) fun p hp=>⟨Ne.symm (hU p hp _ (.tail _ (.tail _ (.head _)))),Ne.symm (hU p hp _ (.tail _ (.tail _ (.tail _ (.head _)))))⟩⟩
  rcases List.mem_cons.mp h with rfl | h
  · exact ⟨Ne.symm hs.ap.n1,Ne.symm hs.ap.n3⟩
  · rcases List.mem_cons.mp h with rfl | h
    · exact ⟨Ne.symm hs.ap.n2,Ne.symm hs.ap.n4⟩
    · exact ⟨hs.ap.jda p h,hs.ap.jla p h⟩
theorem qn {σ:Sy} {g:Addr} {x y r:SV} {many:Nat} {rest:List (Nat×SV)} {i0:Nat} (hg:Nat.beq g 760=true) (hx:x=.s i0) (hi:ρ0[i0]?=some da) (hl:90≤lm) (hs:aE w.params da la md mm ma li ld sv R0 e0 u0 l0 B) (hw:σ.wd=(many,r)::rest) (hmany:Nat.beq many 0=false)
    (z:{ n:Int // ∀ ρ x,VR ρ y x→∃ t,x=.int n t }) (hz:(z.1==(many:Int))=true):aO (dZ w p loose mean mg mb R0 ρ0 lm da la md mm li sv jr fr e0 u0 l0 B) 0 σ g [x,y] r ⟨σ.loc,σ.fr,σ.ol,σ.nx,rest⟩:=fun f v tk xs Q ok S ⟨x',r1,e1,h1,y',r2,e2,h2,e3⟩ hq=>by
  obtain rfl:=Nat.eq_of_beq_eq_true hg
  subst e1 e2 hx
  obtain ⟨a',e,rfl⟩:=h1
  obtain rfl:da=a':=Option.some.inj ((az S.ini hi).symm.trans e)
  obtain ⟨t,rfl⟩:=z.2 _ _ h2
  rw [show r2=[] from e3,beq_iff_eq.mp hz]
  refine cG.out S.wp fun od vs n ls mx t3 omd om es used last e4 D hf MD hom b1 b2 b3=>?_
  rw [hw] at hf b1 b2 b3
  have hne:many≠0:=fun e=>by rw [e] at hmany; cases hmany
  rcases hf with ⟨h0,_⟩ | ⟨⟨k1,k2,k3⟩,hf⟩
  · exact (hne h0).elim
  have hb:bud ((many,r)::rest)=bud rest:=by show (bif Nat.beq many 0 then 1 else 0)+bud rest=_; rw [hmany]; exact Nat.zero_add _
  rw [hb] at b1 b2 b3
  have hN:News f.h₀ f.L v.h (v.Rf++((da,od)::(la,listOf vs.toArray n)::(md,omd)::(mm,om)::R0)):=by rw [← e4]; exact S.nw
  have hU:∀ p∈v.Rf,∀ q∈(da,od)::(la,listOf vs.toArray n)::(md,omd)::(mm,om)::R0,q.1≠p.1:=by rw [← e4]; exact S.up
  have hap:=(hs.all hU).1
  refine bw (f9 (n:=n) (many:=(many:Int)) S.fr ok.X ok.T (ag hN fun p hp=>List.mem_append_right _ ?_) hs.ap.n0 D.dict hs.ap.lo2 D.nums D.low D.m0 D.m1 D.len (by exact ax (.c _ .z) .z (.u (.a (.k 0) (.k 1)) (.v 0) .z) (.a (.k 0) (.k 1)) (.u (.v 0)) rfl (Nat.pos_of_ne_zero hne)) (by exact ax (.c _ .z) .z (.u (.v 0) (.k 2000000) .z) (.u (.v 0)) (.k 2000000) rfl k2) fun t h' tk' vs' n' t3' od' a F' N' d b=>hq _ ⟨v.ρ,v.Rf,(da,od')::(la,listOf vs'.toArray n')::(md,omd)::(mm,om)::R0,h',v.m⟩ tk' (List.prefix_refl _) (k3 _ _) { S with fr:=F',nw:=fun p hp=>?_,sb:=fun p hp=>.tail _ (.tail _ (.tail _ (.tail _ hp))),wp:=⟨od',vs',n',ls.tail,ao ls mx,t3',omd,om,es,used,last,rfl,D.next d a,hf,MD,hom,b1,b2,b3⟩,up:=fun p hp=>?_ } rfl) ok (by show 890≤800+lm; exact lin (.c _ .z) (.c (.k 90) (.v 0) .z) (.k 890) (.a (.k 800) (.v 0)) rfl hl) (by show 8900≤8000+10*lm; exact lin (.c _ .z) (.m 10 (.k 90) (.v 0) .z) (.k 8900) (.a (.k 8000) (.m 10 (.v 0))) rfl hl)
  · rcases List.mem_cons.mp hp with rfl | hp
    · exact .head _
    · rw [List.mem_singleton.mp hp]; exact .tail _ (.head _)
  · have old:∀ p∈v.Rf++((md,omd)::(mm,om)::R0),p∈v.Rf++((da,od)::(la,listOf vs.toArray n)::(md,omd)::(mm,om)::R0)→h'.get? p.1=some p.2∧p.1≠f.L∧f.h₀.get? p.1=none:=fun p hp hq=>⟨b _ _ (hN p hq).1 (pg (hap p hp).1 (hap p hp).2),(hN p hq).2⟩
    rcases List.mem_append.mp hp with hp | hp
    · exact old p (List.mem_append_left _ hp) (List.mem_append_left _ hp)
    · rcases List.mem_cons.mp hp with rfl | hp
      · exact N' _ (.head _)
      · rcases List.mem_cons.mp hp with rfl | hp
        · exact N' _ (.tail _ (.head _))
        · exact old p (List.mem_append_right _ hp) (List.mem_append_right _ (.tail _ (.tail _ hp)))
  · have h1:=hU p hp
    exact fC ⟨(h1 (da,od) (.head _):da≠p.1),fC ⟨(h1 (la,listOf vs.toArray n) (.tail _ (.head _)):la≠p.1),fun q hq=>h1 q (.tail _ (.tail _ hq))⟩⟩
noncomputable def dG (hl:90≤lm) (i0:Nat) (hi:ρ0[i0]?=some da) (hs:aE w.params da la md mm ma li ld sv R0 e0 u0 l0 B):oR (dZ w p loose mean mg mb R0 ρ0 lm da la md mm li sv jr fr e0 u0 l0 B):=fun g vs σ=>match vs with
  | [x,y]=>(ay (Nat.beq g 760)).bind fun hg=>(cI x).bind fun j=>(ay (Nat.beq j.1 i0)).bind fun hj=>(dr y).bind fun z=>(fun wd=>List.rec (motive:=fun l=>σ.wd=l→Option (CC (dZ w p loose mean mg mb R0 ρ0 lm da la md mm li sv jr fr e0 u0 l0 B) 0 g [x,y] σ)) (fun z_=>none) (fun q rest _ hw=>(ay (!Nat.beq q.1 0)).bind fun h0=>(ay (z.1==(q.1:Int))).map fun hz=>⟨q.2,_,qn hg.down j.2 (Nat.eq_of_beq_eq_true hj.down▸hi) hl hs hw (by simpa using h0.down) z hz.down⟩) wd) σ.wd rfl
  | _=>none
end
end
end
section
set_option backward.match.sparseCases false
noncomputable def aF (w:World) (h₀:Heap) (L:Addr) (m:Str→Option Value) (da la md mm li sv jr fr:Addr) (J:List (Addr×Obj)) (es:List (Int×Value)) (used last:Int) (B k:Nat) (s:Shared) (Q:Value→Shared→Prop):Prop:=
  ∀ (tp:Addr) (nt:Nat) (made tree:Value) (t:Tr) (Rn:List (Addr×Obj)) (od':Obj) (vs':List Value) (ls':List Int) (n':Nat) (mx':Int) (t3':Tok) (omd' om':Obj) (es':List (Int×Value)) (used' last':Int) (h':Heap) (tk':Nat),
    aW k t→al w.params Rn made t→aA Rn tree t→(tp,aS #[made,tree] nt)∈Rn→Fr h₀ L h' m→News h₀ L h' Rn→News h₀ L h' ((md,omd')::(mm,om')::(da,od')::(la,listOf vs'.toArray n')::J)→
    DeckIs w la od' vs' ls' mx' t3'→aT w.params li sv jr mm fr used' last' omd'→om'.IsDictOf (intKind rw_on0273_01.row.prog w) es'→es'.length≤es.length+B→
    used≤used'∧used'≤used+100*(B:Int)→last≤last'∧last'≤last+(B:Int)→(∀ p∈Rn,dh md mm da la J p.1)→But [md,mm,da,la] s.heap h'→Q (.ref tp) { s with heap:=h',toks:=tk' }
theorem gr {a:Addr} (l:List (Addr×Obj)) (h:LCg.Off1 a l):∀ q∈l,q.1≠a:=by
  induction l with
  | nil=>exact fun _ hq=>nomatch hq
  | cons q r ih=>exact fC ⟨h.1,ih h.2⟩
theorem ye:True:=by
  k_with "over"=>(refine over_of (by with_reducible assumption) ?_; intro qhz; first | exact over_tail (allLt_drop 0 qhz) (fun _ h=>h) | exact over_tail (allLt_drop 1 qhz) (fun _ h=>h) | exact over_tail (allLt_drop 2 qhz) (fun _ h=>h) | exact over_tail (allLt_drop 3 qhz) (fun _ h=>h) | exact over_tail (allLt_drop 4 qhz) (fun _ h=>h) | exact over_tail (allLt_drop 5 qhz) (fun _ h=>h) | exact over_tail (allLt_drop 6 qhz) (fun _ h=>h) | exact over_tail (allLt_drop 7 qhz) (fun _ h=>h) | exact over_tail (allLt_drop 8 qhz) (fun _ h=>h) | exact over_tail (allLt_drop 9 qhz) (fun _ h=>h) | exact over_tail (allLt_drop 10 qhz) (fun _ h=>h) | exact over_tail (allLt_drop 11 qhz) (fun _ h=>h) | exact over_tail (allLt_drop 12 qhz) (fun _ h=>h) | exact over_tail (allLt_drop 13 qhz) (fun _ h=>h) | exact over_tail (allLt_drop 14 qhz) (fun _ h=>h) | exact over_tail (allLt_drop 15 qhz) (fun _ h=>h))
  trivial
noncomputable section
noncomputable def LK (ρ:List Addr) (P:Params) (lk:Nat→Option SO) (R:List (Addr×Obj)):Prop:=∀ i q,lk i=some q→∃ a o,ρ[i]?=some a∧(a,o)∈R∧OR ρ P q o
section
variable {P:Params} {ρ:List Addr} {lk:Nat→Option SO} {Rf:List (Addr×Obj)}
noncomputable def gI (lk:Nat→Option SO) (C:Addr) (v:SV):Option { d:Nat // ∃ i,v=.s i∧lk i=some (.I C d) }:=(cI v).bind fun i=>(bR (lk i.1)).bind fun o=>(nD o.1).bind fun q=>(ay (Nat.beq q.1.1 C)).map fun h=>⟨q.1.2,i.1,i.2,o.2.trans (congrArg some (q.2.trans (by rw [Nat.eq_of_beq_eq_true h.down])))⟩
noncomputable def gD (lk:Nat→Option SO) (n:Nat) (d:Nat):Option { es:List (Str×SV) // lk d=some (.D es n) }:=(bR (lk d)).bind fun o=>(ww o.1).bind fun q=>(ay (Nat.beq q.1.2 n)).map fun h=>⟨q.1.1,o.2.trans (congrArg some (q.2.trans (by rw [Nat.eq_of_beq_eq_true h.down])))⟩
noncomputable def gT (lk:Nat→Option SO) (v:SV):Option { vs:List SV // ∃ i,v=.s i∧lk i=some (.T vs) }:=(cI v).bind fun i=>(bR (lk i.1)).bind fun o=>(gQ o.1).map fun q=>⟨q.1,i.1,i.2,o.2.trans (congrArg some q.2)⟩
noncomputable def gL (lk:Nat→Option SO) (v:SV):Option { vs:List SV // ∃ i,v=.s i∧lk i=some (.L vs) }:=(cI v).bind fun i=>(bR (lk i.1)).bind fun o=>(dH o.1).map fun q=>⟨q.1,i.1,i.2,o.2.trans (congrArg some q.2)⟩
noncomputable def gB (lk:Nat→Option SO) (v:SV):Option { b:Array UInt8 // ∃ i,v=.s i∧lk i=some (.B b) }:=(cI v).bind fun i=>(bR (lk i.1)).bind fun o=>(vR o.1).map fun q=>⟨q.1,i.1,i.2,o.2.trans (congrArg some q.2)⟩
theorem LK.inst {C d:Nat} {v:SV} {x:Value} (lr:LK ρ P lk Rf) (h:∃ i,v=.s i∧lk i=some (.I C d)) (hv:VR ρ v x):∃ a da,x=.ref a∧ρ[d]?=some da∧(a,instObj C da)∈Rf:=by
  obtain ⟨i,rfl,h⟩:=h
  obtain ⟨a,g,rfl⟩:=hv
  obtain ⟨a2,o,g2,m,da,g3,rfl⟩:=lr _ _ h
  obtain rfl:=Option.some.inj (g.symm.trans g2)
  exact ⟨a,da,rfl,g3,m⟩
theorem LK.dict {d n:Nat} {da:Addr} {es:List (Str×SV)} (lr:LK ρ P lk Rf) (h:lk d=some (.D es n)) (hd:ρ[d]?=some da):∃ es',ER ρ P es es'∧(da,dictOf es' n)∈Rf:=by
  obtain ⟨a2,o,g2,m,es',he,rfl⟩:=lr _ _ h
  obtain rfl:=Option.some.inj (hd.symm.trans g2)
  exact ⟨es',he,m⟩
theorem LK.tup {v:SV} {x:Value} {vs:List SV} (lr:LK ρ P lk Rf) (h:∃ i,v=.s i∧lk i=some (.T vs)) (hv:VR ρ v x):∃ a xs n,x=.ref a∧aC ρ vs xs∧(a,aS xs.toArray n)∈Rf:=by
  obtain ⟨i,rfl,h⟩:=h
  obtain ⟨a,g,rfl⟩:=hv
  obtain ⟨a2,o,g2,m,xs,n,hx,rfl⟩:=lr _ _ h
  obtain rfl:=Option.some.inj (g.symm.trans g2)
  exact ⟨a,xs,n,rfl,hx,m⟩
theorem LK.lst {v:SV} {x:Value} {vs:List SV} (lr:LK ρ P lk Rf) (h:∃ i,v=.s i∧lk i=some (.L vs)) (hv:VR ρ v x):∃ a xs n,x=.ref a∧aC ρ vs xs∧(a,listOf xs.toArray n)∈Rf:=by
  obtain ⟨i,rfl,h⟩:=h
  obtain ⟨a,g,rfl⟩:=hv
  obtain ⟨a2,o,g2,m,xs,n,hx,rfl⟩:=lr _ _ h
  obtain rfl:=Option.some.inj (g.symm.trans g2)
  exact ⟨a,xs,n,rfl,hx,m⟩
theorem LK.ba {v:SV} {x:Value} {b:Array UInt8} (lr:LK ρ P lk Rf) (h:∃ i,v=.s i∧lk i=some (.B b)) (hv:VR ρ v x):∃ a,x=.ref a∧(a,a8 b)∈Rf:=by
  obtain ⟨i,rfl,h⟩:=h
  obtain ⟨a,g,rfl⟩:=hv
  obtain ⟨a2,o,g2,m,rfl⟩:=lr _ _ h
  obtain rfl:=Option.some.inj (g.symm.trans g2)
  exact ⟨a,rfl,m⟩
theorem ER.un {k:Str} {v:SV} {es:List (Str×SV)} {es':List DictEntry} {G:Prop} (h:ER ρ P ((k,v)::es) es') (f:∀ t y r,es'=⟨PyData.keyHash P k,.str k t,y⟩::r→VR ρ v y→ER ρ P es r→G):G:=h.elim fun t h=>h.elim fun y h=>h.elim fun r h=>f t y r h.1 h.2.1 h.2.2
theorem j2 {k1 k2 k3 k4:Str} {v1 v2 v3 v4:SV} {es':List DictEntry} {G:Prop} (h:ER ρ P [(k1,v1),(k2,v2),(k3,v3),(k4,v4)] es')
    (f:∀ t1 t2 t3 t4 y1 y2 y3 y4,es'=[⟨PyData.keyHash P k1,.str k1 t1,y1⟩,⟨PyData.keyHash P k2,.str k2 t2,y2⟩,⟨PyData.keyHash P k3,.str k3 t3,y3⟩,⟨PyData.keyHash P k4,.str k4 t4,y4⟩]→VR ρ v1 y1→VR ρ v2 y2→VR ρ v3 y3→VR ρ v4 y4→G):G:=
  h.un fun t1 y1 r1 e1 c1 h=>h.un fun t2 y2 r2 e2 c2 h=>h.un fun t3 y3 r3 e3 c3 h=>h.un fun t4 y4 r4 e4 c4 (h:r4=[])=>
    f t1 t2 t3 t4 y1 y2 y3 y4 (by rw [e1,e2,e3,e4,h]) c1 c2 c3 c4
theorem nT {k1 k2 k3:Str} {v1 v2 v3:SV} {es':List DictEntry} {G:Prop} (h:ER ρ P [(k1,v1),(k2,v2),(k3,v3)] es')
    (f:∀ t1 t2 t3 y1 y2 y3,es'=[⟨PyData.keyHash P k1,.str k1 t1,y1⟩,⟨PyData.keyHash P k2,.str k2 t2,y2⟩,⟨PyData.keyHash P k3,.str k3 t3,y3⟩]→VR ρ v1 y1→VR ρ v2 y2→VR ρ v3 y3→G):G:=
  h.un fun t1 y1 r1 e1 c1 h=>h.un fun t2 y2 r2 e2 c2 h=>h.un fun t3 y3 r3 e3 c3 (h:r3=[])=>f t1 t2 t3 y1 y2 y3 (by rw [e1,e2,e3,h]) c1 c2 c3
theorem LK.obj {C d n:Nat} {v:SV} {x:Value} {es:List (Str×SV)} {G:Prop} (lr:LK ρ P lk Rf) (h:∃ i,v=.s i∧lk i=some (.I C d)) (hd:lk d=some (.D es n)) (hv:VR ρ v x)
    (f:∀ a da es',x=.ref a→(a,instObj C da)∈Rf→(da,dictOf es' n)∈Rf→ER ρ P es es'→G):G:=
  (lr.inst h hv).elim fun a h=>h.elim fun da h=>(lr.dict hd h.2.1).elim fun es' h'=>f a da es' h.1 h.2.2 h'.2 h'.1
end
end
noncomputable section
inductive kn (lk:Nat→Option SO) (v:SV) (E4:List (Str×SV)) (V:List SV):Prop
  | mk (a e:SV) (d:Nat):(∃ i,v=.s i∧lk i=some (.T [a,e]))→(∃ i,a=.s i∧lk i=some (.I 86 d))→lk d=some (.D E4 4)→(∃ i,e=.s i∧lk i=some (.T V))→kn lk v E4 V
noncomputable def two (L:List SV):Option { q:SV×SV // L=[q.1,q.2] }:=match L with
  | [a,e]=>some ⟨(a,e),rfl⟩
  | _=>none
noncomputable def uC (lk:Nat→Option SO) (v:SV):Option { q:List (Str×SV)×List SV // kn lk v q.1 q.2 }:=(gT lk v).bind fun vs=>(two vs.1).bind fun ae=>(gI lk 86 ae.1.1).bind fun d=>(gD lk 4 d.1).bind fun es=>(gT lk ae.1.2).map fun ws=>⟨(es.1,ws.1),.mk ae.1.1 ae.1.2 d.1 (ae.2▸vs.2) d.2 es.2 ws.2⟩
noncomputable def kg (fr:List (Nat×SO)) (v:SV):Option (List (Str×SV)×List SV):=(uC (fun i=>fr.lookup i) v).map (·.1)
theorem ou {fr:List (Nat×SO)} {v:SV} {E4:List (Str×SV)} {V:List SV} (h:kg fr v=some (E4,V)):kn (fun i=>fr.lookup i) v E4 V:=
  (Option.map_eq_some_iff.mp h).elim fun q h=>(congrArg (fun z=>kn (fun i=>fr.lookup i) v z.1 z.2) h.2).mp q.2
noncomputable def fP {c:Ct} {n:Nat} {r:FnR} {ss:List Stmt} {σ:Sy} (o:Option (CS c n r ss σ)):Option (List (Str×SV)×List SV):=o.bind fun q=>q.res.bind fun v=>kg q.σ'.fr v
noncomputable def t4 (k:Str) (v:SV) (x:Bool):List (Str×SV):=[(Str.ofString "kind",.t k),(Str.ofString "value",v),(Str.ofString "is_exec",.o x),(Str.ofString "access",.i 3)]
variable {w:World} {p:Program} {loose:List Str} {mean:ExcName→Option Value} {mg mb:Str→Option Value} {da la ma:Addr}
noncomputable def dM (k:Nat) (sc:List (Nat×SV)):Sy:=⟨(fn777_3.names.zip [SV.s 1,SV.s 0,SV.i (k:Int)]++fn777_3.extra).reverse,[],[],2,sc⟩
theorem dL {a b c d:Addr×Obj} {J:List (Addr×Obj)}:∀ p∈c::d::a::b::J,p∈a::b::c::d::J:=by
  intro p hp
  simp only [List.mem_cons] at hp ⊢
  rcases hp with h | h | h | h | h <;> simp [h]
theorem fJ {k B:Nat} {t:Tr} {J J' Rc:List (Addr×Obj)} {ρ0:List Addr} {f:Fx} {v':Vr} {σ':Sy} {u:SV} {x:Value} {s:Shared} {h₀:Heap} {L:Addr} {m:Str→Option Value} {md mm li sv jr fr:Addr} {es:List (Int×Value)} {used last:Int} {Q:Value→Shared→Prop} {tk':Nat}
    (S:St (dZ w p loose mean mg mb J' ρ0 90 da la md mm li sv jr fr es.length used last B) f v' σ') (hx:VR v'.ρ u x)
    (hT:∀ {ρ:List Addr} {Rf:List (Addr×Obj)} {x:Value},VR ρ u x→LR ρ w.params σ'.fr Rf→ρ0 <+: ρ→∃ tp nt made tree,x=.ref tp∧(tp,aS #[made,tree] nt)∈Rf∧al w.params (Rf++Rc) made t∧aA (Rf++Rc) tree t)
    (hJ:∀ p∈J,p∈J') (hRc:∀ p∈Rc,p∈J'∧dh md mm da la J p.1) (hO:aW k t) (F':Fr h₀ L v'.h m) (N':News h₀ L v'.h (v'.Rf++v'.R1)) (hb:But [md,mm,da,la] s.heap v'.h)
    (post:aF w h₀ L m da la md mm li sv jr fr J es used last B k s Q):Q x { s with heap:=v'.h,toks:=tk' }:=by
  refine cG.out S.wp fun od vs n ls mx t3 omd om es' used' last' e1 D z_ MD hom b1 b2 b3=>?_
  obtain ⟨tp,nt,made,tree,rfl,m1,h1,h2⟩:=hT hx S.lr S.ini
  rw [e1] at N'
  have hU:∀ p∈v'.Rf,∀ q∈(da,od)::(la,listOf vs.toArray n)::(md,omd)::(mm,om)::J',q.1≠p.1:=by rw [← e1]; exact S.up
  refine post tp nt made tree t (v'.Rf++Rc) od vs ls n mx t3 omd om es' used' last' v'.h tk' hO h1 h2 (List.mem_append_left _ m1) F' (ag N' fun p hp=>?_) (ag N' fun p hp=>List.mem_append_right _ (dL p ?_)) D MD hom (by exact lin (.c _ (.c _ (.c _ (.c _ .z)))) (.c (.a (.v 0) (.v 1)) (.a (.v 2) (.v 3)) .z) (.v 0) (.a (.v 2) (.v 3)) rfl b1) ⟨b2.1,by exact ax (.c _ (.c _ .z)) (.c _ (.c _ .z)) (.c (.a (.v 1) (.m 100 (.u (.v 0)))) (.a (.v 0) (.m 100 (.u (.v 1)))) .z) (.v 1) (.a (.v 0) (.m 100 (.u (.v 1)))) rfl b2.2⟩ ⟨b3.1,by exact ax (.c _ (.c _ .z)) (.c _ (.c _ .z)) (.c (.a (.v 1) (.u (.v 0))) (.a (.v 0) (.u (.v 1))) .z) (.v 1) (.a (.v 0) (.u (.v 1))) rfl b3.2⟩ (fun p hp=>?_) hb
  · rcases List.mem_append.mp hp with hp | hp
    · exact List.mem_append_left _ hp
    · exact List.mem_append_right _ (.tail _ (.tail _ (.tail _ (.tail _ (hRc p hp).1))))
  · rcases List.mem_cons.mp hp with rfl | hp
    · exact .head _
    · rcases List.mem_cons.mp hp with rfl | hp
      · exact .tail _ (.head _)
      · rcases List.mem_cons.mp hp with rfl | hp
        · exact .tail _ (.tail _ (.head _))
        · rcases List.mem_cons.mp hp with rfl | hp
          · exact .tail _ (.tail _ (.tail _ (.head _)))
          · exact .tail _ (.tail _ (.tail _ (.tail _ (hJ p hp))))
  · rcases List.mem_append.mp hp with hp | hp
    · exact ⟨hU p hp _ (.tail _ (.tail _ (.head _))),hU p hp _ (.tail _ (.tail _ (.tail _ (.head _)))),hU p hp _ (.head _),hU p hp _ (.tail _ (.head _)),fun q hq=>hU p hp q (.tail _ (.tail _ (.tail _ (.tail _ (hJ q hq)))))⟩
    · exact (hRc p hp).2
theorem but4 {h₀ h h':Heap} {L:Addr} {md mm da la:Addr} {od ol omd om od' ol' omd' om':Obj} {J R:List (Addr×Obj)} (N:News h₀ L h ((da,od)::(la,ol)::(md,omd)::(mm,om)::J)) (N':News h₀ L h' (R++((da,od')::(la,ol')::(md,omd')::(mm,om')::J)))
    (bt:But (((da,od)::(la,ol)::(md,omd)::(mm,om)::J).map (·.1)) h h'):But [md,mm,da,la] h h':=fun b o eb hn=>by
  simp only [List.mem_cons,List.not_mem_nil,or_false,not_or] at hn
  by_cases hm:b∈((da,od)::(la,ol)::(md,omd)::(mm,om)::J).map (·.1)
  · obtain ⟨q,hq,rfl⟩:=List.mem_map.mp hm
    rcases List.mem_cons.mp hq with rfl | hq
    · exact absurd rfl hn.2.2.1
    · rcases List.mem_cons.mp hq with rfl | hq
      · exact absurd rfl hn.2.2.2
      · rcases List.mem_cons.mp hq with rfl | hq
        · exact absurd rfl hn.1
        · rcases List.mem_cons.mp hq with rfl | hq
          · exact absurd rfl hn.2.1
          · have z:=N q (.tail _ (.tail _ (.tail _ (.tail _ hq))))
            rw [z.1] at eb
            cases eb
            exact (N' q (List.mem_append_right _ (.tail _ (.tail _ (.tail _ (.tail _ hq)))))).1
  · exact bt b o eb hm
theorem pB {ρ:List Addr} {P:Params} {Rf:List (Addr×Obj)} {fr:List (Nat×SO)} {u:SV} {x:Value} {E4:List (Str×SV)} {V:List SV} {t:Tr} (hr:kg fr u=some (E4,V))
    (hT:∀ {ρ:List Addr} {Rf:List (Addr×Obj)} {a dd e:Addr} {es':List DictEntry} {xs:List Value} {q:Nat},ER ρ P E4 es'→aC ρ V xs→(a,instObj 86 dd)∈Rf→(dd,dictOf es' 4)∈Rf→(e,aS xs.toArray q)∈Rf→al P Rf (.ref a) t∧aA Rf (.ref e) t)
    (qq:VR ρ u x) (lr:LR ρ P fr Rf):∃ tp nt made tree,x=.ref tp∧(tp,aS #[made,tree] nt)∈Rf∧al P (Rf++[]) made t∧aA (Rf++[]) tree t:=by
  have lk:LK ρ P (fun i=>fr.lookup i) Rf:=fun i q h=>(lr.get h).elim fun a h=>h.elim fun o h=>⟨a,o,h⟩
  rw [List.append_nil]
  exact (ou hr).casesOn fun a e d h1 h2 h3 h4=>(lk.tup h1 qq).elim fun tp h=>h.elim fun xs h=>h.elim fun n h=>by
    obtain ⟨rfl,hx,m⟩:=h
    obtain ⟨made,r1,rfl,ga,tree,r2,rfl,ge,e2⟩:=hx
    obtain rfl:r2=[]:=e2
    exact (lk.inst h2 ga).elim fun a h=>h.elim fun dd h=>(lk.dict h3 h.2.1).elim fun es' h'=>(lk.tup h4 ge).elim fun e hh=>hh.elim fun xs hh=>hh.elim fun q hh=>by
      obtain ⟨t1,t2⟩:=hT h'.1 hh.2.1 h.2.2 h'.2 hh.2.2
      obtain ⟨rfl,_,_⟩:=h
      obtain ⟨rfl,_,_⟩:=hh
      exact ⟨tp,n,_,_,rfl,m,t1,t2⟩
theorem lU {k:Nat} {E4:List (Str×SV)} {V:List SV} {t:Tr} {sc:List (Nat×SV)} {s:Shared} {h₀:Heap} {L:Addr} {m:Str→Option Value}
    {md mm li ld sv jr fr:Addr} {od omd om:Obj} {t3 dt:Tok} {mx:Int} {vs:List Value} {ls:List Int} {n:Nat} {es:List (Int×Value)} {used last dv:Int} {J:List (Addr×Obj)} {Q:Value→Shared→Prop} {B:Nat}
    {σ':Sy} {u:SV} (j:af (dZ w p loose mean mg mb J [da,ma] 90 da la md mm li sv jr fr es.length used last B) 34 (dM k sc) (fun L=>execs fn777_3.body (aa fn777_3 L)) (ak (some u)) σ') (hr:kg σ'.fr u=some (E4,V))
    (hs:aE w.params da la md mm ma li ld sv J es.length used last B) (hbd:bud sc≤B) (hf:cZ ls mx sc) (hT:∀ {ρ:List Addr} {Rf:List (Addr×Obj)} {a dd e:Addr} {es':List DictEntry} {xs:List Value} {q:Nat},ER ρ w.params E4 es'→aC ρ V xs→(a,instObj 86 dd)∈Rf→(dd,dictOf es' 4)∈Rf→(e,aS xs.toArray q)∈Rf→al w.params Rf (.ref a) t∧aA Rf (.ref e) t)
    (hO:aW k t) (hk:k≤3) (hdv:dv=(k:Int)) (F:Fr h₀ L s.heap m) (X:(Mine.hd.heap_1 w.params).In h₀) (T:Top p loose mean mg mb h₀)
    (N:News h₀ L s.heap ((md,omd)::(mm,om)::(da,od)::(la,listOf vs.toArray n)::J)) (D:DeckIs w la od vs ls mx t3) (MD:aT w.params li sv jr mm fr used last omd)
    (hom:om.IsDictOf (intKind rw_on0273_01.row.prog w) es) (post:aF w h₀ L m da la md mm li sv jr fr J es used last B k s Q) :
    aw (model PG w) (AR (730 - 40*k) (7300 - 400*k)) (call (.ref 777) [.ref ma,.ref da,.int dv dt]) Q (fun z_ z_=>False) s:=by
  subst hdv
  obtain ⟨fa,hlen,fok⟩:=(cO w.params).fn 777 3 fn777_3 (by kernel_rfl)
  have hN:News h₀ L s.heap ((da,od)::(la,listOf vs.toArray n)::(md,omd)::(mm,om)::J):=ag N dL
  refine aD (wpAny_call (cn (c:=dZ w p loose mean mg mb J [da,ma] 90 da la md mm li sv jr fr es.length used last B) (f:=⟨AR (730 - 40*k) (7300 - 400*k),fun z_ z_=>False,h₀,L,s⟩) (v:=⟨[da,ma],[],(da,od)::(la,listOf vs.toArray n)::(md,omd)::(mm,om)::J,s.heap,m⟩) (tk:=s.toks) (loc:=[]) (vs:=[.s 1,.s 0,.i (k:Int)]) fok j rfl (by show 730 - 40*k+1+2*34+90≤890; exact lin (.c _ .z) (.c (.v 0) (.k 730) .z) (.a (.a (.a (.v 0) (.k 1)) (.m 2 (.k 34))) (.k 90)) (.k 890) rfl (Nat.sub_le _ _)) (by show 7300 - 400*k+3+20*34+10*90≤8900; exact lin (.c _ .z) (.c (.v 0) (.k 7300) .z) (.a (.a (.a (.v 0) (.k 3)) (.m 20 (.k 34))) (.m 10 (.k 90))) (.k 8900) rfl (Nat.sub_le _ _)) X T
    ⟨F,(fun _ _ h=>nomatch h),hN,rfl,(fun _ _ h=>nomatch h),(fun _ h=>.tail _ (.tail _ (.tail _ (.tail _ h)))),⟨od,vs,n,ls,mx,t3,omd,om,es,used,last,rfl,D,hf,MD,hom,Nat.add_le_add_left hbd _,⟨Int.le_refl _,Int.add_le_add_left (Int.mul_le_mul_of_nonneg_left (Int.ofNat_le.mpr hbd) (by decide)) _⟩,⟨Int.le_refl _,Int.add_le_add_left (Int.ofNat_le.mpr hbd) _⟩⟩,rfl,.nil,(fun _ h=>nomatch h),List.prefix_refl _⟩ rfl (.cons (.s rfl) (.cons (.s rfl) (.cons .i .nil))) rfl fun x v' tk' pp qq S _ F' bt=>?_))
  have S':=S
  obtain ⟨od',vs',n',ls',mx',t3',omd',om',es',used',last',e1,_⟩:=S'.wp
  have hnw:News h₀ L v'.h (v'.Rf++((da,od')::(la,listOf vs'.toArray n')::(md,omd')::(mm,om')::J)):=by rw [← e1]; exact S.nw
  exact fJ (Rc:=[]) (J:=J) S qq (fun q l _=>pB hr hT q l) (fun _ h=>h) (fun _ h=>nomatch h) hO F' S.nw (but4 hN hnw (by simpa using bt)) post
theorem gb {k:Nat} {E4:List (Str×SV)} {V:List SV} {t:Tr} {sc:List (Nat×SV)} {s:Shared} {h₀:Heap} {L:Addr} {m:Str→Option Value}
    {md mm li ld sv jr fr:Addr} {od omd om:Obj} {t3 dt:Tok} {mx:Int} {vs:List Value} {ls:List Int} {n:Nat} {es:List (Int×Value)} {used last dv:Int} {J:List (Addr×Obj)} {Q:Value→Shared→Prop} {B:Nat}
    (o:Option (CS (dZ w p loose mean mg mb J [da,ma] 90 da la md mm li sv jr fr es.length used last B) 34 fn777_3 fn777_3.body (dM k sc))) (hr:fP o=some (E4,V))
    (hs:aE w.params da la md mm ma li ld sv J es.length used last B) (hbd:bud sc≤B) (hf:cZ ls mx sc) (hT:∀ {ρ:List Addr} {Rf:List (Addr×Obj)} {a dd e:Addr} {es':List DictEntry} {xs:List Value} {q:Nat},ER ρ w.params E4 es'→aC ρ V xs→(a,instObj 86 dd)∈Rf→(dd,dictOf es' 4)∈Rf→(e,aS xs.toArray q)∈Rf→al w.params Rf (.ref a) t∧aA Rf (.ref e) t)
    (hO:aW k t) (hk:k≤3) (hdv:dv=(k:Int)) (F:Fr h₀ L s.heap m) (X:(Mine.hd.heap_1 w.params).In h₀) (T:Top p loose mean mg mb h₀)
    (N:News h₀ L s.heap ((md,omd)::(mm,om)::(da,od)::(la,listOf vs.toArray n)::J)) (D:DeckIs w la od vs ls mx t3) (MD:aT w.params li sv jr mm fr used last omd)
    (hom:om.IsDictOf (intKind rw_on0273_01.row.prog w) es) (post:aF w h₀ L m da la md mm li sv jr fr J es used last B k s Q) :
    aw (model PG w) (AR (730 - 40*k) (7300 - 400*k)) (call (.ref 777) [.ref ma,.ref da,.int dv dt]) Q (fun z_ z_=>False) s:=by
  obtain ⟨q,hq,h1⟩:=Option.bind_eq_some_iff.mp hr
  obtain ⟨u,hu,h2⟩:=Option.bind_eq_some_iff.mp h1
  obtain ⟨res,σ',j⟩:=q
  obtain rfl:res=some u:=hu
  exact lU j h2 hs hbd hf hT hO hk hdv F X T N D MD hom post
theorem ar {k:Nat} {E4:List (Str×SV)} {V:List SV} {t:Tr} {sc:List (Nat×SV)} {s:Shared} {h₀:Heap} {L:Addr} {m:Str→Option Value}
    {md mm li ld sv jr fr:Addr} {od omd om:Obj} {t3 dt:Tok} {mx:Int} {vs:List Value} {ls:List Int} {n:Nat} {es:List (Int×Value)} {used last dv:Int} {J:List (Addr×Obj)} {Q:Value→Shared→Prop} {B:Nat}
    (hs:aE w.params da la md mm ma li ld sv J es.length used last B) (hr:fP ((run (c:=dZ w p loose mean mg mb J [da,ma] 90 da la md mm li sv jr fr es.length used last B) (dG (Nat.le_refl _) 0 rfl hs) 34).S fn777_3 fn777_3.body (dM k sc))=some (E4,V)) (hbd:Nat.beq (bud sc) 0=true)
    (hf:cZ ls mx sc) (hT:∀ {ρ:List Addr} {Rf:List (Addr×Obj)} {a dd e:Addr} {es':List DictEntry} {xs:List Value} {q:Nat},ER ρ w.params E4 es'→aC ρ V xs→(a,instObj 86 dd)∈Rf→(dd,dictOf es' 4)∈Rf→(e,aS xs.toArray q)∈Rf→al w.params Rf (.ref a) t∧aA Rf (.ref e) t)
    (hO:aW k t) (hk:k≤3) (hdv:dv=(k:Int)) (F:Fr h₀ L s.heap m) (X:(Mine.hd.heap_1 w.params).In h₀) (T:Top p loose mean mg mb h₀)
    (N:News h₀ L s.heap ((md,omd)::(mm,om)::(da,od)::(la,listOf vs.toArray n)::J)) (D:DeckIs w la od vs ls mx t3) (MD:aT w.params li sv jr mm fr used last omd)
    (hom:om.IsDictOf (intKind rw_on0273_01.row.prog w) es) (post:aF w h₀ L m da la md mm li sv jr fr J es used last B k s Q) :
    aw (model PG w) (AR (730 - 40*k) (7300 - 400*k)) (call (.ref 777) [.ref ma,.ref da,.int dv dt]) Q (fun z_ z_=>False) s:=
  gb _ hr hs (by rw [Nat.eq_of_beq_eq_true hbd]; exact Nat.zero_le _) hf hT hO hk hdv F X T N D MD hom post
end
end
section
set_option backward.match.sparseCases false
noncomputable section
variable {P:Params} {ρ:List Addr}
theorem km {k:Str} {v:SV} {x:Bool} {es':List DictEntry} (h:ER ρ P (t4 k v x) es'):∃ y t t0 t1 t2 t3 t4,VR ρ v y∧dictOf es' 4=aZ P k y x 3 t t0 t1 t2 t3 t4:=by
  obtain ⟨a1,b1,r1,rfl,⟨c1,rfl⟩,a2,b2,r2,rfl,hv,a3,b3,r3,rfl,h3,a4,b4,r4,rfl,⟨c4,rfl⟩,h5⟩:=h
  obtain rfl:b3=.bool x:=h3
  obtain rfl:r4=[]:=h5
  exact ⟨b2,c1,c4,a1,a2,a3,a4,hv,rfl⟩
theorem jq {k:Str} {b:SV} {xs:List Value} (h:aC ρ [.t k,b] xs):∃ t y,xs=[.str k t,y]∧VR ρ b y:=by
  obtain ⟨a1,r1,rfl,⟨c1,rfl⟩,a2,r2,rfl,hb,h5⟩:=h
  obtain rfl:r2=[]:=h5
  exact ⟨c1,a2,rfl,hb⟩
theorem oi {k kk:Str} {v b:SV} {x:Bool} {t:Tr} (h:∀ {ρ:List Addr} {R:List (Addr×Obj)} {a dd e:Addr} {y z:Value} {u t0 t1 t2 t3 t4:Tok} {q:Nat} {s:Tok},VR ρ v y→VR ρ b z→(a,instObj 86 dd)∈R→(dd,aZ P k y x 3 u t0 t1 t2 t3 t4)∈R→(e,aS #[.str kk s,z] q)∈R→al P R (.ref a) t∧aA R (.ref e) t)
    {ρ:List Addr} {R:List (Addr×Obj)} {a dd e:Addr} {es':List DictEntry} {xs:List Value} {q:Nat} (hE:ER ρ P (t4 k v x) es') (hV:aC ρ [.t kk,b] xs) (m1:(a,instObj 86 dd)∈R) (m2:(dd,dictOf es' 4)∈R) (m3:(e,aS xs.toArray q)∈R):al P R (.ref a) t∧aA R (.ref e) t:=by
  obtain ⟨y,u,u0,u1,u2,u3,u4,hy,e4⟩:=km hE
  rw [e4] at m2
  obtain ⟨s,z,rfl,hb⟩:=jq hV
  exact h hy hb m1 m2 m3
variable {w:World} {p:Program} {loose:List Str} {mean:ExcName→Option Value} {mg mb:Str→Option Value} {da la ma:Addr}
theorem bX {w:World} {la:Addr} {od:Obj} {vs:List Value} {ls:List Int} {mx many:Int} {t3:Tok} (D:DeckIs w la od vs ls mx t3) (hm:0<many):0≤aq ls.tail (ao ls mx) many∧aq ls.tail (ao ls mx) many<many:=by
  cases ls.tail <;> (
    unfold aq
    dsimp only
    rw [Int.fmod_eq_emod_of_nonneg _ (by exact ax .z (.c _ .z) (.c (.a (.k 0) (.k 1)) (.v 0) .z) (.k 0) (.v 0) rfl hm)]
    exact ⟨Int.emod_nonneg _ (by exact fun q=>ly .z (.c _ .z) (.c (.a (.k 0) (.k 1)) (.v 0) (.c (.v 0) (.k 0) .z)) rfl hm (oh q)),Int.emod_lt_of_pos _ hm⟩)
theorem bp {k:Nat} {s:Shared} {h₀:Heap} {L:Addr} {m:Str→Option Value}
    {md mm li ld sv jr fr:Addr} {od omd om:Obj} {t3 dt:Tok} {mx:Int} {vs:List Value} {ls:List Int} {n:Nat} {es:List (Int×Value)} {used last dv:Int} {J:List (Addr×Obj)} {Q:Value→Shared→Prop} {B:Nat}
    (hw:aq ls mx 13=1∨aq ls mx 13=2∨aq ls mx 13=4∨aq ls mx 13=5∨aq ls mx 13=6∨aq ls mx 13=9) (hs:aE w.params da la md mm ma li ld sv J es.length used last B) (hk:k≤3) (hdv:dv=(k:Int)) (F:Fr h₀ L s.heap m) (X:(Mine.hd.heap_1 w.params).In h₀) (T:Top p loose mean mg mb h₀)
    (N:News h₀ L s.heap ((md,omd)::(mm,om)::(da,od)::(la,listOf vs.toArray n)::J)) (D:DeckIs w la od vs ls mx t3) (MD:aT w.params li sv jr mm fr used last omd)
    (hom:om.IsDictOf (intKind rw_on0273_01.row.prog w) es) (post:aF w h₀ L m da la md mm li sv jr fr J es used last B k s Q) :
    aw (model PG w) (AR (730 - 40*k) (7300 - 400*k)) (call (.ref 777) [.ref ma,.ref da,.int dv dt]) Q (fun z_ z_=>False) s:=by
  have lit:∀ {ls:List Int} {mx:Int} {q:Nat} {j:Int} {l:List (Nat×SV)},0<q∧q≤2000000→aq ls mx q=j→cZ ls.tail (ao ls mx) l→cZ ls mx ((q,.i j)::l):=fun hq e h=>.inr ⟨⟨hq.1,hq.2,fun ρ t=>⟨t,by rw [e]⟩⟩,h⟩
  have fin:∀ {ls:List Int} {mx:Int},cZ ls mx []:=trivial
  have zed:∀ {ls:List Int} {mx:Int} {q b:Nat} {h:(aq ls mx q).natAbs≤b} {l:List (Nat×SV)},0<q∧q≤2000000→cZ ls.tail (ao ls mx) l→cZ ls mx ((q,.z (aq ls mx q) b h)::l):=fun hq h=>.inr ⟨⟨hq.1,hq.2,fun ρ t=>⟨t,rfl⟩⟩,h⟩
  have b2:0≤aq ls.tail (ao ls mx) 2∧aq ls.tail (ao ls mx) 2<2:=bX D (by decide)
  have b3:0≤aq ls.tail (ao ls mx) 3∧aq ls.tail (ao ls mx) 3<3:=bX D (by decide)
  have bN:0≤aq ls.tail (ao ls mx) 1000003∧aq ls.tail (ao ls mx) 1000003<1000003:=bX D (by decide)
  rcases hw with e | e | e | e | e | e
  · have hsel:∀ j:Nat,(([1,1000,500]:List Int).getD j 0).natAbs≤1000:=fun j=>by
      match j with
      | 0 | 1 | 2=>decide
      | j+3=>exact Nat.zero_le _
    have hz:(((aq ls.tail (ao ls mx) 1000003 - 500001)*[1,1000,500].getD (Int.fmod (aq ls.tail (ao ls mx) 1000003 - 500001) 3).toNat 0)).natAbs≤600000000:=by
      rw [Int.natAbs_mul]
      exact Nat.le_trans (Nat.mul_le_mul (by exact eH (ax .z (.c _ .z) (.c (.a (.v 0) (.k 1)) (.k 1000003) .z) (.s (.v 0) (.k 500001)) (.u (.k 500002)) rfl bN.2) (ax .z (.c _ .z) (.c (.k 0) (.v 0) .z) (.g (.s (.v 0) (.k 500001))) (.u (.k 500002)) rfl bN.1):_≤500002) (hsel _)) (by decide)
    have hz2:(aq ls.tail (ao ls mx) 1000003).natAbs≤1000003:=by exact eH (ax .z (.c _ .z) (.c (.a (.v 0) (.k 1)) (.k 1000003) .z) (.v 0) (.u (.k 1000003)) rfl bN.2) (ax .z (.c _ .z) (.c (.k 0) (.v 0) .z) (.g (.v 0)) (.u (.k 1000003)) rfl bN.1)
    have hz3:(((aq ls.tail (ao ls mx) 1000003 - 500001)*[1,1000,500].getD (Int.fmod (aq ls.tail (ao ls mx) 1000003 - 500001) 3).toNat 0)).natAbs≤1500004*1501:=Nat.le_trans hz (by decide)
    refine ar (t:=.real ((aq ls.tail (ao ls mx) 1000003 - 500001)*[1,1000,500].getD (Int.fmod (aq ls.tail (ao ls mx) 1000003 - 500001) 3).toNat 0)) (E4:=t4 (Str.ofString "real") (.z ((aq ls.tail (ao ls mx) 1000003 - 500001)*[1,1000,500].getD (Int.fmod (aq ls.tail (ao ls mx) 1000003 - 500001) 3).toNat 0) (1500004*1501) hz3) false) (V:=[.t (Str.ofString "real"),.z ((aq ls.tail (ao ls mx) 1000003 - 500001)*[1,1000,500].getD (Int.fmod (aq ls.tail (ao ls mx) 1000003 - 500001) 3).toNat 0) (1500004*1501) hz3]) hs (by kernel_rfl) (by kernel_rfl) (lit ⟨by decide,by decide⟩ e (zed (h:=hz2) ⟨by decide,by decide⟩ fin)) (oi fun hy hb m1 m2 m3=>by
        obtain ⟨u5,rfl⟩:=hy
        obtain ⟨u6,rfl⟩:=hb
        exact ⟨.real m1 m2,.real m3⟩) (.real hz) hk hdv F X T N D MD hom post
  · rcases (ors_of 1 b2:aq ls.tail (ao ls mx) 2=0∨aq ls.tail (ao ls mx) 2=1) with e2 | e2
    · exact ar (t:=.bool false) (E4:=t4 (Str.ofString "boolean") (.o false) false) (V:=[.t (Str.ofString "plain"),.b (truthB false)]) hs (by kernel_rfl) (by kernel_rfl) (lit ⟨by decide,by decide⟩ e (lit ⟨by decide,by decide⟩ e2 fin)) (oi fun hy hb m1 m2 m3=>by
        obtain rfl:=hy
        obtain ⟨u6,rfl⟩:=hb
        exact ⟨.bool m1 m2,.bool m3⟩) .bool hk hdv F X T N D MD hom post
    · exact ar (t:=.bool true) (E4:=t4 (Str.ofString "boolean") (.o true) false) (V:=[.t (Str.ofString "plain"),.b (truthB true)]) hs (by kernel_rfl) (by kernel_rfl) (lit ⟨by decide,by decide⟩ e (lit ⟨by decide,by decide⟩ e2 fin)) (oi fun hy hb m1 m2 m3=>by
        obtain rfl:=hy
        obtain ⟨u6,rfl⟩:=hb
        exact ⟨.bool m1 m2,.bool m3⟩) .bool hk hdv F X T N D MD hom post
  · rcases (ors_of 2 b3:aq ls.tail (ao ls mx) 3=0∨aq ls.tail (ao ls mx) 3=1∨aq ls.tail (ao ls mx) 3=2) with e2 | e2 | e2
    · exact ar (t:=.op #[97,100,100]) (E4:=t4 (Str.ofString "operator") (.b #[97,100,100]) true) (V:=[.t (Str.ofString "operator"),.b #[97,100,100]]) hs (by kernel_rfl) (by kernel_rfl) (lit ⟨by decide,by decide⟩ e (lit ⟨by decide,by decide⟩ e2 fin)) (oi fun hy hb m1 m2 m3=>by
        obtain ⟨u5,rfl⟩:=hy
        obtain ⟨u6,rfl⟩:=hb
        exact ⟨.op m1 m2,.op m3⟩) (.op (by decide)) hk hdv F X T N D MD hom post
    · exact ar (t:=.op #[61]) (E4:=t4 (Str.ofString "operator") (.b #[61]) true) (V:=[.t (Str.ofString "operator"),.b #[61]]) hs (by kernel_rfl) (by kernel_rfl) (lit ⟨by decide,by decide⟩ e (lit ⟨by decide,by decide⟩ e2 fin)) (oi fun hy hb m1 m2 m3=>by
        obtain ⟨u5,rfl⟩:=hy
        obtain ⟨u6,rfl⟩:=hb
        exact ⟨.op m1 m2,.op m3⟩) (.op (by decide)) hk hdv F X T N D MD hom post
    · exact ar (t:=.op #[91]) (E4:=t4 (Str.ofString "operator") (.b #[91]) true) (V:=[.t (Str.ofString "operator"),.b #[91]]) hs (by kernel_rfl) (by kernel_rfl) (lit ⟨by decide,by decide⟩ e (lit ⟨by decide,by decide⟩ e2 fin)) (oi fun hy hb m1 m2 m3=>by
        obtain ⟨u5,rfl⟩:=hy
        obtain ⟨u6,rfl⟩:=hb
        exact ⟨.op m1 m2,.op m3⟩) (.op (by decide)) hk hdv F X T N D MD hom post
  · exact ar (t:=.word .mark) (E4:=t4 (Str.ofString "mark") .n false) (V:=[.t (Str.ofString "word"),.b (Wd.bytes .mark)]) hs (by kernel_rfl) (by kernel_rfl) (lit ⟨by decide,by decide⟩ e fin) (oi fun hy hb m1 m2 m3=>by
        obtain ⟨u6,rfl⟩:=hb
        exact ⟨.word (k:=.mark) m1 m2,.word (c:=.mark) m3⟩) .word hk hdv F X T N D MD hom post
  · exact ar (t:=.word .null) (E4:=t4 (Str.ofString "null") .n false) (V:=[.t (Str.ofString "word"),.b (Wd.bytes .null)]) hs (by kernel_rfl) (by kernel_rfl) (lit ⟨by decide,by decide⟩ e fin) (oi fun hy hb m1 m2 m3=>by
        obtain ⟨u6,rfl⟩:=hb
        exact ⟨.word (k:=.null) m1 m2,.word (c:=.null) m3⟩) .word hk hdv F X T N D MD hom post
  · rcases (ors_of 1 b2:aq ls.tail (ao ls mx) 2=0∨aq ls.tail (ao ls mx) 2=1) with e2 | e2
    · exact ar (t:=.word .save) (E4:=t4 (Str.ofString "save") (.i 3) false) (V:=[.t (Str.ofString "word"),.b (Wd.bytes .save)]) hs (by kernel_rfl) (by kernel_rfl) (lit ⟨by decide,by decide⟩ e (lit ⟨by decide,by decide⟩ e2 fin)) (oi fun hy hb m1 m2 m3=>by
        obtain ⟨u6,rfl⟩:=hb
        exact ⟨.word (k:=.save) m1 m2,.word (c:=.save) m3⟩) .word hk hdv F X T N D MD hom post
    · exact ar (t:=.word .fontid) (E4:=t4 (Str.ofString "fontid") (.i 4) false) (V:=[.t (Str.ofString "word"),.b (Wd.bytes .fontid)]) hs (by kernel_rfl) (by kernel_rfl) (lit ⟨by decide,by decide⟩ e (lit ⟨by decide,by decide⟩ e2 fin)) (oi fun hy hb m1 m2 m3=>by
        obtain ⟨u6,rfl⟩:=hb
        exact ⟨.word (k:=.fontid) m1 m2,.word (c:=.fontid) m3⟩) .word hk hdv F X T N D MD hom post
end
end
section
noncomputable section
variable {P:Params} {ρ:List Addr}
theorem fw {w:World} {la:Addr} {od:Obj} {vs:List Value} {ls:List Int} {mx many:Int} {t3:Tok} (D:DeckIs w la od vs ls mx t3) (hm:0<many):0≤aq ls.tail.tail (ao ls.tail (ao ls mx)) many∧aq ls.tail.tail (ao ls.tail (ao ls mx)) many<many:=by
  cases ls.tail.tail <;> (
    unfold aq
    dsimp only
    rw [Int.fmod_eq_emod_of_nonneg _ (by exact ax .z (.c _ .z) (.c (.a (.k 0) (.k 1)) (.v 0) .z) (.k 0) (.v 0) rfl hm)]
    exact ⟨Int.emod_nonneg _ (by exact fun q=>ly .z (.c _ .z) (.c (.a (.k 0) (.k 1)) (.v 0) (.c (.v 0) (.k 0) .z)) rfl hm (oh q)),Int.emod_lt_of_pos _ hm⟩)
theorem my {k:Str} {b d:SV} {xs:List Value} (h:aC ρ [.t k,b,d] xs):∃ t y z,xs=[.str k t,y,z]∧VR ρ b y∧VR ρ d z:=by
  obtain ⟨a1,r1,rfl,⟨c1,rfl⟩,a2,r2,rfl,hb,a3,r3,rfl,hd,h5⟩:=h
  obtain rfl:r3=[]:=h5
  exact ⟨c1,a2,a3,rfl,hb,hd⟩
variable {w:World} {p:Program} {loose:List Str} {mean:ExcName→Option Value} {mg mb:Str→Option Value} {da la ma:Addr}
theorem bG {o:Array UInt8} {x:Bool} {R:List (Addr×Obj)} {a dd e:Addr} {es':List DictEntry} {xs:List Value} {q:Nat} (hE:ER ρ P (t4 (Str.ofString "name") (.b o) x) es') (hV:aC ρ [.t (Str.ofString "name"),.b o,.o x] xs) (m1:(a,instObj 86 dd)∈R) (m2:(dd,dictOf es' 4)∈R) (m3:(e,aS xs.toArray q)∈R):al P R (.ref a) (.name o x)∧aA R (.ref e) (.name o x):=by
  obtain ⟨y,u,u0,u1,u2,u3,u4,⟨u5,rfl⟩,e4⟩:=km hE
  rw [e4] at m2
  obtain ⟨v,z,zz,rfl,⟨u6,rfl⟩,hd⟩:=my hV
  obtain rfl:zz=.bool x:=hd
  exact ⟨.name m1 m2,.name m3⟩
theorem iu {k:Nat} {s:Shared} {h₀:Heap} {L:Addr} {m:Str→Option Value}
    {md mm li ld sv jr fr:Addr} {od omd om:Obj} {t3 dt:Tok} {mx:Int} {vs:List Value} {ls:List Int} {n:Nat} {es:List (Int×Value)} {used last dv:Int} {J:List (Addr×Obj)} {Q:Value→Shared→Prop} {B:Nat}
    (e:aq ls mx 13=3) (hs:aE w.params da la md mm ma li ld sv J es.length used last B) (hk:k≤3) (hdv:dv=(k:Int)) (F:Fr h₀ L s.heap m) (X:(Mine.hd.heap_1 w.params).In h₀) (T:Top p loose mean mg mb h₀)
    (N:News h₀ L s.heap ((md,omd)::(mm,om)::(da,od)::(la,listOf vs.toArray n)::J)) (D:DeckIs w la od vs ls mx t3) (MD:aT w.params li sv jr mm fr used last omd)
    (hom:om.IsDictOf (intKind rw_on0273_01.row.prog w) es) (post:aF w h₀ L m da la md mm li sv jr fr J es used last B k s Q) :
    aw (model PG w) (AR (730 - 40*k) (7300 - 400*k)) (call (.ref 777) [.ref ma,.ref da,.int dv dt]) Q (fun z_ z_=>False) s:=by
  have lit:∀ {ls:List Int} {mx:Int} {q:Nat} {j:Int} {l:List (Nat×SV)},0<q∧q≤2000000→aq ls mx q=j→cZ ls.tail (ao ls mx) l→cZ ls mx ((q,.i j)::l):=fun hq e h=>.inr ⟨⟨hq.1,hq.2,fun ρ t=>⟨t,by rw [e]⟩⟩,h⟩
  have fin:∀ {ls:List Int} {mx:Int},cZ ls mx []:=trivial
  have zed:∀ {ls:List Int} {mx:Int} {q b:Nat} {h:(aq ls mx q).natAbs≤b} {l:List (Nat×SV)},0<q∧q≤2000000→cZ ls.tail (ao ls mx) l→cZ ls mx ((q,.z (aq ls mx q) b h)::l):=fun hq h=>.inr ⟨⟨hq.1,hq.2,fun ρ t=>⟨t,rfl⟩⟩,h⟩
  have b9:0≤aq ls.tail (ao ls mx) 9∧aq ls.tail (ao ls mx) 9<9:=bX D (by decide)
  have b2:0≤aq ls.tail.tail (ao ls.tail (ao ls mx)) 2∧aq ls.tail.tail (ao ls.tail (ao ls mx)) 2<2:=fw D (by decide)
  have hz:(aq ls.tail.tail (ao ls.tail (ao ls mx)) 2).natAbs≤2:=by exact eH (ax .z (.c _ .z) (.c (.a (.v 0) (.k 1)) (.k 2) .z) (.v 0) (.u (.k 2)) rfl b2.2) (ax .z (.c _ .z) (.c (.k 0) (.v 0) .z) (.g (.v 0)) (.u (.k 2)) rfl b2.1)
  rcases (ors_of 8 b9:aq ls.tail (ao ls mx) 9=0∨aq ls.tail (ao ls mx) 9=1∨aq ls.tail (ao ls mx) 9=2∨aq ls.tail (ao ls mx) 9=3∨aq ls.tail (ao ls mx) 9=4∨aq ls.tail (ao ls mx) 9=5∨aq ls.tail (ao ls mx) 9=6∨aq ls.tail (ao ls mx) 9=7∨aq ls.tail (ao ls mx) 9=8) with e2 | e2 | e2 | e2 | e2 | e2 | e2 | e2 | e2
  · exact ar (t:=.name #[97] (aq ls.tail.tail (ao ls.tail (ao ls mx)) 2==1)) (E4:=t4 (Str.ofString "name") (.b #[97]) (aq ls.tail.tail (ao ls.tail (ao ls mx)) 2==1)) (V:=[.t (Str.ofString "name"),.b #[97],.o (aq ls.tail.tail (ao ls.tail (ao ls mx)) 2==1)]) hs (by kernel_rfl) (by kernel_rfl) (lit ⟨by decide,by decide⟩ e (lit ⟨by decide,by decide⟩ e2 (zed (h:=hz) ⟨by decide,by decide⟩ fin))) bG (.name (by decide)) hk hdv F X T N D MD hom post
  · exact ar (t:=.name #[97,100,100] (aq ls.tail.tail (ao ls.tail (ao ls mx)) 2==1)) (E4:=t4 (Str.ofString "name") (.b #[97,100,100]) (aq ls.tail.tail (ao ls.tail (ao ls mx)) 2==1)) (V:=[.t (Str.ofString "name"),.b #[97,100,100],.o (aq ls.tail.tail (ao ls.tail (ao ls mx)) 2==1)]) hs (by kernel_rfl) (by kernel_rfl) (lit ⟨by decide,by decide⟩ e (lit ⟨by decide,by decide⟩ e2 (zed (h:=hz) ⟨by decide,by decide⟩ fin))) bG (.name (by decide)) hk hdv F X T N D MD hom post
  · exact ar (t:=.name #[] (aq ls.tail.tail (ao ls.tail (ao ls mx)) 2==1)) (E4:=t4 (Str.ofString "name") (.b #[]) (aq ls.tail.tail (ao ls.tail (ao ls mx)) 2==1)) (V:=[.t (Str.ofString "name"),.b #[],.o (aq ls.tail.tail (ao ls.tail (ao ls mx)) 2==1)]) hs (by kernel_rfl) (by kernel_rfl) (lit ⟨by decide,by decide⟩ e (lit ⟨by decide,by decide⟩ e2 (zed (h:=hz) ⟨by decide,by decide⟩ fin))) bG (.name (by decide)) hk hdv F X T N D MD hom post
  · exact ar (t:=.name #[97,32,98] (aq ls.tail.tail (ao ls.tail (ao ls mx)) 2==1)) (E4:=t4 (Str.ofString "name") (.b #[97,32,98]) (aq ls.tail.tail (ao ls.tail (ao ls mx)) 2==1)) (V:=[.t (Str.ofString "name"),.b #[97,32,98],.o (aq ls.tail.tail (ao ls.tail (ao ls mx)) 2==1)]) hs (by kernel_rfl) (by kernel_rfl) (lit ⟨by decide,by decide⟩ e (lit ⟨by decide,by decide⟩ e2 (zed (h:=hz) ⟨by decide,by decide⟩ fin))) bG (.name (by decide)) hk hdv F X T N D MD hom post
  · exact ar (t:=.name #[49] (aq ls.tail.tail (ao ls.tail (ao ls mx)) 2==1)) (E4:=t4 (Str.ofString "name") (.b #[49]) (aq ls.tail.tail (ao ls.tail (ao ls mx)) 2==1)) (V:=[.t (Str.ofString "name"),.b #[49],.o (aq ls.tail.tail (ao ls.tail (ao ls mx)) 2==1)]) hs (by kernel_rfl) (by kernel_rfl) (lit ⟨by decide,by decide⟩ e (lit ⟨by decide,by decide⟩ e2 (zed (h:=hz) ⟨by decide,by decide⟩ fin))) bG (.name (by decide)) hk hdv F X T N D MD hom post
  · exact ar (t:=.name #[45,50,46,53] (aq ls.tail.tail (ao ls.tail (ao ls mx)) 2==1)) (E4:=t4 (Str.ofString "name") (.b #[45,50,46,53]) (aq ls.tail.tail (ao ls.tail (ao ls mx)) 2==1)) (V:=[.t (Str.ofString "name"),.b #[45,50,46,53],.o (aq ls.tail.tail (ao ls.tail (ao ls mx)) 2==1)]) hs (by kernel_rfl) (by kernel_rfl) (lit ⟨by decide,by decide⟩ e (lit ⟨by decide,by decide⟩ e2 (zed (h:=hz) ⟨by decide,by decide⟩ fin))) bG (.name (by decide)) hk hdv F X T N D MD hom post
  · exact ar (t:=.name #[47,120] (aq ls.tail.tail (ao ls.tail (ao ls mx)) 2==1)) (E4:=t4 (Str.ofString "name") (.b #[47,120]) (aq ls.tail.tail (ao ls.tail (ao ls mx)) 2==1)) (V:=[.t (Str.ofString "name"),.b #[47,120],.o (aq ls.tail.tail (ao ls.tail (ao ls mx)) 2==1)]) hs (by kernel_rfl) (by kernel_rfl) (lit ⟨by decide,by decide⟩ e (lit ⟨by decide,by decide⟩ e2 (zed (h:=hz) ⟨by decide,by decide⟩ fin))) bG (.name (by decide)) hk hdv F X T N D MD hom post
  · exact ar (t:=.name #[40] (aq ls.tail.tail (ao ls.tail (ao ls mx)) 2==1)) (E4:=t4 (Str.ofString "name") (.b #[40]) (aq ls.tail.tail (ao ls.tail (ao ls mx)) 2==1)) (V:=[.t (Str.ofString "name"),.b #[40],.o (aq ls.tail.tail (ao ls.tail (ao ls mx)) 2==1)]) hs (by kernel_rfl) (by kernel_rfl) (lit ⟨by decide,by decide⟩ e (lit ⟨by decide,by decide⟩ e2 (zed (h:=hz) ⟨by decide,by decide⟩ fin))) bG (.name (by decide)) hk hdv F X T N D MD hom post
  · exact ar (t:=.name #[65,46,98,45,99] (aq ls.tail.tail (ao ls.tail (ao ls mx)) 2==1)) (E4:=t4 (Str.ofString "name") (.b #[65,46,98,45,99]) (aq ls.tail.tail (ao ls.tail (ao ls mx)) 2==1)) (V:=[.t (Str.ofString "name"),.b #[65,46,98,45,99],.o (aq ls.tail.tail (ao ls.tail (ao ls mx)) 2==1)]) hs (by kernel_rfl) (by kernel_rfl) (lit ⟨by decide,by decide⟩ e (lit ⟨by decide,by decide⟩ e2 (zed (h:=hz) ⟨by decide,by decide⟩ fin))) bG (.name (by decide)) hk hdv F X T N D MD hom post
end
end
section
noncomputable section
variable {w:World} {p:Program} {loose:List Str} {mean:ExcName→Option Value} {mg mb:Str→Option Value} {R0:List (Addr×Obj)} {ρ0:List Addr}
noncomputable def w5 {c:Ct} {n:Nat} {g:Addr} {vs:List SV} {σ:Sy} (o:Option (CC c n g vs σ)):Option (SV×List (Nat×SO)):=o.map fun q=>(q.v,q.σ'.fr)
theorem j9 {n:Nat} {g:Addr} {vs:List SV} {u:SV} {fr':List (Nat×SO)} {nx:Nat} {A:Around} {E:Value→Shared→Prop} {s:Shared} {h₀:Heap} {L:Addr} {m:Str→Option Value} {xs:List Value} {Q:Value→Shared→Prop}
    (hr:w5 ((run (c:=bD w p loose mean mg mb R0 ρ0 10) (aN (Nat.le_refl _) bC) n).C g vs ⟨[],[],[],nx,[]⟩)=some (u,fr')) (hd:Rm A 10 n) (F:Fr h₀ L s.heap m) (X:(Mine.hd.heap_1 w.params).In h₀) (T:Top p loose mean mg mb h₀) (N:News h₀ L s.heap R0)
    (hn:ρ0.length=nx) (hx:aC ρ0 vs xs)
    (hq:∀ x ρ' Rf h' tk,VR ρ' u x→ρ0 <+: ρ'→LR ρ' w.params fr' Rf→Fr h₀ L h' m→News h₀ L h' (Rf++R0)→Rf.Pairwise (fun p q=>p.1≠q.1)→(∀ p∈Rf,∀ q∈R0,q.1≠p.1)→Q x { s with heap:=h',toks:=tk }):wpAny (model PG w) A (call (.ref g) xs) Q E s:=by
  obtain ⟨⟨v,σ',j⟩,_,h2⟩:=Option.map_eq_some_iff.mp hr
  cases h2
  refine j ⟨A,E,h₀,L,s⟩ ⟨ρ0,[],R0,s.heap,m⟩ s.toks xs Q ⟨hd.hd,by have:=hd.dp; show A.depth+2*n+10≤890; exact lin (.c _ (.c _ .z)) (.c (.a (.a (.a (.v 0) (.k 1)) (.m 2 (.v 1))) (.k 10)) (.k 890) .z) (.a (.a (.v 0) (.m 2 (.v 1))) (.k 10)) (.k 890) rfl this,by have:=hd.un; show A.units+20*n+10*10≤8900; exact lin (.c _ (.c _ .z)) (.c (.a (.a (.a (.v 0) (.k 3)) (.m 20 (.v 1))) (.m 10 (.k 10))) (.k 8900) .z) (.a (.a (.v 0) (.m 20 (.v 1))) (.m 10 (.k 10))) (.k 8900) rfl this,X,T⟩ ⟨F,(fun _ _ h=>nomatch h),N,rfl,(fun _ _ h=>nomatch h),(fun _ h=>h),rfl,hn,.nil,(fun _ h=>nomatch h),List.prefix_refl _⟩ hx fun x v' tk' pp qq S e=>?_
  obtain ⟨ρ',Rf,R1,h',m'⟩:=v'
  obtain rfl:m'=m:=e
  have e2:R1=R0:=S.wp
  subst e2
  exact hq x ρ' Rf h' tk' qq pp S.lr S.fr S.nw S.nd S.up
theorem rn {A:Around} {E:Value→Shared→Prop} {s:Shared} {h₀:Heap} {L:Addr} {m:Str→Option Value} {Q:Value→Shared→Prop} (hd:Rm A 10 30) (F:Fr h₀ L s.heap m) (X:(Mine.hd.heap_1 w.params).In h₀) (T:Top p loose mean mg mb h₀) (N:News h₀ L s.heap R0)
    (hq:∀ li ld f h' tk,Fr h₀ L h' m→News h₀ L h' ((li,instObj 437 ld)::(ld,ir w.params f)::R0)→@Ne Nat li ld→(∀ q∈R0,q.1≠li∧q.1≠ld)→Q (.ref li) { s with heap:=h',toks:=tk }):wpAny (model PG w) A (call (.ref 437) []) Q E s:=by
  refine j9 (ρ0:=[]) (u:=.s 1) (fr':=[(1,.I 437 0),(0,.D rY 14)]) (vs:=[]) (n:=30) (by kernel_rfl) hd F X T N rfl .nil fun x ρ' Rf h' tk hu _ hL F' N' nd up=>?_
  refine hL.at_ (i:=1) rfl fun o1 e1 m1 h1=>hL.at_ (i:=0) rfl fun o0 e0 m0 h0=>h0.elim fun es h=>(ER.lit (by kernel_rfl) h.1).elim fun g hg=>?_
  have hd:o1=instObj 437 (ρ'.getD 0 0):=h1.elim fun d h=>by rw [h.2,a7 h.1]
  have ho:o0=ir w.params g:=by rw [h.2,hg]; rfl
  have hv:x=.ref (ρ'.getD 1 0):=hu.elim fun a h=>by rw [h.2,a7 h.1]
  have had:=hL.adr
  rw [hv]
  rw [hd] at m1
  rw [ho] at m0
  have nd':=List.pairwise_map.mpr nd
  rw [had] at nd'
  exact hq _ _ g h' tk F' (ag N' (fC ⟨List.mem_append_left _ m1,fC ⟨List.mem_append_left _ m0,fun _ h=>List.mem_append_right _ h⟩⟩)) ((List.pairwise_cons.mp nd').1 _ (.head _)) fun q hq=>⟨up _ m1 q hq,up _ m0 q hq⟩
end
end
section
noncomputable section
variable {w:World} {p:Program} {loose:List Str} {mean:ExcName→Option Value} {mg mb:Str→Option Value} {R0:List (Addr×Obj)}
noncomputable def w7:List (Str×SV):=[(Str.ofString "limits",.s 0),(Str.ofString "is_global",.o false),(Str.ofString "saves",.s 3),(Str.ofString "journal",.s 4),(Str.ofString "made",.s 5),(Str.ofString "freed",.s 6),(Str.ofString "used",.i 0),(Str.ofString "used_global",.i 0),(Str.ofString "last_body",.i 0),(Str.ofString "last_save",.i 0)]
theorem se {Rf R0:List (Addr×Obj)} (up:∀ p∈Rf,∀ q∈R0,q.1≠p.1):∀ a∈Rf.map (·.1),∀ q∈R0,q.1≠a:=fun a ha q hq=>by
  obtain ⟨z,hz,rfl⟩:=List.mem_map.mp ha
  exact up z hz q hq
theorem rO {w:World}:(dictOf [] 0).IsDictOf (intKind PG w) []:=by
  obtain ⟨o,ho,hd⟩:=Heap.dictOf_iff.mp (Heap.DictOf.new (prog:=PG) (w:=w) (knd:=intKind PG w) (default:Heap))
  rw [Heap.get?_push_size _ rfl] at ho
  obtain rfl:=Option.some.inj ho
  exact hd
theorem sN {li:Addr} {A:Around} {E:Value→Shared→Prop} {s:Shared} {h₀:Heap} {L:Addr} {m:Str→Option Value} {Q:Value→Shared→Prop} (hd:Rm A 10 40) (F:Fr h₀ L s.heap m) (X:(Mine.hd.heap_1 w.params).In h₀) (T:Top p loose mean mg mb h₀) (N:News h₀ L s.heap R0)
    (hq:∀ ma md sv jr mm fr omd n1 n2 n3 h' tk,aT w.params li sv jr mm fr 0 0 omd→Fr h₀ L h' m→News h₀ L h' ([(fr,listOf #[] n1),(mm,dictOf [] 0),(jr,listOf #[] n2),(sv,listOf #[] n3),(ma,instObj 718 md),(md,omd)]++R0)→[fr,mm,jr,sv,ma,md].Pairwise (·≠·)→(∀ a∈[fr,mm,jr,sv,ma,md],∀ q∈R0,q.1≠a)→(mm==sysModules)=false→Q (.ref ma) { s with heap:=h',toks:=tk }):wpAny (model PG w) A (call (.ref 718) [.ref li]) Q E s:=by
  refine j9 (ρ0:=[li]) (u:=.s 2) (fr':=[(6,.L []),(5,.D [] 0),(4,.L []),(3,.L []),(2,.I 718 1),(1,.D w7 10)]) (vs:=[.s 0]) (n:=40) (by kernel_rfl) hd F X T N rfl (.cons (.s rfl) .nil) fun x ρ' Rf h' tk hu hp hL F' N' nd up=>?_
  have list:∀ {i:Nat} {o:Obj},OR ρ' w.params (.L []) o→∃ n,o=listOf #[] n:=fun h=>h.elim fun xs h=>h.elim fun n h=>⟨n,by rw [h.2,show xs=[] from h.1]⟩
  have hli:ρ'.getD 0 0=li:=a7 (az hp (i:=0) rfl)
  refine hL.at_ (i:=6) rfl fun o6 e6 m6 h6=>hL.at_ (i:=5) rfl fun o5 e5 m5 h5=>hL.at_ (i:=4) rfl fun o4 e4 m4 h4=>hL.at_ (i:=3) rfl fun o3 e3 m3 h3=>hL.at_ (i:=2) rfl fun o2 e2 m2 h2=>hL.at_ (i:=1) rfl fun o1 e1 m1 h1=>h1.elim fun es h=>(ER.lit (by kernel_rfl) h.1).elim fun g hg=>?_
  obtain ⟨n6,rfl⟩:=list (i:=6) h6
  obtain ⟨n4,rfl⟩:=list (i:=4) h4
  obtain ⟨n3,rfl⟩:=list (i:=3) h3
  obtain rfl:o5=dictOf [] 0:=h5.elim fun xs h=>by rw [h.2,show xs=[] from h.1]
  obtain rfl:o2=instObj 718 (ρ'.getD 1 0):=h2.elim fun d h=>by rw [h.2,a7 h.1]
  have hv:x=.ref (ρ'.getD 2 0):=hu.elim fun a h=>by rw [h.2,a7 h.1]
  have had:=hL.adr
  rw [hv]
  have nd':=List.pairwise_map.mpr nd
  have up':=se up
  rw [had] at nd' up'
  have hD:aT w.params li (ρ'.getD 3 0) (ρ'.getD 4 0) (ρ'.getD 5 0) (ρ'.getD 6 0) 0 0 o1:=by rw [h.2,hg,← hli]; exact aT.mk
  exact hq _ _ _ _ _ _ _ n6 n4 n3 h' tk hD F' (ag N' fun p hp=>(List.mem_append.mp hp).elim (fun hp=>List.mem_append_left _ (fC ⟨m6,fC ⟨m5,fC ⟨m4,fC ⟨m3,fC ⟨m2,fC ⟨m1,List.forall_mem_nil _⟩⟩⟩⟩⟩⟩ p hp)) (List.mem_append_right _)) nd' up' (gM X N' (List.mem_append_left _ m5))
end
end
section
set_option backward.match.sparseCases false
noncomputable section
variable {c:Ct} {n:Nat} {σ:Sy}
theorem ro (hl:90≤c.lm) {u:SV} (z:ZB u) (hb:Nat.ble z.b 2000000=true) (hn:σ.loc.lookup (Str.ofString "number")=some u):af c n σ (fun L=>eval sL (aa fn777_3 L)) (fun ρ x=>VR ρ (.b (byteArr (aM z.n))) x) σ:=fun f v tk Q ok S hq=>by
  obtain ⟨y,h1,h2⟩:=S.lv _ _ hn
  obtain ⟨t,rfl⟩:=z.ok _ _ h2
  exact bw (sn S.fr ok.X ok.T S.nw h1 (Nat.le_trans z.h (Nat.le_of_ble_eq_true hb)) fun u h' tk' F' N'=>hq _ (v.to h') tk' (List.prefix_refl _) .b { S with fr:=F',nw:=N' }) ok (by exact lin (.c _ .z) (.c (.k 90) (.v 0) .z) (.k 890) (.a (.k 800) (.v 0)) rfl hl) (by exact lin (.c _ .z) (.m 10 (.k 90) (.v 0) .z) (.k 8900) (.a (.k 8000) (.m 10 (.v 0))) rfl hl)
noncomputable def eA:PySem.Expr:=match List.drop 11 fn777_3.body with
  | [.Return (some (.Tuple [a,_] _ _)) _]=>a
  | _=>sL
theorem rG (hl:90≤c.lm) (qA:CE c n fn777_3 eA σ) {u:SV} (z:ZB u) (hb:Nat.ble z.b 2000000=true) (hn:qA.σ'.loc.lookup (Str.ofString "number")=some u) :
    af c n σ (fun L=>execs (List.drop 11 fn777_3.body) (aa fn777_3 L)) (ak (some (.s (qA.σ'.nx+1)))) ⟨qA.σ'.loc,(qA.σ'.nx+1,.T [qA.v,.s qA.σ'.nx])::(qA.σ'.nx,.T [.t (Str.ofString "plain"),.b (byteArr (aM z.n))])::qA.σ'.fr,qA.σ'.ol,qA.σ'.nx+2,qA.σ'.wd⟩:=
  ny (iJ (σ1:=⟨qA.σ'.loc,(qA.σ'.nx,.T [.t (Str.ofString "plain"),.b (byteArr (aM z.n))])::qA.σ'.fr,qA.σ'.ol,qA.σ'.nx+1,qA.σ'.wd⟩) (vs:=[qA.v,.s qA.σ'.nx])
    (gV ⟨fun z_ z_=>rfl⟩ qA.ok (gV ⟨fun z_ z_=>rfl⟩
      (iJ (vs:=[.t (Str.ofString "plain"),.b (byteArr (aM z.n))]) (gV ⟨fun z_ z_=>rfl⟩ (fun f v tk Q ok S hq=>Calls.Constant_str (hq _ v _ (List.prefix_refl _) ⟨_,rfl⟩ S)) (gV ⟨fun z_ z_=>rfl⟩ (ro hl z hb hn) mG)) rfl) mG)) rfl)
noncomputable def xz (hl:90≤c.lm) (o:Option (CS c 34 fn777_3 (List.take 11 fn777_3.body) σ)) (e:∀ σ',Option (CE c 34 fn777_3 eA σ')):Option (CS c 34 fn777_3 fn777_3.body σ):=o.bind fun q=>match q with
  | ⟨none,σ1,ok⟩=>(e σ1).bind fun qA=>(bR (qA.σ'.loc.lookup (Str.ofString "number"))).bind fun u=>(qC u.1).bind fun z=>(ay (Nat.ble z.b 2000000)).map fun hb=>⟨some (.s (qA.σ'.nx+1)),_,af.split 11 ok (rG hl qA z hb.down u.2)⟩
  | _=>none
section
variable {w:World} {p:Program} {loose:List Str} {mean:ExcName→Option Value} {mg mb:Str→Option Value} {da la ma:Addr}
theorem fq {k:Nat} {s:Shared} {h₀:Heap} {L:Addr} {m:Str→Option Value}
    {md mm li ld sv jr fr:Addr} {od omd om:Obj} {t3 dt:Tok} {mx:Int} {vs:List Value} {ls:List Int} {n:Nat} {es:List (Int×Value)} {used last dv:Int} {J:List (Addr×Obj)} {Q:Value→Shared→Prop} {B:Nat}
    (hw:aq ls mx 13=0∨(k=0∧9<aq ls mx 13)) (hs:aE w.params da la md mm ma li ld sv J es.length used last B) (hk:k≤3) (hdv:dv=(k:Int)) (F:Fr h₀ L s.heap m) (X:(Mine.hd.heap_1 w.params).In h₀) (T:Top p loose mean mg mb h₀)
    (N:News h₀ L s.heap ((md,omd)::(mm,om)::(da,od)::(la,listOf vs.toArray n)::J)) (D:DeckIs w la od vs ls mx t3) (MD:aT w.params li sv jr mm fr used last omd)
    (hom:om.IsDictOf (intKind rw_on0273_01.row.prog w) es) (post:aF w h₀ L m da la md mm li sv jr fr J es used last B k s Q) :
    aw (model PG w) (AR (730 - 40*k) (7300 - 400*k)) (call (.ref 777) [.ref ma,.ref da,.int dv dt]) Q (fun z_ z_=>False) s:=by
  have bN:0≤aq ls.tail (ao ls mx) 1000003∧aq ls.tail (ao ls mx) 1000003<1000003:=bX D (by decide)
  have b13:0≤aq ls mx 13∧aq ls mx 13<13:=eP D (by decide)
  have hz2:(aq ls.tail (ao ls mx) 1000003).natAbs≤1000003:=by exact eH (ax .z (.c _ .z) (.c (.a (.v 0) (.k 1)) (.k 1000003) .z) (.v 0) (.u (.k 1000003)) rfl bN.2) (ax .z (.c _ .z) (.c (.k 0) (.v 0) .z) (.g (.v 0)) (.u (.k 1000003)) rfl bN.1)
  have hz3:(aq ls.tail (ao ls mx) 1000003 - 500001).natAbs≤1000003+500001:=by exact eH (ax .z (.c _ .z) (.c (.a (.v 0) (.k 1)) (.k 1000003) .z) (.s (.v 0) (.k 500001)) (.u (.a (.k 1000003) (.k 500001))) rfl bN.2) (ax .z (.c _ .z) (.c (.k 0) (.v 0) .z) (.g (.s (.v 0) (.k 500001))) (.u (.a (.k 1000003) (.k 500001))) rfl bN.1)
  have fut:∀ {j:Int},aq ls mx 13=j→cZ ls mx [(13,.i j),(1000003,.z (aq ls.tail (ao ls mx) 1000003) 1000003 hz2)]:=fun e=>.inr ⟨⟨(by decide:0<13),(by decide:13≤2000000),fun ρ t=>⟨t,congrArg (fun n=>Value.int n t) e⟩⟩,.inr ⟨⟨(by decide:0<1000003),(by decide:1000003≤2000000),fun ρ t=>⟨t,rfl⟩⟩,trivial⟩⟩
  have is:∀ {ρ:List Addr} {R:List (Addr×Obj)} {a dd e:Addr} {es':List DictEntry} {xs:List Value} {q:Nat},ER ρ w.params (t4 (Str.ofString "integer") (.z (aq ls.tail (ao ls mx) 1000003 - 500001) (1000003+500001) hz3) false) es'→aC ρ [.t (Str.ofString "plain"),.b (byteArr (aM (aq ls.tail (ao ls mx) 1000003 - 500001)))] xs→(a,instObj 86 dd)∈R→(dd,dictOf es' 4)∈R→(e,aS xs.toArray q)∈R→al w.params R (.ref a) (.int (aq ls.tail (ao ls mx) 1000003 - 500001))∧aA R (.ref e) (.int (aq ls.tail (ao ls mx) 1000003 - 500001)):=fun hE hV m1 m2 m3=>by
    obtain ⟨y,u,u0,u1,u2,u3,u4,⟨u5,rfl⟩,e4⟩:=km hE
    rw [e4] at m2
    obtain ⟨v,z,rfl,⟨u6,rfl⟩⟩:=jq hV
    exact ⟨.int m1 m2,.int m3⟩
  have nm:∀ (w':Int),aq ls mx 13=w'→fP (xz (Nat.le_refl 90) ((run (c:=dZ w p loose mean mg mb J [da,ma] 90 da la md mm li sv jr fr es.length used last B) (dG (Nat.le_refl _) 0 rfl hs) 34).S fn777_3 (List.take 11 fn777_3.body) (dM k [(13,.i w'),(1000003,.z (aq ls.tail (ao ls mx) 1000003) 1000003 hz2)])) ((cR (dG (Nat.le_refl _) 0 rfl hs) iL 24 34).E fn777_3 eA))=some (t4 (Str.ofString "integer") (.z (aq ls.tail (ao ls mx) 1000003 - 500001) (1000003+500001) hz3) false,[.t (Str.ofString "plain"),.b (byteArr (aM (aq ls.tail (ao ls mx) 1000003 - 500001)))])→
      aw (model PG w) (AR (730 - 40*k) (7300 - 400*k)) (call (.ref 777) [.ref ma,.ref da,.int dv dt]) Q (fun z_ z_=>False) s:=fun w' e hr=>gb _ hr hs (Nat.zero_le _) (fut e) is (.int (by exact lin (.c _ .z) (.c (.v 0) (.a (.k 1000003) (.k 500001)) .z) (.v 0) (.k 2000000) rfl hz3)) hk hdv F X T N D MD hom post
  rcases hw with e | ⟨rfl,e⟩
  · exact nm 0 e (by kernel_rfl)
  · rcases (by omega:aq ls mx 13=10∨aq ls mx 13=11∨aq ls mx 13=12) with e | e | e
    · exact nm 10 e (by kernel_rfl)
    · exact nm 11 e (by kernel_rfl)
    · exact nm 12 e (by kernel_rfl)
end
end
end
section
section
variable (P:Params) (R:List (Addr×Obj))
inductive aV:List Value→List Tr→Prop
  | nil:aV [] []
  | cons {tp:Addr} {nt:Nat} {made tree:Value} {t:Tr} {vs:List Value} {ts:List Tr}:(tp,aS #[made,tree] nt)∈R→al P R made t→aA R tree t→aV vs ts→aV (.ref tp::vs) (t::ts)
end
section
variable {P:Params} {R R':List (Addr×Obj)}
theorem aV.mono (hs:∀ p∈R,p∈R') {vs:List Value} {ts:List Tr} (h:aV P R vs ts):aV P R' vs ts:=by
  induction h with
  | nil=>exact .nil
  | cons a b c _ ih=>exact .cons (hs _ a) (b.mono hs) (c.mono hs) ih
theorem aV.snoc {tp:Addr} {nt:Nat} {made tree:Value} {t:Tr} (a:(tp,aS #[made,tree] nt)∈R) (b:al P R made t) (c:aA R tree t) {vs:List Value} {ts:List Tr} (h:aV P R vs ts):aV P R (vs++[.ref tp]) (ts++[t]):=by
  induction h with
  | nil=>exact .cons a b c .nil
  | cons a' b' c' _ ih=>exact .cons a' b' c' ih
theorem aV.len {vs:List Value} {ts:List Tr} (h:aV P R vs ts):vs.length=ts.length:=by
  induction h with
  | nil=>rfl
  | cons _ _ _ _ ih=>exact congrArg (·+1) ih
end
noncomputable def Bk:Nat→Nat
  | 0=>1
  | k+1=>3*Bk k+1
noncomputable def b8 (w:World) (k:Nat):Prop:=∀ {p:Program} {loose:List Str} {mean:ExcName→Option Value} {mg mb:Str→Option Value} {s:Shared} {h₀:Heap} {L:Addr} {m:Str→Option Value}
    {da la ma md mm li ld sv jr fr:Addr} {od omd om:Obj} {t3 dt:Tok} {mx:Int} {vs:List Value} {ls:List Int} {n:Nat} {es:List (Int×Value)} {used last dv:Int} {J:List (Addr×Obj)} {Q:Value→Shared→Prop},
    dv=(k:Int)→Fr h₀ L s.heap m→(Mine.hd.heap_1 w.params).In h₀→Top p loose mean mg mb h₀→
    News h₀ L s.heap ((md,omd)::(mm,om)::(da,od)::(la,listOf vs.toArray n)::J)→DeckIs w la od vs ls mx t3→
    bZ w.params ma md li ld sv mm J→aT w.params li sv jr mm fr used last omd→Apart md mm da la J→
    om.IsDictOf (intKind rw_on0273_01.row.prog w) es→es.length+Bk k≤1000→
    0≤used→used+100*(Bk k:Int)≤16000000→0≤last→last+(Bk k:Int)≤100000→
    aF w h₀ L m da la md mm li sv jr fr J es used last (Bk k) k s Q→
    aw (model rw_on0273_01.row.prog w) (AR (730 - 40*k) (7300 - 400*k)) (call (.ref 777) [.ref ma,.ref da,.int dv dt]) Q (fun z_ z_=>False) s
theorem dh.sub {md mm da la a:Addr} {J J':List (Addr×Obj)} (h:dh md mm da la J a) (hs:∀ p∈J',p∈J):dh md mm da la J' a:=⟨h.1,h.2.1,h.2.2.1,h.2.2.2.1,fun q hq=>h.2.2.2.2 q (hs q hq)⟩
theorem News.app {h₀ h:Heap} {L:Addr} {a b:List (Addr×Obj)} (x:News h₀ L h a) (y:News h₀ L h b):News h₀ L h (a++b):=fun p hp=>(List.mem_append.mp hp).elim (x p) (y p)
theorem Off3.app {I C D:Addr} {a b:List (Addr×Obj)} (x:∀ p∈a,p.1≠I∧p.1≠C∧p.1≠D) (y:LCg.Off3 I C D b):LCg.Off3 I C D (a++b):=LCg.Off3.of fun p hp=>(List.mem_append.mp hp).elim (x p) (y.mem p)
theorem bL {α:Type} {p:α} {A B C:List α} (h:p∈A++(B++C)):p∈B++(A++C):=(List.mem_append.mp h).elim (fun h=>List.mem_append_right _ (List.mem_append_left _ h)) fun h=>(List.mem_append.mp h).elim (List.mem_append_left _) fun h=>List.mem_append_right _ (List.mem_append_right _ h)
theorem bF {α:Type} {p:α} {A B C:List α} (hs:∀ p∈B,p∈C) (h:p∈A++B):p∈A++C:=(List.mem_append.mp h).elim (List.mem_append_left _) fun h=>List.mem_append_right _ (hs _ h)
theorem lz {a b c d e f x1 x2 x3 x4:Addr×Obj} {Rn Jc:List (Addr×Obj)} (p:Addr×Obj) (h:p∈a::b::c::d::e::f::x1::x2::x3::x4::(Rn++Jc)):p∈Rn++(x1::x2::x3::x4::a::b::c::d::e::f::Jc):=
  bF (A:=Rn) (B:=[a,b,c,d,e,f]++([x1,x2,x3,x4]++Jc)) (fun z_=>bL) (bL (A:=[a,b,c,d,e,f]) (B:=Rn) (C:=[x1,x2,x3,x4]++Jc) (bF (A:=[a,b,c,d,e,f]) (B:=[x1,x2,x3,x4]++(Rn++Jc)) (fun z_=>bL) h))
theorem nq {I C D:Addr} {oI oC oD:Obj} {md mm da la:Addr} {r Rn:List (Addr×Obj)} (h:∀ p∈Rn,dh md mm da la ((I,oI)::(C,oC)::(D,oD)::r) p.1):∀ p∈Rn,p.1≠I∧p.1≠C∧p.1≠D:=fun p hp=>
  have z:=(h p hp).2.2.2.2
  ⟨Ne.symm (z _ (.head _)),Ne.symm (z _ (.tail _ (.head _))),Ne.symm (z _ (.tail _ (.tail _ (.head _))))⟩
theorem mT {md mm da la:Addr} {J Rn:List (Addr×Obj)} (h:∀ p∈Rn,dh md mm da la J p.1):∀ p∈Rn,p.1≠md∧p.1≠mm:=fun p hp=>⟨Ne.symm (h p hp).1,Ne.symm (h p hp).2.1⟩
theorem pO {h₀ h:Heap} {L:Addr} {a b c d e f x1 x2 x3 x4:Addr×Obj} {Jc:List (Addr×Obj)} (N:News h₀ L h (a::b::c::d::e::f::x1::x2::x3::x4::Jc)):News h₀ L h (x1::x2::x3::x4::a::b::c::d::e::f::Jc):=ag N fun z_=>bL (A:=[x1,x2,x3,x4]) (B:=[a,b,c,d,e,f]) (C:=Jc)
theorem f7 {I C D:Addr} {l:List (Addr×Obj)} {a:Addr} {o:Obj} (h:LCg.Off3 I C D l) (m:(a,o)∈l):(@Ne Nat I a∧@Ne Nat C a∧@Ne Nat D a):=⟨Ne.symm (h.mem _ m).1,Ne.symm (h.mem _ m).2.1,Ne.symm (h.mem _ m).2.2⟩
theorem aV.get {P:Params} {R:List (Addr×Obj)} {vs:List Value} {ts:List Tr} (h:aV P R vs ts):∀ {i:Nat} {v:Value},vs[i]?=some v→∃ tp nt made tree t,v=.ref tp∧(tp,aS #[made,tree] nt)∈R∧al P R made t∧aA R tree t∧ts[i]?=some t:=by
  induction h with
  | nil=>exact fun e=>nomatch e
  | cons a b c _ ih=>
    intro i v e
    cases i with
    | zero=>exact ⟨_,_,_,_,_,(Option.some.inj e).symm,a,b,c,rfl⟩
    | succ i=>exact ih e
theorem am.snoc {P:Params} {R:List (Addr×Obj)} {v:Value} {t:Tr} (b:al P R v t) {vs:List Value} {ts:List Tr} (h:am P R vs ts):am P R (vs++[v]) (ts++[t]):=am.ind (fun vs ts=>am P R (vs++[v]) (ts++[t])) (.cons b .nil) (fun a _ r=>.cons a r) h
theorem take_snoc {ts:List Tr} {i:Nat} {t:Tr} (h:ts[i]?=some t):ts.take (i+1)=ts.take i++[t]:=by rw [List.take_add_one,h]; rfl
theorem mO {h₀ h:Heap} {L:Addr} {t u d c1 c2 c3 x1 x2 x3 x4:Addr×Obj} {r:List (Addr×Obj)} (N:News h₀ L h (t::u::d::c1::c2::c3::x1::x2::x3::x4::r)):News h₀ L h (t::x1::x2::x3::x4::u::d::c1::c2::c3::r):=ag N fun z_=>bF (A:=[t]) (B:=[x1,x2,x3,x4]++([u,d,c1,c2,c3]++r)) (fun z_=>bL)
theorem qc:∀ (zs:List Value),zs.length≤3→(slicePick zs.toArray (some 0) (some (0+(zs.length:Int))) none).toList=zs
  | [],_=>by kernel_rfl
  | [_],_=>by kernel_rfl
  | [_,_],_=>by kernel_rfl
  | [_,_,_],_=>by kernel_rfl
  | _::_::_::_::_,h=>absurd h (by simp)
theorem oU:∀ (zs:List Value),zs.length≤3→1<zs.length→(slicePick zs.toArray (some (0+1)) (some (0+1+((zs.length:Int) - 1))) none).toList=zs.drop 1
  | [],_,h=>by simp at h
  | [_],_,h=>by simp at h
  | [_,_],_,_=>by kernel_rfl
  | [_,_,_],_,_=>by kernel_rfl
  | _::_::_::_::_,h,_=>absurd h (by simp)
theorem am.drop {P:Params} {R:List (Addr×Obj)}:∀ {vs:List Value} {ts:List Tr},am P R vs ts→am P R (vs.drop 1) (ts.drop 1)
  | _,_,.nil=>.nil
  | _,_,.cons _ d=>d
theorem aK.drop {R:List (Addr×Obj)}:∀ {vs:List Value} {ts:List Tr},aK R vs ts→aK R (vs.drop 1) (ts.drop 1)
  | _,_,.nil=>.nil
  | _,_,.cons _ d=>d
theorem yg:True:=by
  k_with "overJ"=>first | (refine over_of (by with_reducible assumption) ?_; intro qhz; first | exact over_tail (allLt_drop 0 qhz) (subJ (by with_reducible assumption) _ _ _ _ _) | exact over_tail (allLt_drop 1 qhz) (subJ (by with_reducible assumption) _ _ _ _ _) | exact over_tail (allLt_drop 2 qhz) (subJ (by with_reducible assumption) _ _ _ _ _) | exact over_tail (allLt_drop 3 qhz) (subJ (by with_reducible assumption) _ _ _ _ _) | exact over_tail (allLt_drop 4 qhz) (subJ (by with_reducible assumption) _ _ _ _ _) | exact over_tail (allLt_drop 5 qhz) (subJ (by with_reducible assumption) _ _ _ _ _) | exact over_tail (allLt_drop 6 qhz) (subJ (by with_reducible assumption) _ _ _ _ _) | exact over_tail (allLt_drop 7 qhz) (subJ (by with_reducible assumption) _ _ _ _ _) | exact over_tail (allLt_drop 8 qhz) (subJ (by with_reducible assumption) _ _ _ _ _) | exact over_tail (allLt_drop 9 qhz) (subJ (by with_reducible assumption) _ _ _ _ _) | exact over_tail (allLt_drop 10 qhz) (subJ (by with_reducible assumption) _ _ _ _ _) | exact over_tail (allLt_drop 11 qhz) (subJ (by with_reducible assumption) _ _ _ _ _) | exact over_tail (allLt_drop 12 qhz) (subJ (by with_reducible assumption) _ _ _ _ _) | exact over_tail (allLt_drop 13 qhz) (subJ (by with_reducible assumption) _ _ _ _ _) | exact over_tail (allLt_drop 14 qhz) (subJ (by with_reducible assumption) _ _ _ _ _) | exact over_tail (allLt_drop 15 qhz) (subJ (by with_reducible assumption) _ _ _ _ _) | exact over_tail (allLt_drop 16 qhz) (subJ (by with_reducible assumption) _ _ _ _ _) | exact over_tail (allLt_drop 17 qhz) (subJ (by with_reducible assumption) _ _ _ _ _) | exact over_tail (allLt_drop 18 qhz) (subJ (by with_reducible assumption) _ _ _ _ _) | exact over_tail (allLt_drop 19 qhz) (subJ (by with_reducible assumption) _ _ _ _ _)) | (refine over_of1 (by with_reducible assumption) ?_; intro qhz; first | exact over_offt (off1_drop 0 qhz) (subJ (by with_reducible assumption) _ _ _ _ _) | exact over_offt (off1_drop 1 qhz) (subJ (by with_reducible assumption) _ _ _ _ _) | exact over_offt (off1_drop 2 qhz) (subJ (by with_reducible assumption) _ _ _ _ _) | exact over_offt (off1_drop 3 qhz) (subJ (by with_reducible assumption) _ _ _ _ _) | exact over_offt (off1_drop 4 qhz) (subJ (by with_reducible assumption) _ _ _ _ _) | exact over_offt (off1_drop 5 qhz) (subJ (by with_reducible assumption) _ _ _ _ _) | exact over_offt (off1_drop 6 qhz) (subJ (by with_reducible assumption) _ _ _ _ _) | exact over_offt (off1_drop 7 qhz) (subJ (by with_reducible assumption) _ _ _ _ _) | exact over_offt (off1_drop 8 qhz) (subJ (by with_reducible assumption) _ _ _ _ _) | exact over_offt (off1_drop 9 qhz) (subJ (by with_reducible assumption) _ _ _ _ _) | exact over_offt (off1_drop 10 qhz) (subJ (by with_reducible assumption) _ _ _ _ _) | exact over_offt (off1_drop 11 qhz) (subJ (by with_reducible assumption) _ _ _ _ _) | exact over_offt (off1_drop 12 qhz) (subJ (by with_reducible assumption) _ _ _ _ _) | exact over_offt (off1_drop 13 qhz) (subJ (by with_reducible assumption) _ _ _ _ _) | exact over_offt (off1_drop 14 qhz) (subJ (by with_reducible assumption) _ _ _ _ _) | exact over_offt (off1_drop 15 qhz) (subJ (by with_reducible assumption) _ _ _ _ _) | exact over_offt (off1_drop 16 qhz) (subJ (by with_reducible assumption) _ _ _ _ _) | exact over_offt (off1_drop 17 qhz) (subJ (by with_reducible assumption) _ _ _ _ _) | exact over_offt (off1_drop 18 qhz) (subJ (by with_reducible assumption) _ _ _ _ _) | exact over_offt (off1_drop 19 qhz) (subJ (by with_reducible assumption) _ _ _ _ _))
  trivial
theorem me (zs:List Value) (n:Int) (hn:n=(zs.length:Int)) (h:zs.length≤3) (h1:1<zs.length):(slicePick zs.toArray (some (0+1)) (some (0+1+(n - 1))) none).toList=zs.drop 1:=by
  subst hn
  exact oU zs h h1
end
section
set_option backward.match.sparseCases false
noncomputable section
variable {c:Ct} {n:Nat} {σ:Sy}
theorem nf {K:Frag} {g:Addr} (h:fnIn K g=true):∃ o fd,K.lookup g=some o∧o.data=.func fd:=by
  unfold fnIn at h
  split at h
  · exact ⟨_,_,‹_›,rfl⟩
  · cases h
noncomputable abbrev TC (c:Ct) (n:Nat) (r:FnR) (ss:List Stmt) (σ:Sy) (g:Addr):=(vs:List SV) ×' (σ':Sy) ×' (∀ (f:Fx) (v:Vr) (tk:Nat) (Q:Flow→Shared→Prop),f.Ok c n→St c f v σ→(∀ xs v' tk',v.ρ <+: v'.ρ→aC v'.ρ vs xs→St c f v' σ'→aw (model PG c.w) f.A (call (.ref g) xs) (fun y=>Q (.ret y)) f.E (f.sh v'.h tk'))→aw (model PG c.w) f.A (execs ss (aa r f.L)) Q f.E (f.sh v.h tk))
noncomputable abbrev TC.vs {c:Ct} {n:Nat} {r:FnR} {ss:List Stmt} {σ:Sy} {g:Addr} (q:TC c n r ss σ g):List SV:=q.1
noncomputable abbrev TC.σ' {c:Ct} {n:Nat} {r:FnR} {ss:List Stmt} {σ:Sy} {g:Addr} (q:TC c n r ss σ g):Sy:=q.2.1
theorem TC.ok {c:Ct} {n:Nat} {r:FnR} {ss:List Stmt} {σ:Sy} {g:Addr} (q:TC c n r ss σ g):∀ (f:Fx) (v:Vr) (tk:Nat) (Q:Flow→Shared→Prop),f.Ok c n→St c f v σ→(∀ xs v' tk',v.ρ <+: v'.ρ→aC v'.ρ q.vs xs→St c f v' q.σ'→aw (model PG c.w) f.A (call (.ref g) xs) (fun y=>Q (.ret y)) f.E (f.sh v'.h tk'))→aw (model PG c.w) f.A (execs ss (aa r f.L)) Q f.E (f.sh v.h tk):=q.2.2
theorem ew {M:Model} {A:Around} {env:Env} {E:Value→Shared→Prop} {b:List Stmt} {Q:Flow→Shared→Prop}:∀ {a:List Stmt} {s:Shared},wpAny M A (execs a env) (fun fl s'=>match fl with | .next=>aw M A (execs b env) Q E s' | fl=>Q fl s') E s→aw M A (execs (a++b) env) Q E s:=fun h Γ p hΓ hk=>
  d6 (Sem.wp_mono M Γ _ (fun f p' s' h'=>by
    cases f with
    | next=>exact h' Γ p' hΓ hk
    | _=>exact h') (fun _ _ _ h'=>h') _ _ (h Γ p hΓ))
theorem qu {r:FnR} {σ1 σ2 σ3:Sy} {g:Addr} {vs:List SV} {t e:PySem.Expr} {x:Str} {pf pc ps pi:Pos} {es:List PySem.Expr} {rest:List Stmt} (hg:fnIn (Mine.hd.heap_1 c.w.params) g=true)
    (h1:af c n σ (fun L=>isTrue t (aa r L) (eval t (aa r L))) (fun _ z=>z=true) σ1) (h2:af c n σ1 (fun L=>eval (.Name x pf) (aa r L)) (fun ρ x=>VR ρ (.k g) x) σ2) (hp:dy e)
    (hA:∀ pos,af c n σ2 (fun L=>spliced (backTo pos (starEach (e::es) (aa r L)))) (fun ρ xs=>aC ρ vs xs) σ3) (f:Fx) (v:Vr) (tk:Nat) (Q:Flow→Shared→Prop) (ok:f.Ok c n) (S:St c f v σ) (hq:∀ xs v' tk',v.ρ <+: v'.ρ→aC v'.ρ vs xs→St c f v' σ3→aw (model PG c.w) f.A (call (.ref g) xs) (fun y=>Q (.ret y)) f.E (f.sh v'.h tk')) :
    aw (model PG c.w) f.A (execs (.If t [.Return (some (.Call (.Name x pf) (e::es) [] pc)) ps] [] pi::rest) (aa r f.L)) Q f.E (f.sh v.h tk):=by
  refine aI (IfC (h1 f v tk _ ok S fun z v1 t1 p1 q1 S1=>?_))
  subst q1
  rw [if_pos rfl]
  refine aI (kf (fA (h2 f v1 t1 _ ok S1 fun y v2 t2 p2 q2 S2=>?_) rfl))
  obtain rfl:y=.ref g:=q2
  obtain ⟨o,fd,ho,hd⟩:=nf hg
  refine bf (aD (bH (hA pc f v2 t2 _ ok S2 fun xs v3 t3 p3 q3 S3=>?_) (hp.star _ _)))
  exact cy S3.fr ok.X ho hd (hq xs v3 t3 (p1.trans (p2.trans p3)) q3 S3)
theorem bT {r:FnR} {t:PySem.Expr} {σ':Sy} {b:Bool} (h:b=true) (j:af c n σ (fun L=>isTrue t (aa r L) (eval t (aa r L))) (fun _ z=>z=b) σ'):af c n σ (fun L=>isTrue t (aa r L) (eval t (aa r L))) (fun _ z=>z=true) σ':=h▸j
theorem vk2 {r:FnR} {e:PySem.Expr} {σ σ':Sy} {v:SV} {a b:Addr} (h:v=.k a) (h2:Nat.beq a b=true) (j:af c n σ (fun L=>eval e (aa r L)) (fun ρ x=>VR ρ v x) σ'):af c n σ (fun L=>eval e (aa r L)) (fun ρ x=>VR ρ (.k b) x) σ':=Nat.eq_of_beq_eq_true h2▸h▸j
variable (R:ie c n)
noncomputable def tlC (r:FnR) (ss:List Stmt) (σ:Sy) (g:Addr) (hg:fnIn (Mine.hd.heap_1 c.w.params) g=true):Option (TC c n r ss σ g):=match ss with
  | .If t [.Return (some (.Call (.Name x pf) (e::es) [] pc)) ps] [] pi::rest=>(R.T r t σ).bind fun q=>(ay q.b).bind fun hb=>(R.E r (.Name x pf) q.σ').bind fun qf=>(wZ qf.v).bind fun fa=>(ay (Nat.beq fa.1 g)).bind fun hf=>(s9 e).bind fun hp=>(R.A r (e::es) qf.σ').map fun qa=>
    ⟨qa.vs,qa.σ',qu hg (bT hb.down q.ok) (vk2 fa.2 hf.down qf.ok) hp.down qa.ok⟩
  | _=>none
noncomputable def rf (j:Nat) (r:FnR) (σ:Sy) (g:Addr) (hg:fnIn (Mine.hd.heap_1 c.w.params) g=true):Option (TC c n r r.body σ g):=(R.S r (List.take j r.body) σ).bind fun q=>match q with
  | ⟨none,σ1,ok⟩=>(tlC R r (List.drop j r.body) σ1 g hg).map fun t=>⟨t.vs,t.σ',fun f v tk Q o S hq=>by
      rw [← List.take_append_drop j r.body]
      exact ew (ok f v tk _ o S fun fl v1 t1 p1 q1 S1=>by
        obtain rfl:fl=.next:=q1
        exact t.ok f v1 t1 Q o S1 fun xs v2 t2 p2 q2 S2=>hq xs v2 t2 (p1.trans p2) q2 S2)⟩
  | _=>none
section
variable {w:World} {p:Program} {loose:List Str} {mean:ExcName→Option Value} {mg mb:Str→Option Value} {da la ma:Addr}
theorem ec {k B:Nat} {g:Addr} {vs':List SV} {evs sc:List (Nat×SV)} {s:Shared} {h₀:Heap} {L:Addr} {m:Str→Option Value}
    {md mm li ld sv jr fr:Addr} {od omd om:Obj} {t3 dt:Tok} {mx:Int} {vs:List Value} {ls:List Int} {n:Nat} {es:List (Int×Value)} {used last dv:Int} {J:List (Addr×Obj)} {Q:Value→Shared→Prop}
    (o:Option (TC (dZ w p loose mean mg mb J [da,ma] 90 da la md mm li sv jr fr es.length used last B) 34 fn777_3 fn777_3.body (dM k sc) g)) (hr:o.map (fun q=>(q.vs,q.σ'.wd))=some (vs',evs))
    (hbs:bud sc=B) (hbe:bud evs=B) (hf:cZ ls mx sc) (hk:k≤3) (hdv:dv=(k:Int)) (F:Fr h₀ L s.heap m) (X:(Mine.hd.heap_1 w.params).In h₀) (T:Top p loose mean mg mb h₀)
    (N:News h₀ L s.heap ((md,omd)::(mm,om)::(da,od)::(la,listOf vs.toArray n)::J)) (D:DeckIs w la od vs ls mx t3) (MD:aT w.params li sv jr mm fr used last omd) (hom:om.IsDictOf (intKind rw_on0273_01.row.prog w) es)
    (post:aF w h₀ L m da la md mm li sv jr fr J es used last B k s Q)
    (con:∀ {g0:Heap} {L':Addr} {m':Str→Option Value} {s':Shared} {ρ:List Addr} {xs:List Value} {od omd om:Obj} {t3:Tok} {mx:Int} {vs:List Value} {ls:List Int} {n:Nat} {es':List (Int×Value)} {Q':Value→Shared→Prop},
      aC ρ vs' xs→[da,ma] <+: ρ→Fr g0 L' s'.heap m'→(Mine.hd.heap_1 w.params).In g0→Top p loose mean mg mb g0→News g0 L' s'.heap ((md,omd)::(mm,om)::(da,od)::(la,listOf vs.toArray n)::J)→DeckIs w la od vs ls mx t3→
      aT w.params li sv jr mm fr used last omd→om.IsDictOf (intKind rw_on0273_01.row.prog w) es'→es'.length≤es.length→aF w g0 L' m' da la md mm li sv jr fr J es' used last B k s' Q'→aw (model PG w) (AR (740 - 40*k) (7400 - 400*k)) (call (.ref g) xs) Q' (fun z_ z_=>False) s') :
    aw (model PG w) (AR (730 - 40*k) (7300 - 400*k)) (call (.ref 777) [.ref ma,.ref da,.int dv dt]) Q (fun z_ z_=>False) s:=by
  subst hdv
  obtain ⟨q,hq,e0⟩:=Option.map_eq_some_iff.mp hr
  obtain ⟨fa,hlen,fok⟩:=(cO w.params).fn 777 3 fn777_3 (by kernel_rfl)
  obtain ⟨⟨D0,hb⟩,hcd,hok,_⟩:=fok
  simp only [Bool.and_eq_true,beq_iff_eq,List.all_eq_true,bne_iff_ne] at hok
  obtain ⟨⟨⟨⟨o1,o2⟩,o3⟩,o4⟩,o5⟩:=hok
  obtain ⟨ex,hx,hbi⟩:=hb s [.ref ma,.ref da,.int (k:Int) dt] rfl (X.keeps F.keep)
  obtain rfl:ex=[]:=hx
  have hN:News h₀ L s.heap ((da,od)::(la,listOf vs.toArray n)::(md,omd)::(mm,om)::J):=ag N dL
  have hal:AL [da,ma] (fn777_3.names.zip [SV.s 1,SV.s 0,SV.i (k:Int)]++fn777_3.extra) (fn777_3.names.zip [.ref ma,.ref da,.int (k:Int) dt]++(fn777_3.extra.map (·.1)).zip []):=AL.app (AL.ofMap (l:=fn777_3.extra) (ys:=[]) (show aC _ [] [] from rfl)) (AL.zip (.cons (.s rfl) (.cons (.s rfl) (.cons .i .nil))))
  refine bi (jC F X hN T D0.ho hcd (by show 730 - 40*k<1000; exact lin (.c _ .z) (.c (.v 0) (.k 730) .z) (.a (.v 0) (.k 1)) (.k 1000) rfl (Nat.sub_le _ _)) hbi (fun y hy=>?_) (fun g' L' h₁ FG F' N' st bt X' T' _=>?_) o1 o2 o3 o4)
  · refine o5 _ ?_
    rcases List.mem_append.mp hy with q | q
    · exact List.mem_append_left _ (List.of_mem_zip q).1
    · exact List.mem_append_right _ (List.of_mem_zip q).1
  · refine q.ok ⟨(AR (730 - 40*k) (7300 - 400*k)).deeper (aa fn777_3 L'),fun z_ z_=>False,g',L',s⟩ ⟨[da,ma],[],(da,od)::(la,listOf vs.toArray n)::(md,omd)::(mm,om)::J,h₁,_⟩ _ _ ⟨rfl,by show 730 - 40*k+1+2*34+90≤890; exact lin (.c _ .z) (.c (.v 0) (.k 730) .z) (.a (.a (.a (.v 0) (.k 1)) (.m 2 (.k 34))) (.k 90)) (.k 890) rfl (Nat.sub_le _ _),by show 7300 - 400*k+3+20*34+10*90≤8900; exact lin (.c _ .z) (.c (.v 0) (.k 7300) .z) (.a (.a (.a (.v 0) (.k 3)) (.m 20 (.k 34))) (.m 10 (.k 90))) (.k 8900) rfl (Nat.sub_le _ _),X',T'⟩
      ⟨F',(fun z u e=>hal.rev.look e),N',rfl,(fun _ _ h=>nomatch h),(fun _ h=>.tail _ (.tail _ (.tail _ (.tail _ h)))),⟨od,vs,n,ls,mx,t3,omd,om,es,used,last,rfl,D,hf,MD,hom,Nat.le_of_eq (congrArg (es.length+·) hbs),⟨Int.le_refl _,Int.le_of_eq (congrArg (fun z:Nat=>used+100*(z:Int)) hbs)⟩,⟨Int.le_refl _,Int.le_of_eq (congrArg (fun z:Nat=>last+(z:Int)) hbs)⟩⟩,rfl,.nil,(fun _ h=>nomatch h),List.prefix_refl _⟩ fun xs v1 tk1 p1 q1 S1=>?_
    obtain ⟨rfl,e2⟩:=Prod.mk.inj e0
    refine cG.out S1.wp fun od' vs' n' ls' mx' t3' omd' om' es' used' last' e1 D' z_ MD' hom' b1 b2 b3=>?_
    rw [e2,hbe] at b1 b2 b3
    obtain rfl:used'=used:=Int.le_antisymm (Int.le_of_add_le_add_right b2.2) b2.1
    obtain rfl:last'=last:=Int.le_antisymm (Int.le_of_add_le_add_right b3.2) b3.1
    have hnw:News g' L' v1.h (v1.Rf++((da,od')::(la,listOf vs'.toArray n')::(md,omd')::(mm,om')::J)):=by rw [← e1]; exact S1.nw
    refine bq (con (od:=od') (vs:=vs') (n:=n') (om:=om') q1 S1.ini S1.fr X' T' (ag hnw fun p hp=>List.mem_append_right _ (dL p hp)) D' MD' hom' (Nat.le_of_add_le_add_right b1) ?_) rfl (by show 730 - 40*k+1≤740 - 40*k; exact lin (.c _ (.c _ (.c _ .z))) (.c (.a (.v 1) (.m 40 (.v 0))) (.k 730) (.c (.k 740) (.a (.v 2) (.m 40 (.v 0))) .z)) (.a (.v 1) (.k 1)) (.v 2) rfl (eC (lin (.c _ .z) (.m 40 (.v 0) (.k 3) .z) (.m 40 (.v 0)) (.k 730) rfl hk)) (f5 _ _)) rfl rfl (by show 7300 - 400*k+3≤7400 - 400*k; exact lin (.c _ (.c _ (.c _ .z))) (.c (.a (.v 1) (.m 400 (.v 0))) (.k 7300) (.c (.k 7400) (.a (.v 2) (.m 400 (.v 0))) .z)) (.a (.v 1) (.k 3)) (.v 2) rfl (eC (lin (.c _ .z) (.m 400 (.v 0) (.k 3) .z) (.m 400 (.v 0)) (.k 7300) rfl hk)) (f5 _ _))
    intro tp nt made tree t Rn od2 vs2 ls2 n2 mx2 t32 omd2 om2 es2 used2 last2 h2 tk2 hto hTh hTr htp F2 NR N2 D2 MD2 hom2 hes2 hu2 hl2 hov b2'
    refine leaveK_ F2 (News.app NR N2) fun F3 N3=>?_
    refine post tp nt made tree t Rn od2 vs2 ls2 n2 mx2 t32 omd2 om2 es2 used2 last2 h2 tk2 hto hTh hTr htp F3 (ag N3 fun p hp=>List.mem_append_left _ hp) (ag N3 fun p hp=>List.mem_append_right _ hp) D2 MD2 hom2 (Nat.le_trans hes2 b1) hu2 hl2 hov ?_
    refine but4 (R:=[]) (od':=od2) (ol':=listOf vs2.toArray n2) (omd':=omd2) (om':=om2) hN (ag N3 fun p hp=>List.mem_append_right _ (dL p hp)) fun b o eb hn=>F2.keep _ _ (bt b o eb hn)
end
end
end
section
set_option backward.match.sparseCases false
noncomputable section
theorem Rm.lm8 {c:Ct} {n:Nat} {f:Fx} (ok:f.Ok c n) (hl:80≤c.lm):Rm f.A 0 8:=⟨ok.hd,by have:=ok.dp; exact lin (.c _ (.c _ (.c _ .z))) (.c (.k 80) (.v 2) (.c (.a (.a (.v 0) (.m 2 (.v 1))) (.v 2)) (.k 890) .z)) (.a (.a (.a (.v 0) (.k 1)) (.m 2 (.k 8))) (.k 0)) (.k 890) rfl hl this,by have:=ok.un; exact lin (.c _ (.c _ (.c _ .z))) (.m 10 (.k 80) (.v 2) (.c (.a (.a (.v 0) (.m 20 (.v 1))) (.m 10 (.v 2))) (.k 8900) .z)) (.a (.a (.a (.v 0) (.k 3)) (.m 20 (.k 8))) (.m 10 (.k 0))) (.k 8900) rfl hl this⟩
theorem c0 {x:SV} {l:List (Nat×SV)}:bud ((0,x)::l)=1+bud l:=rfl
theorem gd {a b c d:Addr×Obj} {R J:List (Addr×Obj)}:∀ p∈c::d::(R++(a::b::J)),p∈R++(a::b::c::d::J):=by
  intro p hp
  simp only [List.mem_cons,List.mem_append] at hp ⊢
  rcases hp with h | h | h | h | h | h <;> simp [h]
theorem mem_in {a b c d:Addr×Obj} {R J:List (Addr×Obj)}:∀ p∈R++(a::b::c::d::J),p∈c::d::(R++(a::b::J)):=by
  intro p hp
  simp only [List.mem_cons,List.mem_append] at hp ⊢
  rcases hp with h | h | h | h | h | h <;> simp [h]
theorem in3 {x1 x2 x3 t a b c d:Addr×Obj} {R J:List (Addr×Obj)}:∀ p∈x3::(R++(a::b::c::d::J)),p∈x1::x2::x3::t::c::d::(R++(a::b::J)):=by
  intro p hp
  rcases List.mem_cons.mp hp with rfl | hp
  · exact .tail _ (.tail _ (.head _))
  · exact .tail _ (.tail _ (.tail _ (.tail _ (mem_in p hp))))
theorem in4 {x1 x2 x3 t a b c d:Addr×Obj} {R J:List (Addr×Obj)}:∀ p∈x2::x3::(R++(a::b::c::d::J)),p∈x1::x2::x3::t::c::d::(R++(a::b::J)):=by
  intro p hp
  rcases List.mem_cons.mp hp with rfl | hp
  · exact .tail _ (.head _)
  · exact in3 p hp
theorem in5 {x1 x2 x3 t a b c d:Addr×Obj} {R J:List (Addr×Obj)}:∀ p∈x1::x2::x3::(R++(a::b::c::d::J)),p∈x1::x2::x3::t::c::d::(R++(a::b::J)):=by
  intro p hp
  rcases List.mem_cons.mp hp with rfl | hp
  · exact .head _
  · exact in4 p hp
theorem mX {D md mm:Addr} {a b:Addr×Obj} {o1 o2 o1' o2':Obj} {R J:List (Addr×Obj)} (h:∀ p∈(md,o1)::(mm,o2)::(R++(a::b::J)),p.1<D):∀ p∈R++(a::b::(md,o1')::(mm,o2')::J),p.1<D:=by
  intro p hp
  rcases List.mem_cons.mp (mem_in p hp) with rfl | hp
  · exact h (md,o1) (.head _)
  · rcases List.mem_cons.mp hp with rfl | hp
    · exact h (mm,o2) (.tail _ (.head _))
    · exact h p (.tail _ (.tail _ hp))
section
variable {c:Ct} {σ:Sy}
theorem St.slot {f:Fx} {v:Vr} {x:Addr} (S:St c f v σ):St c f ⟨v.ρ++[x],v.Rf,v.R1,v.h,v.m⟩ { σ with nx:=σ.nx+1 }:=
  have hp:v.ρ <+: v.ρ++[x]:=⟨_,rfl⟩
  { fr:=S.fr,lv:=fun x u e=>(S.lv x u e).imp fun y h=>⟨h.1,h.2.up hp⟩,nw:=S.nw,lr:=S.lr.up hp,ol:=fun i q e=>(S.ol i q e).imp fun a=>Exists.imp fun o h=>⟨az hp h.1,h.2.1,h.2.2.up hp⟩
    sb:=S.sb,wp:=S.wp,nx:=by rw [List.length_append,S.nx]; rfl,nd:=S.nd,up:=S.up,ini:=S.ini.trans hp }
theorem St.obj {f:Fx} {v:Vr} {h':Heap} {D:Addr} {j:Nat} {vs:List SV} {o:Obj} (S:St c f v σ) (F:Fr f.h₀ f.L h' v.m) (hj:v.ρ[j]?=some D)
    (N:News f.h₀ f.L h' ((D,o)::(v.Rf++v.R1))) (hD:∀ p∈v.Rf++v.R1,p.1≠D) (ho:OR v.ρ c.w.params (.L vs) o):St c f ⟨v.ρ,(D,o)::v.Rf,v.R1,h',v.m⟩ { σ with fr:=(j,.L vs)::σ.fr }:=
  { S with
    fr:=F,nw:=N
    lr:=⟨D,o,_,rfl,hj,ho,S.lr⟩
    nd:=List.pairwise_cons.mpr ⟨fun p hp=>Ne.symm (hD p (List.mem_append_left _ hp)),S.nd⟩
    up:=fC ⟨fun q hq=>hD q (List.mem_append_right _ hq),S.up⟩ }
end
section
variable {w:World} {p:Program} {loose:List Str} {mean:ExcName→Option Value} {mg mb:Str→Option Value} {R0:List (Addr×Obj)} {ρ0:List Addr} {lm:Nat} {da la md mm ma li ld sv jr fr:Addr} {e0 B:Nat} {u0 l0:Int}
theorem St.mem {σ:Sy} {f:Fx} {v:Vr} {h':Heap} {od ol omd om omd' om':Obj} {rest:List (Nat×SV)} (S:St (dZ w p loose mean mg mb R0 ρ0 lm da la md mm li sv jr fr e0 u0 l0 B) f v σ) (hs:aE w.params da la md mm ma li ld sv R0 e0 u0 l0 B) (e4:v.R1=(da,od)::(la,ol)::(md,omd)::(mm,om)::R0)
    (F:Fr f.h₀ f.L h' v.m) (N:News f.h₀ f.L h' ((md,omd')::(mm,om')::(v.Rf++((da,od)::(la,ol)::R0)))) (hw:cG w R0 da la md mm li sv jr fr e0 u0 l0 B rest ((da,od)::(la,ol)::(md,omd')::(mm,om')::R0)) :
    St (dZ w p loose mean mg mb R0 ρ0 lm da la md mm li sv jr fr e0 u0 l0 B) f ⟨v.ρ,v.Rf,(da,od)::(la,ol)::(md,omd')::(mm,om')::R0,h',v.m⟩ { σ with wd:=rest }:=
  have hU:∀ p∈v.Rf,∀ q∈(da,od)::(la,ol)::(md,omd)::(mm,om)::R0,q.1≠p.1:=by rw [← e4]; exact S.up
  { S with
    fr:=F,nw:=ag N mem_in,sb:=fun p hp=>.tail _ (.tail _ (.tail _ (.tail _ hp))),wp:=hw
    up:=fun p hp=>fC ⟨(hU p hp _ (.head _):da≠p.1),fC ⟨(hU p hp _ (.tail _ (.head _)):la≠p.1),fC ⟨(hU p hp _ (.tail _ (.tail _ (.head _))):md≠p.1),fC ⟨(hU p hp _ (.tail _ (.tail _ (.tail _ (.head _)))):mm≠p.1),fun q hq=>hU p hp q (.tail _ (.tail _ (.tail _ (.tail _ hq))))⟩⟩⟩⟩ }
theorem cZ.ev {ls:List Int} {mx:Int} {x:SV} {l:List (Nat×SV)} (h:cZ ls mx ((0,x)::l)):cZ ls mx l:=by
  rcases h with ⟨_,h⟩ | ⟨⟨k,_⟩,_⟩
  · exact h
  · exact absurd k (Nat.lt_irrefl 0)
theorem o7 {σ:Sy} {g:Addr} {x y s0:SV} {rest:List (Nat×SV)} {i1:Nat} (hg:Nat.beq g 533=true) (hx:x=.s i1) (hi:ρ0[i1]?=some ma) (hl:80≤lm) (hs:aE w.params da la md mm ma li ld sv R0 e0 u0 l0 B) (hw:σ.wd=(0,s0)::rest)
    (z:{ n:Int // ∀ ρ x,VR ρ y x→∃ t,x=.int n t }) (hz:(z.1==(2:Int))=true):aO (dZ w p loose mean mg mb R0 ρ0 lm da la md mm li sv jr fr e0 u0 l0 B) 0 σ g [x,y] (.s σ.nx) ⟨σ.loc,σ.fr,σ.ol,σ.nx+1,rest⟩:=fun f v tk xs Q ok S ⟨x',r1,e1,h1,y',r2,e2,h2,e3⟩ hq=>by
  obtain rfl:=Nat.eq_of_beq_eq_true hg
  subst e1 e2 hx
  obtain ⟨a',e,rfl⟩:=h1
  obtain rfl:ma=a':=Option.some.inj ((az S.ini hi).symm.trans e)
  obtain ⟨t,rfl⟩:=z.2 _ _ h2
  rw [show r2=[] from e3,beq_iff_eq.mp hz]
  refine cG.out S.wp fun od vs n ls mx t3 omd om es used last e4 D hf MD hom b1 b2 b3=>?_
  rw [hw,c0] at b1 b2 b3
  rw [hw] at hf
  have hN:News f.h₀ f.L v.h (v.Rf++((da,od)::(la,listOf vs.toArray n)::(md,omd)::(mm,om)::R0)):=by rw [← e4]; exact S.nw
  have hU:∀ p∈v.Rf,∀ q∈(da,od)::(la,listOf vs.toArray n)::(md,omd)::(mm,om)::R0,q.1≠p.1:=by rw [← e4]; exact S.up
  have a1:=hs.e; have a2:=hs.u; have a3:=hs.u2; have a4:=hs.l; have a5:=hs.l2
  have hu2:used≤16000000:=ax (.c _ (.c _ .z)) (.c _ (.c _ .z)) (.c (.a (.v 1) (.m 100 (.u (.a (.k 1) (.v 0))))) (.a (.v 0) (.m 100 (.u (.v 1)))) (.c (.a (.v 0) (.m 100 (.u (.v 1)))) (.k 16000000) .z)) (.v 1) (.k 16000000) rfl b2.2 a3
  refine nK (J:=v.Rf++((da,od)::(la,listOf vs.toArray n)::R0)) (Rm.lm8 ok hl) S.fr ok.X ok.T (ag hN gd) (hs.all hU).2 MD hs.ap.o hom (by exact lin (.c _ (.c _ (.c _ (.c _ .z)))) (.c (.a (.v 0) (.a (.k 1) (.v 1))) (.a (.v 2) (.v 3)) (.c (.a (.v 2) (.v 3)) (.k 1000) .z)) (.v 0) (.k 1000) rfl b1 a1) (by exact ax .z (.c _ (.c _ .z)) (.c (.v 0) (.v 1) (.c (.k 0) (.v 0) .z)) (.k 0) (.v 1) rfl b2.1 a2) hu2 (by exact ax .z (.c _ (.c _ .z)) (.c (.v 0) (.v 1) (.c (.k 0) (.v 0) .z)) (.k 0) (.v 1) rfl b3.1 a4) (by exact ax (.c _ (.c _ .z)) (.c _ (.c _ .z)) (.c (.a (.v 1) (.u (.a (.k 1) (.v 0)))) (.a (.v 0) (.u (.v 1))) (.c (.a (.v 0) (.u (.v 1))) (.k 100000) .z)) (.v 1) (.k 100000) rfl b3.2 a5) fun x omd' om' es' h' tk' F' N' MD' hom' he' bt=>?_
  have S2:=(S.mem hs e4 F' N' ⟨od,vs,n,ls,mx,t3,omd',om',es',_,_,rfl,D,hf.ev,MD',hom',by exact lin (.c _ (.c _ (.c _ (.c _ (.c _ .z))))) (.c (.a (.v 0) (.a (.k 1) (.v 1))) (.a (.v 2) (.v 3)) (.c (.v 4) (.a (.v 0) (.k 1)) .z)) (.a (.v 4) (.v 1)) (.a (.v 2) (.v 3)) rfl b1 he',⟨by exact ax .z (.c _ (.c _ .z)) (.c (.v 0) (.v 1) .z) (.v 0) (.a (.v 1) (.k 32)) rfl b2.1,by exact ax (.c _ (.c _ .z)) (.c _ (.c _ .z)) (.c (.a (.v 1) (.m 100 (.u (.a (.k 1) (.v 0))))) (.a (.v 0) (.m 100 (.u (.v 1)))) .z) (.a (.a (.v 1) (.k 32)) (.m 100 (.u (.v 0)))) (.a (.v 0) (.m 100 (.u (.v 1)))) rfl b2.2⟩,⟨by exact ax .z (.c _ (.c _ .z)) (.c (.v 0) (.v 1) .z) (.v 0) (.a (.v 1) (.k 1)) rfl b3.1,by exact ax (.c _ (.c _ .z)) (.c _ (.c _ .z)) (.c (.a (.v 1) (.u (.a (.k 1) (.v 0)))) (.a (.v 0) (.u (.v 1))) .z) (.a (.a (.v 1) (.k 1)) (.u (.v 0))) (.a (.v 0) (.u (.v 1))) rfl b3.2⟩⟩).slot (x:=x)
  exact hq _ _ tk' ⟨[x],rfl⟩ ⟨x,by rw [← S.nx]; exact List.getElem?_concat_length,rfl⟩ S2 rfl
noncomputable def oQ (j:Nat):List (Str×SV):=[(Str.ofString "number",.a),(Str.ofString "things",.s j),(Str.ofString "is_global",.a),(Str.ofString "level",.a)]
theorem pM {σ:Sy} {g:Addr} {x y s0:SV} {rest:List (Nat×SV)} {i1 i2:Nat} {us:List SV} (hg:Nat.beq g 526=true) (hx:x=.s i1) (hi:ρ0[i1]?=some ma) (hy:y=.s i2) (hu:σ.fr.lookup i2=some (.L us)) (h3:Nat.ble us.length 3=true) (hl:80≤lm) (hs:aE w.params da la md mm ma li ld sv R0 e0 u0 l0 B) (hw:σ.wd=(0,s0)::rest) :
    aO (dZ w p loose mean mg mb R0 ρ0 lm da la md mm li sv jr fr e0 u0 l0 B) 0 σ g [x,y] (.s (σ.nx+2)) ⟨σ.loc,(σ.nx,.L us)::(σ.nx+2,.I 128 (σ.nx+1))::(σ.nx+1,.D (oQ σ.nx) 4)::σ.fr,σ.ol,σ.nx+3,rest⟩:=fun f v tk xs Q ok S ⟨x',r1,e1,h1,y',r2,e2,h2,e3⟩ hq=>by
  obtain rfl:=Nat.eq_of_beq_eq_true hg
  subst e1 e2 hx hy
  obtain ⟨a',e,rfl⟩:=h1
  obtain rfl:ma=a':=Option.some.inj ((az S.ini hi).symm.trans e)
  obtain ⟨tl,htl,rfl⟩:=h2
  rw [show r2=[] from e3]
  obtain ⟨a1,o1,g1,m1,q1⟩:=S.lr.get hu
  obtain rfl:=Option.some.inj (htl.symm.trans g1)
  obtain ⟨ys,m,hv,rfl⟩:=q1
  have h3:=Nat.le_of_ble_eq_true h3
  have hlen:=hv.len
  refine cG.out S.wp fun od vs n ls mx t3 omd om es used last e4 D hf MD hom b1 b2 b3=>?_
  rw [hw,c0] at b1 b2 b3
  rw [hw] at hf
  have hN:News f.h₀ f.L v.h (v.Rf++((da,od)::(la,listOf vs.toArray n)::(md,omd)::(mm,om)::R0)):=by rw [← e4]; exact S.nw
  have hU:∀ p∈v.Rf,∀ q∈(da,od)::(la,listOf vs.toArray n)::(md,omd)::(mm,om)::R0,q.1≠p.1:=by rw [← e4]; exact S.up
  have a1:=hs.e; have a2:=hs.u; have a3:=hs.u2; have a4:=hs.l; have a5:=hs.l2
  have n1:@Ne Nat tl md:=Ne.symm (hU _ m1 _ (.tail _ (.tail _ (.head _))))
  have n2:@Ne Nat tl mm:=Ne.symm (hU _ m1 _ (.tail _ (.tail _ (.tail _ (.head _)))))
  have hu2:used≤16000000:=ax (.c _ (.c _ .z)) (.c _ (.c _ .z)) (.c (.a (.v 1) (.m 100 (.u (.a (.k 1) (.v 0))))) (.a (.v 0) (.m 100 (.u (.v 1)))) (.c (.a (.v 0) (.m 100 (.u (.v 1)))) (.k 16000000) .z)) (.v 1) (.k 16000000) rfl b2.2 a3
  refine ko (tl:=tl) (vs:=ys) (nt:=m) (J:=v.Rf++((da,od)::(la,listOf vs.toArray n)::R0)) (Rm.lm8 ok hl) S.fr ok.X ok.T (ag hN fun p hp=>?_) (by exact lin (.c _ (.c _ .z)) (.c (.v 0) (.k 3) (.c (.v 1) (.v 0) .z)) (.v 1) (.k 3) rfl h3 (cr hlen)) n1 n2 (hs.all hU).2 MD hs.ap.o hom (by exact lin (.c _ (.c _ (.c _ (.c _ .z)))) (.c (.a (.v 0) (.a (.k 1) (.v 1))) (.a (.v 2) (.v 3)) (.c (.a (.v 2) (.v 3)) (.k 1000) .z)) (.v 0) (.k 1000) rfl b1 a1) (by exact ax .z (.c _ (.c _ .z)) (.c (.v 0) (.v 1) (.c (.k 0) (.v 0) .z)) (.k 0) (.v 1) rfl b2.1 a2) hu2 (by exact ax .z (.c _ (.c _ .z)) (.c (.v 0) (.v 1) (.c (.k 0) (.v 0) .z)) (.k 0) (.v 1) rfl b3.1 a4) (by exact ax (.c _ (.c _ .z)) (.c _ (.c _ .z)) (.c (.a (.v 1) (.u (.a (.k 1) (.v 0)))) (.a (.v 0) (.u (.v 1))) (.c (.a (.v 0) (.u (.v 1))) (.k 100000) .z)) (.v 1) (.k 100000) rfl b3.2 a5) fun x dx lst n' vn vg tv t1 t2 t3' t4 omd' om' es' h' tk' F' N' MD' hom' he' bt nd up=>?_
  · rcases List.mem_cons.mp hp with rfl | hp
    · exact List.mem_append_left _ m1
    · exact gd p hp
  have S1:=S.mem hs e4 F' (ag N' fun p hp=>.tail _ (.tail _ (.tail _ (.tail _ hp)))) ⟨od,vs,n,ls,mx,t3,omd',om',es',_,_,rfl,D,hf.ev,MD',hom',by exact lin (.c _ (.c _ (.c _ (.c _ (.c _ .z))))) (.c (.a (.v 0) (.a (.k 1) (.v 1))) (.a (.v 2) (.v 3)) (.c (.v 4) (.a (.v 0) (.k 1)) .z)) (.a (.v 4) (.v 1)) (.a (.v 2) (.v 3)) rfl b1 he',⟨by exact ax (.c _ .z) (.c _ (.c _ .z)) (.c (.v 0) (.v 1) .z) (.v 0) (.a (.v 1) (.m 8 (.u (.v 0)))) rfl b2.1,by exact ax (.c _ (.c _ (.c _ (.c _ .z)))) (.c _ (.c _ .z)) (.m 8 (.u (.v 0)) (.u (.k 3)) (.m 8 (.u (.v 1)) (.u (.v 0)) (.c (.a (.v 1) (.m 100 (.u (.a (.k 1) (.v 2))))) (.a (.v 0) (.m 100 (.u (.v 3)))) .z))) (.a (.a (.v 1) (.m 8 (.u (.v 1)))) (.m 100 (.u (.v 2)))) (.a (.v 0) (.m 100 (.u (.v 3)))) rfl (Int.ofNat_le.mpr h3) (Int.ofNat_le.mpr (cr hlen)) b2.2⟩,⟨by exact ax .z (.c _ (.c _ .z)) (.c (.v 0) (.v 1) .z) (.v 0) (.a (.v 1) (.k 1)) rfl b3.1,by exact ax (.c _ (.c _ .z)) (.c _ (.c _ .z)) (.c (.a (.v 1) (.u (.a (.k 1) (.v 0)))) (.a (.v 0) (.u (.v 1))) .z) (.a (.a (.v 1) (.k 1)) (.u (.v 0))) (.a (.v 0) (.u (.v 1))) rfl b3.2⟩⟩
  have S2:=S1.slot (x:=lst)
  have out:∀ {a:Addr},a∈[lst,x,dx]→∀ p∈v.Rf++((da,od)::(la,listOf vs.toArray n)::(md,omd')::(mm,om')::R0),p.1≠a:=fun ha p hp=>up _ ha p (.tail _ (mem_in p hp))
  have nd1:=List.pairwise_cons.mp nd
  have nd2:=List.pairwise_cons.mp nd1.2
  have hj:(v.ρ++[lst])[σ.nx]?=some lst:=by rw [← S.nx]; exact List.getElem?_concat_length
  have S3:=S2.pushN (q:=.D (oQ σ.nx) 4) (o:=bc w.params (Str.ofString "things") vn (.ref lst) vg tv t1 t2 t3' t4) F' (ag N' in3) (out (.tail _ (.tail _ (.head _)))) ⟨_,.cons trivial (.cons ⟨lst,hj,rfl⟩ (.cons trivial (.cons trivial rfl))),rfl⟩
  have S4:=S3.pushN (q:=.I 128 (σ.nx+1)) (o:=instObj 128 dx) F' (ag N' in4) (fC ⟨Ne.symm (nd2.1 dx (.head _)),out (.tail _ (.head _))⟩) ⟨dx,S2.top,rfl⟩
  have p2:v.ρ++[lst] <+: ((v.ρ++[lst])++[dx])++[x]:=⟨[dx,x],by simp⟩
  have S5:=S4.obj (j:=σ.nx) (D:=lst) (o:=listOf ys.toArray n') F' (az p2 hj) (ag N' in5) (fC ⟨Ne.symm (nd1.1 x (.head _)),fC ⟨Ne.symm (nd1.1 dx (.tail _ (.head _))),out (.head _)⟩⟩) ⟨ys,n',(hv.up ⟨[lst],rfl⟩).up p2,rfl⟩
  exact hq _ _ tk' ⟨[lst,dx,x],by simp⟩ ⟨x,S3.top,rfl⟩ S5 rfl
end
end
end
section
set_option backward.match.sparseCases false
noncomputable section
section
variable {w:World} {p:Program} {loose:List Str} {mean:ExcName→Option Value} {mg mb:Str→Option Value} {R0:List (Addr×Obj)} {ρ0:List Addr} {lm:Nat} {da la md mm ma li ld sv jr fr:Addr} {e0 B:Nat} {u0 l0:Int}
theorem ez {σ:Sy} {u:SV} {a:Str} {g:Addr} {i1:Nat} (hu:u=.s i1) (hi:ρ0[i1]?=some ma) (hs:aE w.params da la md mm ma li ld sv R0 e0 u0 l0 B) (hg:plainGet (Mine.hd.heap_1 w.params) 718 a=true) (hf:findIn (Mine.hd.heap_1 w.params) (.ref 718) a=some (some (.ref g)))
    (ht:isFn (Mine.hd.heap_1 w.params) (.ref g)=true) (hn:∀ {P:Params} {li sv jr mm fr:Addr} {used last:Int} {f:Nat→Tok} {es:List DictEntry} {n:Nat},mV P li sv jr mm fr used last f=dictOf es n→getL a es=some none):dC (dZ w p loose mean mg mb R0 ρ0 lm da la md mm li sv jr fr e0 u0 l0 B) σ u a g:=fun {f v tk Q x pl} X S hv hq=>by
  subst hu
  obtain ⟨a',e,rfl⟩:=hv
  obtain rfl:ma=a':=Option.some.inj ((az S.ini hi).symm.trans e)
  obtain ⟨od,vs,n,ls,mx,t3,omd,om,es,used,last,e4,_,_,MD,_⟩:=S.wp
  have m2:(md,omd)∈v.Rf++v.R1:=by rw [e4]; exact List.mem_append_right _ (.tail _ (.tail _ (.head _)))
  have m1:(ma,instObj 718 md)∈v.Rf++v.R1:=List.mem_append_right _ (S.sb _ hs.mj.m)
  cases MD
  exact method_inst S.fr X (InstAt.of_news S.nw m1 m2) hg hf ht (hn rfl) hq
noncomputable def xd (hs:aE w.params da la md mm ma li ld sv R0 e0 u0 l0 B) (i1:Nat) (hi:ρ0[i1]?=some ma):xT (dZ w p loose mean mg mb R0 ρ0 lm da la md mm li sv jr fr e0 u0 l0 B):=fun u a σ=>(cI u).bind fun j=>(ay (Nat.beq j.1 i1)).bind fun hj=>(ay (a==Str.ofString "make_row")).elim
  ((ay (a==Str.ofString "make_dict")).map fun ha=>⟨533,ez j.2 (Nat.eq_of_beq_eq_true hj.down▸hi) hs (by rw [beq_iff_eq.mp ha.down]; kernel_rfl) (by rw [beq_iff_eq.mp ha.down]; kernel_rfl) (by kernel_rfl) (fun e=>by rw [beq_iff_eq.mp ha.down]; cases e; rfl),by kernel_rfl⟩)
  fun ha=>some ⟨526,ez j.2 (Nat.eq_of_beq_eq_true hj.down▸hi) hs (by rw [beq_iff_eq.mp ha.down]; kernel_rfl) (by rw [beq_iff_eq.mp ha.down]; kernel_rfl) (by kernel_rfl) (fun e=>by rw [beq_iff_eq.mp ha.down]; cases e; rfl),by kernel_rfl⟩
noncomputable def tC (l:List (Nat×SV)):Option { q:SV×List (Nat×SV) // l=(0,q.1)::q.2 }:=List.rec (motive:=fun l=>Option { q:SV×List (Nat×SV) // l=(0,q.1)::q.2 }) none (fun q r _=>(ay (Nat.beq q.1 0)).map fun h=>⟨(q.2,r),by
  obtain ⟨a,b⟩:=q
  obtain rfl:=Nat.eq_of_beq_eq_true h.down
  rfl⟩) l
noncomputable def ug (hl:90≤lm) (i0 i1:Nat) (h0:ρ0[i0]?=some da) (h1:ρ0[i1]?=some ma) (hs:aE w.params da la md mm ma li ld sv R0 e0 u0 l0 B):oR (dZ w p loose mean mg mb R0 ρ0 lm da la md mm li sv jr fr e0 u0 l0 B):=fun g vs σ=>(dG hl i0 h0 hs g vs σ).elim
  (match vs with
  | [x,y]=>(cI x).bind fun j=>(ay (Nat.beq j.1 i1)).bind fun hj=>(tC σ.wd).bind fun q=>(ay (Nat.beq g 533)).elim
    ((ay (Nat.beq g 526)).bind fun hg=>(cI y).bind fun t=>(bR (σ.fr.lookup t.1)).bind fun o=>(dH o.1).bind fun us=>(ay (Nat.ble us.1.length 3)).map fun h3=>⟨_,_,pM hg.down j.2 (Nat.eq_of_beq_eq_true hj.down▸h1) t.2 (o.2.trans (congrArg some us.2)) h3.down (Nat.le_trans (by decide) hl) hs q.2⟩)
    fun hg=>(dr y).bind fun z=>(ay (z.1==(2:Int))).map fun hz=>⟨_,_,o7 hg.down j.2 (Nat.eq_of_beq_eq_true hj.down▸h1) (Nat.le_trans (by decide) hl) hs q.2 z hz.down⟩
  | _=>none) some
theorem iw {k:Nat} {s:Shared} {h₀:Heap} {L:Addr} {m:Str→Option Value}
    {od omd om:Obj} {t3 dt:Tok} {mx:Int} {vs:List Value} {ls:List Int} {n:Nat} {es:List (Int×Value)} {used last dv:Int} {J:List (Addr×Obj)} {Q:Value→Shared→Prop} {B:Nat}
    (e:aq ls mx 13=8) (hB:1≤B) (hs:aE w.params da la md mm ma li ld sv J es.length used last B) (hk:k≤3) (hdv:dv=(k:Int)) (F:Fr h₀ L s.heap m) (X:(Mine.hd.heap_1 w.params).In h₀) (T:Top p loose mean mg mb h₀)
    (N:News h₀ L s.heap ((md,omd)::(mm,om)::(da,od)::(la,listOf vs.toArray n)::J)) (D:DeckIs w la od vs ls mx t3) (MD:aT w.params li sv jr mm fr used last omd)
    (hom:om.IsDictOf (intKind rw_on0273_01.row.prog w) es) (post:aF w h₀ L m da la md mm li sv jr fr J es used last B k s Q) :
    aw (model PG w) (AR (730 - 40*k) (7300 - 400*k)) (call (.ref 777) [.ref ma,.ref da,.int dv dt]) Q (fun z_ z_=>False) s:=
  gb (t:=.word .dict) (E4:=t4 (Str.ofString "dict") (.s 3) false) (V:=[.t (Str.ofString "word"),.b (Wd.bytes .dict)]) (sc:=[(13,.i 8),(0,.n)])
    ((uN (ug (Nat.le_refl _) 0 1 rfl rfl hs) (xd hs 1 rfl) 34).S fn777_3 fn777_3.body (dM k [(13,.i 8),(0,.n)])) (by kernel_rfl) hs hB (.inr ⟨⟨(by decide:0<13),(by decide:13≤2000000),fun ρ t=>⟨t,congrArg (fun n=>Value.int n t) e⟩⟩,.inl ⟨rfl,trivial⟩⟩) (fun hE hV m1 m2 m3=>by
      obtain ⟨y,u,u0,u1,u2,u3,u4,hy,e4⟩:=km hE
      rw [e4] at m2
      obtain ⟨v,z,rfl,hb⟩:=jq hV
      obtain ⟨u6,rfl⟩:=hb
      exact ⟨.word (k:=.dict) m1 m2,.word (c:=.dict) m3⟩) .word hk hdv F X T N D MD hom post
end
end
end
section
set_option backward.match.sparseCases false
noncomputable section
section
variable {c:Ct} {n:Nat} {σ σ1 σ2 σ3:Sy}
theorem St.objN {f:Fx} {v:Vr} {h':Heap} {D:Addr} {j:Nat} {q:SO} {o:Obj} (hq:∀ es n,q≠.D es n) (S:St c f v σ) (F:Fr f.h₀ f.L h' v.m) (hj:v.ρ[j]?=some D)
    (N:News f.h₀ f.L h' ((D,o)::(v.Rf++v.R1))) (hD:∀ p∈v.Rf++v.R1,p.1≠D) (ho:OR v.ρ c.w.params q o):St c f ⟨v.ρ,(D,o)::v.Rf,v.R1,h',v.m⟩ { σ with fr:=(j,q)::σ.fr }:=
  { S with
    fr:=F,nw:=N
    lr:=⟨D,o,_,rfl,hj,ho,S.lr⟩
    nd:=List.pairwise_cons.mpr ⟨fun p hp=>Ne.symm (hD p (List.mem_append_left _ hp)),S.nd⟩
    up:=fC ⟨fun q hq=>hD q (List.mem_append_right _ hq),S.up⟩ }
noncomputable def fH (c:Ct) (n:Nat) (r:FnR) (ss:List Stmt) (σ:Sy) (res:Option SV) (σ':Sy):Prop:=
  ∀ (f:Fx) (v:Vr) (tk:Nat) (Q:Flow→Shared→Prop),f.Ok c n→St c f v σ→(∀ x v' tk',v.ρ <+: v'.ρ→ak res v'.ρ x→St c f v' σ'→Q x (f.sh v'.h tk'))→aw (model PG c.w) f.A (execs ss (aa r f.L)) Q f.E (f.sh v.h tk)
noncomputable def JudgCW (c:Ct) (n:Nat) (σ:Sy) (g:Addr) (vs:List SV) (u:SV) (σ':Sy):Prop:=
  ∀ (f:Fx) (v:Vr) (tk:Nat) (xs:List Value) (Q:Value→Shared→Prop),f.Ok c n→St c f v σ→aC v.ρ vs xs→(∀ x v' tk',v.ρ <+: v'.ρ→VR v'.ρ u x→St c f v' σ'→Q x (f.sh v'.h tk'))→aw (model PG c.w) f.A (call (.ref g) xs) Q f.E (f.sh v.h tk)
noncomputable abbrev ot (c:Ct) (n:Nat) (r:FnR) (ss:List Stmt) (σ:Sy):=(res:Option SV) ×' (σ':Sy) ×' (fH c n r ss σ res σ')
noncomputable abbrev ot.res {c:Ct} {n:Nat} {r:FnR} {ss:List Stmt} {σ:Sy} (q:ot c n r ss σ):Option SV:=q.1
noncomputable abbrev ot.σ' {c:Ct} {n:Nat} {r:FnR} {ss:List Stmt} {σ:Sy} (q:ot c n r ss σ):Sy:=q.2.1
theorem ot.ok {c:Ct} {n:Nat} {r:FnR} {ss:List Stmt} {σ:Sy} (q:ot c n r ss σ):fH c n r ss σ q.res q.σ':=q.2.2
theorem af.appW {r:FnR} {a b:List Stmt} {res:Option SV} (h1:af c n σ (fun L=>execs a (aa r L)) (ak none) σ1) (h2:fH c n r b σ1 res σ2):fH c n r (a++b) σ res σ2:=fun f v tk Q o S hq=>
  ew (h1 f v tk _ o S fun fl v1 t1 p1 q1 S1=>by
    obtain rfl:fl=.next:=q1
    exact h2 f v1 t1 Q o S1 fun x v2 t2 p2 q2 S2=>hq x v2 t2 (p1.trans p2) q2 S2)
theorem ya {r:FnR} {x fn y a:Str} {px pf py pa pc1 pc2 ps:Pos} {e1 e2:PySem.Expr} {rest:List Stmt} {g gm:Addr} {u um:SV} {v1s v2s:List SV} {ux:SV} {res:Option SV} {σ4 σ5 σ6:Sy} (hx:dX (aa r 0) x=true) (hg:fnIn (Mine.hd.heap_1 c.w.params) g=true) (hgm:fnIn (Mine.hd.heap_1 c.w.params) gm=true)
    (hf:af c n σ (fun L=>eval (.Name fn pf) (aa r L)) (fun ρ z=>VR ρ (.k g) z) σ1) (hy:af c n σ1 (fun L=>eval (.Name y py) (aa r L)) (fun ρ z=>VR ρ u z) σ2) (hm:dC c σ2 u a gm) (hp1:br e1) (hp2:br e2) (hl:(pa.endLine==pc1.line)=true)
    (h1:∀ pos,af c n σ2 (fun L=>spliced (backTo pos (starEach [e1] (aa r L)))) (fun ρ xs=>aC ρ v1s xs) σ3) (ht:JudgCW c n σ3 gm (u::v1s) um σ4)
    (h2:∀ pos,af c n σ4 (fun L=>spliced (backTo pos (starEach [e2] (aa r L)))) (fun ρ xs=>aC ρ v2s xs) σ5) (hc:aO c n σ5 g (um::v2s) ux σ6) {σ7:Sy} (hr:af c n { σ6 with loc:=put x ux σ6.loc } (fun L=>execs rest (aa r L)) (ak res) σ7) :
    fH c n r (.Assign [.Name x px] (.Call (.Name fn pf) [.Call (.Attribute (.Name y py) a pa) [e1] [] pc1,e2] [] pc2) ps::rest) σ res σ7:=fun f v tk Q ok S hq=>by
  refine aI (gC (fA (hf f v tk _ ok S fun z v1 t1 p1 q1 S1=>?_) rfl) rfl)
  obtain rfl:z=.ref g:=q1
  obtain ⟨o1,fd1,ho1,hd1⟩:=nf hg
  obtain ⟨o2,fd2,ho2,hd2⟩:=nf hgm
  refine bf (iV (eY (pP ?_ (j6 hp1 hl)) rfl) rfl)
  refine hy f v1 t1 _ ok S1 fun ov v2 t2 p2 q2 S2=>hm ok.X S2 q2 (bf (aD (bH ?_ (hp1.star _ _))))
  refine h1 _ f v2 t2 _ ok S2 fun xs v3 t3 p3 q3 S3=>cy S3.fr ok.X ho2 hd2 ?_
  refine ht f v3 t3 (ov::xs) _ ok S3 ⟨ov,xs,rfl,q2.up p3,q3⟩ fun tx v4 t4 p4 q4 S4=>?_
  refine h2 _ f v4 t4 _ ok S4 fun ys v5 t5 p5 q5 S5=>cy S5.fr ok.X ho1 hd1 (aD ?_)
  refine hc f v5 t5 (tx::ys) _ ok S5 ⟨tx,ys,rfl,q4.up p5,q5⟩ fun made v6 t6 p6 q6 S6 _=>?_
  refine eJ hx S6 q6 fun v7 t7 e7 S7=>aD (hr f v7 t7 Q ok S7 fun fl v8 t8 p8 q8 S8=>hq fl v8 t8 ?_ q8 S8)
  exact p1.trans (p2.trans (p3.trans (p4.trans (p5.trans (p6.trans (e7▸p8))))))
end
end
end
section
noncomputable section
section
variable {w:World} {p:Program} {loose:List Str} {mean:ExcName→Option Value} {mg mb:Str→Option Value} {R0:List (Addr×Obj)} {ρ0:List Addr} {lm:Nat} {da la md mm ma li ld sv jr fr:Addr} {e0 B:Nat} {u0 l0:Int}
noncomputable def rZ (j:Nat):List (Str×SV):=[(Str.ofString "number",.a),(Str.ofString "octets",.s j),(Str.ofString "is_global",.a),(Str.ofString "level",.a)]
noncomputable def xD (q:SO):Prop:=SO.rec (motive:=fun z_=>Prop) (fun z_ z_=>True) (fun z_ z_=>True) (fun z_=>True) (fun z_=>True) (fun z_=>True) (fun z_=>False) (fun z_ z_ z_=>True) (fun z_=>True) (fun z_ z_ z_=>True) q
theorem wj {x1 x2 x3 a b c d:Addr×Obj} {R J:List (Addr×Obj)}:∀ p∈x3::(R++(a::b::c::d::J)),p∈x1::x2::x3::c::d::(R++(a::b::J)):=by
  intro p hp
  rcases List.mem_cons.mp hp with rfl | hp
  · exact .tail _ (.tail _ (.head _))
  · exact .tail _ (.tail _ (.tail _ (mem_in p hp)))
theorem wP {x1 x2 x3 a b c d:Addr×Obj} {R J:List (Addr×Obj)}:∀ p∈x2::x3::(R++(a::b::c::d::J)),p∈x1::x2::x3::c::d::(R++(a::b::J)):=by
  intro p hp
  rcases List.mem_cons.mp hp with rfl | hp
  · exact .tail _ (.head _)
  · exact wj p hp
theorem xG {x1 x2 x3 a b c d:Addr×Obj} {R J:List (Addr×Obj)}:∀ p∈x1::x2::x3::(R++(a::b::c::d::J)),p∈x1::x2::x3::c::d::(R++(a::b::J)):=by
  intro p hp
  rcases List.mem_cons.mp hp with rfl | hp
  · exact .head _
  · exact wP p hp
theorem mz {c:Ct} {n:Nat} {f:Fx} {α:Type} {t:Sem α} {Q:α→Shared→Prop} {s:Shared} {dp un:Nat} (h:aw (model PG c.w) (AR dp un) t Q (fun z_ z_=>False) s) (ok:f.Ok c n) (h1:890≤dp+c.lm) (h2:8900≤un+10*c.lm):aw (model PG c.w) f.A t Q f.E s:=
  bq (A':=AR dp un) (aJ h (fun _ _ h=>h) fun _ _ h=>h.elim) ok.hd (by have:=ok.dp; show f.A.depth≤dp; exact lin (.c _ (.c _ (.c _ (.c _ .z)))) (.c (.k 890) (.a (.v 0) (.v 1)) (.c (.a (.a (.v 2) (.m 2 (.v 3))) (.v 1)) (.k 890) .z)) (.v 2) (.v 0) rfl h1 this) rfl rfl (by have:=ok.un; show f.A.units≤un; exact lin (.c _ (.c _ (.c _ (.c _ .z)))) (.c (.k 8900) (.a (.v 1) (.m 10 (.v 0))) (.c (.a (.a (.v 2) (.m 20 (.v 3))) (.m 10 (.v 0))) (.k 8900) .z)) (.v 2) (.v 1) rfl h2 this)
theorem text_jw {σ:Sy} {x s0:SV} {rest:List (Nat×SV)} {i1:Nat} {b:Array UInt8} (hx:x=.s i1) (hi:ρ0[i1]?=some ma) (hb:Nat.ble b.size 30=true) (hl:80≤lm) (hs:aE w.params da la md mm ma li ld sv R0 e0 u0 l0 B) (hw:σ.wd=(0,s0)::rest) :
    JudgCW (dZ w p loose mean mg mb R0 ρ0 lm da la md mm li sv jr fr e0 u0 l0 B) 0 σ 519 [x,.b b] (.s (σ.nx+2)) ⟨σ.loc,(σ.nx,.B b)::(σ.nx+2,.I 107 (σ.nx+1))::(σ.nx+1,.D (rZ σ.nx) 4)::σ.fr,σ.ol,σ.nx+3,rest⟩:=fun f v tk xs Q ok S ⟨x',r1,e1,h1,y',r2,e2,h2,e3⟩ hq=>by
  subst e1 e2 hx
  obtain ⟨a',e,rfl⟩:=h1
  obtain rfl:ma=a':=Option.some.inj ((az S.ini hi).symm.trans e)
  obtain ⟨tb,rfl⟩:=h2
  rw [show r2=[] from e3]
  have hb:=Nat.le_of_ble_eq_true hb
  refine cG.out S.wp fun od vs n ls mx t3 omd om es used last e4 D hf MD hom b1 b2 b3=>?_
  rw [hw,c0] at b1 b2 b3
  rw [hw] at hf
  have hN:News f.h₀ f.L v.h (v.Rf++((da,od)::(la,listOf vs.toArray n)::(md,omd)::(mm,om)::R0)):=by rw [← e4]; exact S.nw
  have hU:∀ p∈v.Rf,∀ q∈(da,od)::(la,listOf vs.toArray n)::(md,omd)::(mm,om)::R0,q.1≠p.1:=by rw [← e4]; exact S.up
  have a1:=hs.e; have a2:=hs.u; have a3:=hs.u2; have a4:=hs.l; have a5:=hs.l2
  refine mz (qi (J:=v.Rf++((da,od)::(la,listOf vs.toArray n)::R0)) S.fr ok.X ok.T (ag hN gd) (hs.all hU).2 MD hs.ap.o hom (by exact lin (.c _ (.c _ (.c _ (.c _ .z)))) (.c (.a (.v 0) (.a (.k 1) (.v 1))) (.a (.v 2) (.v 3)) (.c (.a (.v 2) (.v 3)) (.k 1000) .z)) (.v 0) (.k 1000) rfl b1 a1) hs.ap.lo (by exact ax .z (.c _ (.c _ .z)) (.c (.v 0) (.v 1) (.c (.k 0) (.v 0) .z)) (.k 0) (.v 1) rfl b2.1 a2) hb (by exact ax (.c _ (.c _ .z)) (.c _ (.c _ .z)) (.c (.a (.v 1) (.m 100 (.u (.a (.k 1) (.v 0))))) (.a (.v 0) (.m 100 (.u (.v 1)))) (.c (.a (.v 0) (.m 100 (.u (.v 1)))) (.k 16000000) .z)) (.a (.v 1) (.k 30)) (.k 16000000) rfl b2.2 a3) (by exact ax .z (.c _ (.c _ .z)) (.c (.v 0) (.v 1) (.c (.k 0) (.v 0) .z)) (.k 0) (.v 1) rfl b3.1 a4) (by exact ax (.c _ (.c _ .z)) (.c _ (.c _ .z)) (.c (.a (.v 1) (.u (.a (.k 1) (.v 0)))) (.a (.v 0) (.u (.v 1))) (.c (.a (.v 0) (.u (.v 1))) (.k 100000) .z)) (.v 1) (.k 100000) rfl b3.2 a5) fun x dx ba tn vg tv t1 t2 t3' t4 omd' om' es' h' tk' F' N' MD' hom' he' bt l1 l2 l3=>?_) ok (by show 890≤810+lm; exact lin (.c _ .z) (.c (.k 80) (.v 0) .z) (.k 890) (.a (.k 810) (.v 0)) rfl hl) (by show 8900≤8100+10*lm; exact lin (.c _ .z) (.m 10 (.k 80) (.v 0) .z) (.k 8900) (.a (.k 8100) (.m 10 (.v 0))) rfl hl)
  have k1:=AllLt.every _ l1
  have k2:=AllLt.every _ l2
  have k3:=AllLt.every _ l3
  have hne:dx≠x:=by
    rintro rfl
    have z1:=(N' _ (.tail _ (.head _))).1
    have z2:=(N' _ (.tail _ (.tail _ (.head _)))).1
    rw [z1] at z2
    cases z2
  have S1:=S.mem hs e4 F' (ag N' fun p hp=>.tail _ (.tail _ (.tail _ hp))) ⟨od,vs,n,ls,mx,t3,omd',om',es',_,_,rfl,D,hf.ev,MD',hom',by exact lin (.c _ (.c _ (.c _ (.c _ (.c _ .z))))) (.c (.a (.v 0) (.a (.k 1) (.v 1))) (.a (.v 2) (.v 3)) (.c (.v 4) (.a (.v 0) (.k 1)) .z)) (.a (.v 4) (.v 1)) (.a (.v 2) (.v 3)) rfl b1 he',⟨by exact ax (.c _ .z) (.c _ (.c _ .z)) (.c (.v 0) (.v 1) .z) (.v 0) (.a (.v 1) (.u (.v 0))) rfl b2.1,by exact ax (.c _ (.c _ (.c _ .z))) (.c _ (.c _ .z)) (.u (.v 0) (.k 30) (.c (.a (.v 1) (.m 100 (.u (.a (.k 1) (.v 1))))) (.a (.v 0) (.m 100 (.u (.v 2)))) .z)) (.a (.a (.v 1) (.u (.v 0))) (.m 100 (.u (.v 1)))) (.a (.v 0) (.m 100 (.u (.v 2)))) rfl hb b2.2⟩,⟨by exact ax .z (.c _ (.c _ .z)) (.c (.v 0) (.v 1) .z) (.v 0) (.a (.v 1) (.k 1)) rfl b3.1,by exact ax (.c _ (.c _ .z)) (.c _ (.c _ .z)) (.c (.a (.v 1) (.u (.a (.k 1) (.v 0)))) (.a (.v 0) (.u (.v 1))) .z) (.a (.a (.v 1) (.k 1)) (.u (.v 0))) (.a (.v 0) (.u (.v 1))) rfl b3.2⟩⟩
  have S2:=S1.slot (x:=ba)
  have d1:∀ p∈v.Rf++((da,od)::(la,listOf vs.toArray n)::(md,omd')::(mm,om')::R0),p.1<dx:=mX k3
  have d2:∀ p∈v.Rf++((da,od)::(la,listOf vs.toArray n)::(md,omd')::(mm,om')::R0),p.1<x:=mX k2
  have d3:∀ p∈v.Rf++((da,od)::(la,listOf vs.toArray n)::(md,omd')::(mm,om')::R0),p.1<ba:=mX fun p hp=>k1 p (.tail _ (.tail _ hp))
  have hj:(v.ρ++[ba])[σ.nx]?=some ba:=by rw [← S.nx]; exact List.getElem?_concat_length
  have S3:=S2.push (q:=.D (rZ σ.nx) 4) (o:=bc w.params (Str.ofString "octets") (.int (last+1) tn) (.ref ba) vg tv t1 t2 t3' t4) F' (ag N' wj) d1 ⟨_,.cons trivial (.cons ⟨ba,hj,rfl⟩ (.cons trivial (.cons trivial rfl))),rfl⟩
  have S4:=S3.pushN (q:=.I 107 (σ.nx+1)) (o:=instObj 107 dx) F' (ag N' wP) (fC ⟨hne,fun p hp=>Nat.ne_of_lt (d2 p hp)⟩) ⟨dx,S2.top,rfl⟩
  have p2:v.ρ++[ba] <+: ((v.ρ++[ba])++[dx])++[x]:=⟨[dx,x],by simp⟩
  have S5:=S4.objN (j:=σ.nx) (D:=ba) (q:=.B b) (o:=a8 b) (fun _ _ h=>(congrArg xD h).mpr trivial) F' (az p2 hj) (ag N' xG) (fC ⟨Nat.ne_of_lt (k1 (x,omd) (.head _)),fC ⟨Nat.ne_of_lt (k1 (dx,omd) (.tail _ (.head _))),fun p hp=>Nat.ne_of_lt (d3 p hp)⟩⟩) rfl
  exact hq _ _ tk' ⟨[ba,dx,x],by simp⟩ ⟨x,S3.top,rfl⟩ S5
theorem JudgCW.up {c:Ct} {n:Nat} {σ σ1:Sy} {g:Addr} {vs:List SV} {u:SV} (h:JudgCW c 0 σ g vs u σ1):JudgCW c n σ g vs u σ1:=fun f v tk xs Q ok=>h f v tk xs Q ok.zero
noncomputable def strS (hl:90≤lm) (hs:aE w.params da la md mm ma li ld sv R0 e0 u0 l0 B) (i1:Nat) (hi:ρ0[i1]?=some ma) (n:Nat) (R:ie (dZ w p loose mean mg mb R0 ρ0 lm da la md mm li sv jr fr e0 u0 l0 B) n) (σ:Sy) (ss:List Stmt) (r:FnR):Option (ot (dZ w p loose mean mg mb R0 ρ0 lm da la md mm li sv jr fr e0 u0 l0 B) n r ss σ):=match ss with
  | .Assign [.Name x px] (.Call (.Name fn pf) [.Call (.Attribute (.Name y py) a pa) [e1] [] pc1,e2] [] pc2) ps::rest=>
    (ay (dX (aa r 0) x)).bind fun hx=>(R.E r (.Name fn pf) σ).bind fun q1=>(wZ q1.v).bind fun fa=>(ay (Nat.beq fa.1 244)).bind fun hf=>(R.E r (.Name y py) q1.σ').bind fun q2=>(cI q2.v).bind fun j=>(ay (Nat.beq j.1 i1)).bind fun hj=>(ay (a==Str.ofString "text_of_octets")).bind fun ha=>(rT e1).bind fun p1=>(rT e2).bind fun p2=>(ay (pa.endLine==pc1.line)).bind fun hl2=>
    (R.A r [e1] q2.σ').bind fun q3=>match q3 with
      | ⟨[.b b],σ3,_,ok3⟩=>(tC σ3.wd).bind fun ev=>(ay (Nat.ble b.size 30)).bind fun hb=>
        (R.A r [e2] ⟨σ3.loc,(σ3.nx,.B b)::(σ3.nx+2,.I 107 (σ3.nx+1))::(σ3.nx+1,.D (rZ σ3.nx) 4)::σ3.fr,σ3.ol,σ3.nx+3,ev.1.2⟩).bind fun q4=>(R.C 244 (.s (σ3.nx+2)::q4.vs) q4.σ').bind fun q5=>(R.S r rest { q5.σ' with loc:=put x q5.v q5.σ'.loc }).map fun q6=>
          ⟨q6.res,q6.σ',ya (um:=.s (σ3.nx+2)) hx.down (by kernel_rfl) (by kernel_rfl) (vk2 fa.2 hf.down q1.ok) q2.ok (ez (g:=519) j.2 (Nat.eq_of_beq_eq_true hj.down▸hi) hs (by rw [beq_iff_eq.mp ha.down]; kernel_rfl) (by rw [beq_iff_eq.mp ha.down]; kernel_rfl) (by kernel_rfl) (fun e=>by rw [beq_iff_eq.mp ha.down]; cases e; rfl)) p1.down p2.down hl2.down ok3 (JudgCW.up (text_jw j.2 (Nat.eq_of_beq_eq_true hj.down▸hi) hb.down (Nat.le_trans (by decide) hl) hs ev.2)) q4.ok q5.ok q6.ok⟩
      | _=>none
  | _=>none
end
end
end
section
set_option backward.match.sparseCases false
noncomputable section
section
variable {P:Params} {ρ:List Addr} {lk:Nat→Option SO} {Rf:List (Addr×Obj)}
inductive lY (P:Params) (ρ:List Addr) (Rf:List (Addr×Obj)) (C:Addr) (wd kd:Str) (x:Bool) (ac i k:Int) (inner:SV) (y:Value):Prop
  | mk (a d sp sd bo bd:Addr) (bv nn g l:Value) (ti tk t t0 t1 t2 t3 t4 u1 u2 u3 u4 w1 w2 w3:Tok):y=.ref a→(a,instObj 86 d)∈Rf→(d,aZ P kd (.ref sp) x ac t t0 t1 t2 t3 t4)∈Rf→(sp,instObj 182 sd)∈Rf→(sd,cK P (.ref bo) i k ti tk w1 w2 w3)∈Rf→(bo,instObj C bd)∈Rf→(bd,bc P wd nn bv g l u1 u2 u3 u4)∈Rf→VR ρ inner bv→lY P ρ Rf C wd kd x ac i k inner y
structure nN (lk:Nat→Option SO) (C:Addr) (v:SV) where
  kd:Str
  x:Bool
  ac:Int
  i:Int
  k:Int
  inner:SV
  ok:∀ {P:Params} {ρ:List Addr} {Rf:List (Addr×Obj)} {y:Value} (wd:Str),wd=(if C=107 then Str.ofString "octets" else Str.ofString "things")→LK ρ P lk Rf→VR ρ v y→lY P ρ Rf C wd kd x ac i k inner y
theorem LK.thing {v vk vx va sv:SV} {d:Nat} {y:Value} {kd:Str} {x:Bool} {ac:Int} {es:List (Str×SV)} {G:Prop} (lr:LK ρ P lk Rf) (h:∃ i,v=.s i∧lk i=some (.I 86 d)) (hd:lk d=some (.D es 4))
    (q:es=[(Str.ofString "kind",vk),(Str.ofString "value",sv),(Str.ofString "is_exec",vx),(Str.ofString "access",va)]) (hk:vk=.t kd) (hx:vx=.o x) (ha:∀ ρ x,VR ρ va x→∃ t,x=.int ac t) (hv:VR ρ v y)
    (f:∀ a d yv t t0 t1 t2 t3 t4,y=.ref a→(a,instObj 86 d)∈Rf→(d,aZ P kd yv x ac t t0 t1 t2 t3 t4)∈Rf→VR ρ sv yv→G):G:=by
  subst q hk hx
  refine lr.obj h hd hv fun a da es' e m1 m2 h=>j2 h fun t1 t2 t3 t4 y1 y2 y3 y4 e' r1 r2 r3 r4=>?_
  obtain ⟨t,rfl⟩:=r1
  obtain rfl:y3=.bool x:=r3
  obtain ⟨t0,rfl⟩:=ha _ _ r4
  rw [e'] at m2
  exact f a da y2 t t0 t1 t2 t3 t4 e m1 m2 r2
theorem LK.span {v vi vk sv:SV} {d:Nat} {y:Value} {i k:Int} {es:List (Str×SV)} {G:Prop} (lr:LK ρ P lk Rf) (h:∃ i,v=.s i∧lk i=some (.I 182 d)) (hd:lk d=some (.D es 3))
    (q:es=[(Str.ofString "body",sv),(Str.ofString "start",vi),(Str.ofString "many",vk)]) (hi:∀ ρ x,VR ρ vi x→∃ t,x=.int i t) (hk:∀ ρ x,VR ρ vk x→∃ t,x=.int k t) (hv:VR ρ v y)
    (f:∀ a d yv ti tk w1 w2 w3,y=.ref a→(a,instObj 182 d)∈Rf→(d,cK P yv i k ti tk w1 w2 w3)∈Rf→VR ρ sv yv→G):G:=by
  subst q
  refine lr.obj h hd hv fun a da es' e m1 m2 h=>nT h fun t1 t2 t3 y1 y2 y3 e' r1 r2 r3=>?_
  obtain ⟨ti,rfl⟩:=hi _ _ r2
  obtain ⟨tk,rfl⟩:=hk _ _ r3
  rw [e'] at m2
  exact f a da y1 ti tk t1 t2 t3 e m1 m2 r1
theorem LK.body {v vn vg vl sv:SV} {d C:Nat} {y:Value} {wd:Str} {es:List (Str×SV)} {G:Prop} (lr:LK ρ P lk Rf) (h:∃ i,v=.s i∧lk i=some (.I C d)) (hd:lk d=some (.D es 4))
    (q:es=[(Str.ofString "number",vn),(wd,sv),(Str.ofString "is_global",vg),(Str.ofString "level",vl)]) (hv:VR ρ v y)
    (f:∀ a d yv nn g l u1 u2 u3 u4,y=.ref a→(a,instObj C d)∈Rf→(d,bc P wd nn yv g l u1 u2 u3 u4)∈Rf→VR ρ sv yv→G):G:=by
  subst q
  refine lr.obj h hd hv fun a da es' e m1 m2 h=>j2 h fun t1 t2 t3 t4 y1 y2 y3 y4 e' r1 r2 r3 r4=>?_
  rw [e'] at m2
  exact f a da y2 y1 y3 y4 t1 t2 t3 t4 e m1 m2 r2
noncomputable def qL (es:List (Str×SV)) (a b c d:Str):Option { q:SV×SV×SV×SV // es=[(a,q.1),(b,q.2.1),(c,q.2.2.1),(d,q.2.2.2)] }:=match es with
  | [(k1,v1),(k2,v2),(k3,v3),(k4,v4)]=>(ay (k1==a)).bind fun h1=>(ay (k2==b)).bind fun h2=>(ay (k3==c)).bind fun h3=>(ay (k4==d)).map fun h4=>⟨(v1,v2,v3,v4),by rw [beq_iff_eq.mp h1.down,beq_iff_eq.mp h2.down,beq_iff_eq.mp h3.down,beq_iff_eq.mp h4.down]⟩
  | _=>none
noncomputable def vY (es:List (Str×SV)) (a b c:Str):Option { q:SV×SV×SV // es=[(a,q.1),(b,q.2.1),(c,q.2.2)] }:=match es with
  | [(k1,v1),(k2,v2),(k3,v3)]=>(ay (k1==a)).bind fun h1=>(ay (k2==b)).bind fun h2=>(ay (k3==c)).map fun h3=>⟨(v1,v2,v3),by rw [beq_iff_eq.mp h1.down,beq_iff_eq.mp h2.down,beq_iff_eq.mp h3.down]⟩
  | _=>none
noncomputable def qU (lk:Nat→Option SO) (C:Addr) (v:SV):Option (nN lk C v):=(gI lk 86 v).bind fun d=>(gD lk 4 d.1).bind fun es=>(qL es.1 (Str.ofString "kind") (Str.ofString "value") (Str.ofString "is_exec") (Str.ofString "access")).bind fun q=>(pC q.1.1).bind fun kd=>(xZ q.1.2.2.1).bind fun x=>(dr q.1.2.2.2).bind fun ac=>
  (gI lk 182 q.1.2.1).bind fun sd=>(gD lk 3 sd.1).bind fun es2=>(vY es2.1 (Str.ofString "body") (Str.ofString "start") (Str.ofString "many")).bind fun q2=>(dr q2.1.2.1).bind fun i=>(dr q2.1.2.2).bind fun k=>(gI lk C q2.1.1).bind fun bd=>(gD lk 4 bd.1).bind fun es3=>
  (qL es3.1 (Str.ofString "number") (if C=107 then Str.ofString "octets" else Str.ofString "things") (Str.ofString "is_global") (Str.ofString "level")).map fun q3=>⟨kd.1,x.1,ac.1,i.1,k.1,q3.1.2.1,fun {P ρ Rf y} wd hwd lr hv=>by
    subst hwd
    exact lr.thing d.2 es.2 q.2 kd.2 x.2 ac.2 hv fun a da yv t t0 t1 t2 t3 t4 e m1 m2 r=>lr.span sd.2 es2.2 q2.2 i.2 k.2 r fun sp sda ys ti tk w1 w2 w3 e2 m3 m4 r=>lr.body bd.2 es3.2 q3.2 r fun bo bda bv nn g l u1 u2 u3 u4 e3 m5 m6 r4=>
      .mk a da sp sda bo bda bv nn g l ti tk t t0 t1 t2 t3 t4 u1 u2 u3 u4 w1 w2 w3 e m1 (e2▸m2) m3 (e3▸m4) m5 m6 r4⟩
end
end
end
section
set_option backward.match.sparseCases false
noncomputable section
section
variable {P:Params} {ρ:List Addr} {lk:Nat→Option SO} {Rf:List (Addr×Obj)}
theorem jc {k:SV} {b:SV} {xs:List Value} (h:aC ρ [k,b] xs):∃ t y,xs=[t,y]∧VR ρ k t∧VR ρ b y:=by
  obtain ⟨a1,r1,rfl,c1,a2,r2,rfl,hb,h5⟩:=h
  obtain rfl:r2=[]:=h5
  exact ⟨a1,a2,rfl,c1,hb⟩
noncomputable abbrev lX (lk:Nat→Option SO) (u:SV) (t:Tr):Prop:=∀ {P:Params} {ρ:List Addr} {Rf:List (Addr×Obj)} {x:Value},VR ρ u x→LK ρ P lk Rf→∃ tp nt made tree,x=.ref tp∧(tp,aS #[made,tree] nt)∈Rf∧al P Rf made t∧aA Rf tree t
theorem j3 {u a e v:SV} {k:Str} {b:Array UInt8} {r:Bool} (hu:∃ i,u=.s i∧lk i=some (.T [a,e])) (s:nN lk 107 a) (hk:(s.kd==Str.ofString "string")=true) (hb:∃ i,s.inner=.s i∧lk i=some (.B b)) (hz:Nat.ble b.size 30=true)
    (he:∃ i,e=.s i∧lk i=some (.T [.t (Str.ofString "string"),v])) (hr:decide (2≤s.ac)=r)
    (hv:(r=false∧v=.n)∨(r=true∧∃ o',(∀ ρ x,VR ρ v x→∃ t,x=.bytes o' t)∧o'=KBy.picked b (some s.i) (some (s.i+s.k)))):lX lk u (.str (KBy.picked b (some s.i) (some (s.i+s.k))) r):=fun hx lr=>by
  obtain ⟨tp,xs,nt,rfl,hxs,m0⟩:=lr.tup hu hx
  obtain ⟨y1,y2,rfl,r1,r2⟩:=jc hxs
  obtain ⟨a,d,sp,sd,bo,bd,bv,nn,g,l,ti,tk,t,t0,t1,t2,t3,t4,u1,u2,u3,u4,w1,w2,w3,rfl,m1,m2,m3,m4,m5,m6,hi⟩:=s.ok (Str.ofString "octets") rfl lr r1
  obtain ⟨ba,rfl,m7⟩:=lr.ba hb hi
  obtain ⟨te,zs,ne,rfl,hzs,m8⟩:=lr.tup he r2
  obtain ⟨z1,z2,rfl,⟨tt,rfl⟩,q2⟩:=jc hzs
  rw [beq_iff_eq.mp hk] at m2
  have hz:=Nat.le_of_ble_eq_true hz
  refine ⟨tp,nt,_,_,rfl,m0,by rw [← hr]; exact .str m1 m2 m3 m4 m5 m6 m7 (Nat.le_trans hz (by decide)),?_⟩
  rcases hv with ⟨rfl,rfl⟩ | ⟨rfl,o',ho,rfl⟩
  · obtain rfl:z2=.none:=q2
    exact .strN m8
  · obtain ⟨tb,rfl⟩:=ho _ _ q2
    exact .strS m8
noncomputable def isNone (v:SV):Option (PLift (v=.n)):=match v with
  | .n=>some ⟨rfl⟩
  | _=>none
noncomputable def sU (lk:Nat→Option SO) (u:SV):Option { t:Tr // aW 0 t∧lX lk u t }:=(gT lk u).bind fun us=>match us with
  | ⟨[a,e],hu⟩=>(qU lk 107 a).bind fun s=>(ay (s.kd==Str.ofString "string")).bind fun hk=>(gB lk s.inner).bind fun b=>(ay (Nat.ble b.1.size 30)).bind fun hz=>(gT lk e).bind fun ws=>match ws with
    | ⟨[.t k,v],he⟩=>(ay (k==Str.ofString "string")).bind fun hk2=>(ay (Nat.ble (KBy.picked b.1 (some s.i) (some (s.i+s.k))).size 100)).bind fun h100=>(isNone v).elim
        ((qT v).bind fun o'=>(ay (o'.1.toList==(KBy.picked b.1 (some s.i) (some (s.i+s.k))).toList)).bind fun ho=>(ay (decide (2≤s.ac))).map fun hr=>⟨_,.str (Nat.le_of_ble_eq_true h100.down),j3 (k:=k) hu s hk.down b.2 hz.down (by rw [← beq_iff_eq.mp hk2.down]; exact he) hr.down (.inr ⟨rfl,o'.1,o'.2,Array.toList_inj.mp (beq_iff_eq.mp ho.down)⟩)⟩)
        fun hn=>(ay (!decide (2≤s.ac))).map fun hr=>⟨_,.str (Nat.le_of_ble_eq_true h100.down),j3 (k:=k) hu s hk.down b.2 hz.down (by rw [← beq_iff_eq.mp hk2.down]; exact he) (r:=false) (by simpa using hr.down) (.inl ⟨rfl,hn.down⟩)⟩
    | _=>none
  | _=>none
end
section
variable {w:World} {p:Program} {loose:List Str} {mean:ExcName→Option Value} {mg mb:Str→Option Value} {R0:List (Addr×Obj)} {ρ0:List Addr} {lm:Nat} {da la md mm ma li ld sv jr fr:Addr} {e0 B:Nat} {u0 l0:Int}
noncomputable def qM (sc:List (Nat×SV)):Sy:=⟨(fn767_2.names.zip [SV.s 1,SV.s 0]++fn767_2.extra).reverse,[],[],2,sc⟩
noncomputable def tH (hl:90≤lm) (hs:aE w.params da la md mm ma li ld sv R0 e0 u0 l0 B) (i1:Nat) (hi:ρ0[i1]?=some ma) (n:Nat) (R:ie (dZ w p loose mean mg mb R0 ρ0 lm da la md mm li sv jr fr e0 u0 l0 B) n) (r:FnR) (σ:Sy):Option (ot (dZ w p loose mean mg mb R0 ρ0 lm da la md mm li sv jr fr e0 u0 l0 B) n r r.body σ):=(R.S r (List.take 1 r.body) σ).bind fun q=>match q with
  | ⟨none,σ1,ok⟩=>(strS hl hs i1 hi n R σ1 (List.drop 1 r.body) r).map fun t=>⟨t.res,t.σ',by
      have:=af.appW ok t.ok
      rwa [List.take_append_drop] at this⟩
  | _=>none
structure sW (c:Ct) (n:Nat) (r:FnR) (σ:Sy) where
  u:SV
  σ':Sy
  t:Tr
  ok:fH c n r r.body σ (some u) σ'
  hO:aW 0 t
  hT:lX (fun i=>σ'.fr.lookup i) u t
noncomputable def vC {c:Ct} {n:Nat} {r:FnR} {σ:Sy} (o:Option (ot c n r r.body σ)):Option (sW c n r σ):=o.bind fun q=>match q with
  | ⟨some u,σ',ok⟩=>(sU (fun i=>σ'.fr.lookup i) u).map fun t=>⟨u,σ',t.1,ok,t.2.1,t.2.2⟩
  | _=>none
theorem aW.mono0 {k:Nat} {t:Tr} (h:aW 0 t):aW k t:=by
  cases h with
  | int h=>exact .int h
  | real h=>exact .real h
  | bool=>exact .bool
  | name h=>exact .name h
  | op h=>exact .op h
  | word=>exact .word
  | str h=>exact .str h
theorem jO {s:Shared} {h₀:Heap} {L:Addr} {m:Str→Option Value} {od omd om:Obj} {t3:Tok} {mx:Int} {vs:List Value} {ls:List Int} {n:Nat} {es:List (Int×Value)} {used last:Int} {J:List (Addr×Obj)} {Q:Value→Shared→Prop} {k:Nat} {sc:List (Nat×SV)}
    (hs:aE w.params da la md mm ma li ld sv J es.length used last B)
    (hr:(vC (tH (p:=p) (loose:=loose) (mean:=mean) (mg:=mg) (mb:=mb) (jr:=jr) (fr:=fr) (Nat.le_refl 90) hs 1 (rfl:[da,ma][1]?=some ma) 28 (run (dG (Nat.le_refl _) 0 rfl hs) 28) fn767_2 (qM sc))).isSome=true)
    (hbs:bud sc≤B) (hf:cZ ls mx sc) (F:Fr h₀ L s.heap m) (X:(Mine.hd.heap_1 w.params).In h₀) (T:Top p loose mean mg mb h₀)
    (N:News h₀ L s.heap ((md,omd)::(mm,om)::(da,od)::(la,listOf vs.toArray n)::J)) (D:DeckIs w la od vs ls mx t3) (MD:aT w.params li sv jr mm fr used last omd) (hom:om.IsDictOf (intKind rw_on0273_01.row.prog w) es)
    (post:aF w h₀ L m da la md mm li sv jr fr J es used last B k s Q) :
    aw (model PG w) (AR 740 7400) (call (.ref 767) [.ref ma,.ref da]) Q (fun z_ z_=>False) s:=by
  obtain ⟨⟨u,σ',t,ok,hO,hT⟩,_⟩:=Option.isSome_iff_exists.mp hr
  obtain ⟨fa,hlen,fok⟩:=(cO w.params).fn 767 2 fn767_2 (by kernel_rfl)
  obtain ⟨⟨D0,hb⟩,hcd,hok,_⟩:=fok
  simp only [Bool.and_eq_true,beq_iff_eq,List.all_eq_true,bne_iff_ne] at hok
  obtain ⟨⟨⟨⟨o1,o2⟩,o3⟩,o4⟩,o5⟩:=hok
  obtain ⟨ex,hx,hbi⟩:=hb s [.ref ma,.ref da] rfl (X.keeps F.keep)
  obtain rfl:ex=[]:=hx
  have hN:News h₀ L s.heap ((da,od)::(la,listOf vs.toArray n)::(md,omd)::(mm,om)::J):=ag N dL
  have hal:AL [da,ma] (fn767_2.names.zip [SV.s 1,SV.s 0]++fn767_2.extra) (fn767_2.names.zip [.ref ma,.ref da]++(fn767_2.extra.map (·.1)).zip []):=AL.app (AL.ofMap (l:=fn767_2.extra) (ys:=[]) (show aC _ [] [] from rfl)) (AL.zip (.cons (.s rfl) (.cons (.s rfl) .nil)))
  have hB:(bud sc:Int)≤(B:Int):=Int.ofNat_le.mpr hbs
  refine bi (jC F X hN T D0.ho hcd (by show 740<1000; decide) hbi (fun y hy=>?_) (fun g' L' h₁ FG F' N' st bt X' T' _=>?_) o1 o2 o3 o4)
  · refine o5 _ ?_
    rcases List.mem_append.mp hy with q | q
    · exact List.mem_append_left _ (List.of_mem_zip q).1
    · exact List.mem_append_right _ (List.of_mem_zip q).1
  · refine ok ⟨(AR 740 7400).deeper (aa fn767_2 L'),fun z_ z_=>False,g',L',s⟩ ⟨[da,ma],[],(da,od)::(la,listOf vs.toArray n)::(md,omd)::(mm,om)::J,h₁,_⟩ _ _ ⟨rfl,Nat.le_of_ble_eq_true rfl,Nat.le_of_ble_eq_true rfl,X',T'⟩
      ⟨F',(fun z u e=>hal.rev.look e),N',rfl,(fun _ _ h=>nomatch h),(fun _ h=>.tail _ (.tail _ (.tail _ (.tail _ h)))),⟨od,vs,n,ls,mx,t3,omd,om,es,used,last,rfl,D,hf,MD,hom,Nat.add_le_add_left hbs _,⟨Int.le_refl _,Int.add_le_add_left (Int.mul_le_mul_of_nonneg_left hB (by decide)) _⟩,⟨Int.le_refl _,Int.add_le_add_left hB _⟩⟩,rfl,.nil,(fun _ h=>nomatch h),List.prefix_refl _⟩ fun fl v' tk1 p1 q1 S=>?_
    obtain ⟨x,rfl,hx⟩:=q1
    refine leaveK_ S.fr S.nw fun F3 N3=>?_
    obtain ⟨od',vs',n',ls',mx',t3',omd',om',es',used',last',e1,_⟩:=S.wp
    have N3':=N3
    rw [e1] at N3'
    exact fJ (Rc:=[]) (J:=J) S hx (fun q l _=>by rw [List.append_nil]; exact hT q fun i o h=>l.get h) (fun _ h=>h) (fun _ h=>nomatch h) (hO.mono0) F3 N3 (but4 hN N3' fun b o eb hn=>S.fr.keep _ _ (bt b o eb hn)) post
end
end
end
section
set_option backward.match.sparseCases false
noncomputable section
variable {w:World} {p:Program} {loose:List Str} {mean:ExcName→Option Value} {mg mb:Str→Option Value} {da la md mm ma li ld sv jr fr:Addr} {B:Nat}
theorem lf {s:Shared} {h₀:Heap} {L:Addr} {m:Str→Option Value} {od omd om:Obj} {t3:Tok} {mx:Int} {vs:List Value} {ls:List Int} {n:Nat} {es:List (Int×Value)} {used last:Int} {J:List (Addr×Obj)} {Q:Value→Shared→Prop} {k:Nat} (hB:1≤B)
    (hs:aE w.params da la md mm ma li ld sv J es.length used last B) (F:Fr h₀ L s.heap m) (X:(Mine.hd.heap_1 w.params).In h₀) (T:Top p loose mean mg mb h₀)
    (N:News h₀ L s.heap ((md,omd)::(mm,om)::(da,od)::(la,listOf vs.toArray n)::J)) (D:DeckIs w la od vs ls mx t3) (MD:aT w.params li sv jr mm fr used last omd) (hom:om.IsDictOf (intKind rw_on0273_01.row.prog w) es)
    (post:aF w h₀ L m da la md mm li sv jr fr J es used last B k s Q) :
    aw (model PG w) (AR 740 7400) (call (.ref 767) [.ref ma,.ref da]) Q (fun z_ z_=>False) s:=by
  have lit:∀ {ls:List Int} {mx:Int} {q:Nat} {j:Int} {l:List (Nat×SV)},0<q∧q≤2000000→aq ls mx q=j→cZ ls.tail (ao ls mx) l→cZ ls mx ((q,.i j)::l):=fun hq e h=>.inr ⟨⟨hq.1,hq.2,fun ρ t=>⟨t,by rw [e]⟩⟩,h⟩
  have zed:∀ {ls:List Int} {mx:Int} {q b:Nat} {h:(aq ls mx q).natAbs≤b} {l:List (Nat×SV)},0<q∧q≤2000000→cZ ls.tail (ao ls mx) l→cZ ls mx ((q,.z (aq ls mx q) b h)::l):=fun hq h=>.inr ⟨⟨hq.1,hq.2,fun ρ t=>⟨t,rfl⟩⟩,h⟩
  have b7:0≤aq ls mx 7∧aq ls mx 7<7:=eP D (by decide)
  have b2:0≤aq ls.tail (ao ls mx) 2∧aq ls.tail (ao ls mx) 2<2:=bX D (by decide)
  have b5:0≤aq ls.tail.tail (ao ls.tail (ao ls mx)) 5∧aq ls.tail.tail (ao ls.tail (ao ls mx)) 5<5:=fw D (by decide)
  have hz:(aq ls.tail (ao ls mx) 2).natAbs≤2:=by exact eH (ax .z (.c _ .z) (.c (.a (.v 0) (.k 1)) (.k 2) .z) (.v 0) (.u (.k 2)) rfl b2.2) (ax .z (.c _ .z) (.c (.k 0) (.v 0) .z) (.g (.v 0)) (.u (.k 2)) rfl b2.1)
  have go:∀ (j wy:Int),aq ls mx 7=j→aq ls.tail.tail (ao ls.tail (ao ls mx)) 5=wy→(vC (tH (p:=p) (loose:=loose) (mean:=mean) (mg:=mg) (mb:=mb) (jr:=jr) (fr:=fr) (Nat.le_refl 90) hs 1 (rfl:[da,ma][1]?=some ma) 28 (run (dG (Nat.le_refl _) 0 rfl hs) 28) fn767_2 (qM [(7,.i j),(2,.z (aq ls.tail (ao ls mx) 2) 2 hz),(5,.i wy),(0,.n)]))).isSome=true→
      aw (model PG w) (AR 740 7400) (call (.ref 767) [.ref ma,.ref da]) Q (fun z_ z_=>False) s:=fun j wy e1 e2 hr=>jO hs hr hB (lit (by decide) e1 (zed (by decide) (lit (by decide) e2 (.inl ⟨rfl,trivial⟩)))) F X T N D MD hom post
  rcases (ors_of 6 b7:aq ls mx 7=0∨aq ls mx 7=1∨aq ls mx 7=2∨aq ls mx 7=3∨aq ls mx 7=4∨aq ls mx 7=5∨aq ls mx 7=6) with e1 | e1 | e1 | e1 | e1 | e1 | e1 <;>
  rcases (ors_of 4 b5:aq ls.tail.tail (ao ls.tail (ao ls mx)) 5=0∨aq ls.tail.tail (ao ls.tail (ao ls mx)) 5=1∨aq ls.tail.tail (ao ls.tail (ao ls mx)) 5=2∨aq ls.tail.tail (ao ls.tail (ao ls mx)) 5=3∨aq ls.tail.tail (ao ls.tail (ao ls mx)) 5=4) with e2 | e2 | e2 | e2 | e2 <;>
  exact go _ _ e1 e2 (by kernel_rfl)
end
end
section
set_option backward.match.sparseCases false
noncomputable section
section
variable {P:Params} {ρ:List Addr} {lk:Nat→Option SO}
theorem aC.uniq {js:List Nat}:∀ {xs ys:List Value},aC ρ (js.map SV.s) xs→aC ρ (js.map SV.s) ys→xs=ys:=by
  induction js with
  | nil=>intro xs ys h g; exact (show xs=[] from h).trans (show ys=[] from g).symm
  | cons j js ih=>
    rintro xs ys ⟨x,r,rfl,⟨a,h1,rfl⟩,h2⟩ ⟨y,q,rfl,⟨b,g1,rfl⟩,g2⟩
    obtain rfl:=Option.some.inj (h1.symm.trans g1)
    rw [ih h2 g2]
noncomputable def xl (us:List SV) (js:List Nat):Option (PLift (us=js.map SV.s)):=List.rec (motive:=fun us=>∀ js:List Nat,Option (PLift (us=js.map SV.s))) (fun js=>match js with | []=>some ⟨rfl⟩ | _=>none)
  (fun u us ih js=>match js with | []=>none | j::js=>(cI u).bind fun i=>(ay (Nat.beq i.1 j)).bind fun h=>(ih js).map fun g=>⟨by rw [i.2,Nat.eq_of_beq_eq_true h.down,g.down]; rfl⟩) us js
noncomputable def jM (n:Nat):List Nat:=(List.range n).map fun i=>5+3*i
noncomputable def jT (n:Nat):List Nat:=(List.range n).map fun i=>6+3*i
noncomputable def iN (a b:Bool):Option (PLift (a=b)):=match a,b with
  | true,true=>some ⟨rfl⟩
  | false,false=>some ⟨rfl⟩
  | _,_=>none
noncomputable abbrev qY (lk:Nat→Option SO) (n:Nat) (u:SV) (d r x p:Bool):Prop:=∀ {P:Params} {ρ:List Addr} {R:List (Addr×Obj)} {y:Value} {zs ws:List Value} {ts:List Tr},am P R zs ts→aK R ws ts→aC ρ ((jM n).map SV.s) zs→aC ρ ((jT n).map SV.s) ws→VR ρ u y→LK ρ P lk R→
    ∃ tp nt made tree,y=.ref tp∧(tp,aS #[made,tree] nt)∈R∧al P R made (.row (if d then ts.drop 1 else ts) r x p)∧aA R tree (.row (if d then ts.drop 1 else ts) r x p)
structure nh (lk:Nat→Option SO) (n:Nat) (u:SV) where
  d:Bool
  r:Bool
  x:Bool
  p:Bool
  ok:qY lk n u d r x p
theorem mE (zs:List Value) {n:Int} (hn:(zs.length:Int)=n) (h:zs.length≤3) (h1:1<zs.length):(slicePick zs.toArray (some 1) (some n) none).toList=zs.drop 1:=by
  have:=me zs n hn.symm h h1
  rw [show (0:Int)+1=1 from rfl,show (1:Int)+(n - 1)=n by exact Int.le_antisymm (ax .z (.c _ .z) .z (.a (.k 1) (.s (.v 0) (.k 1))) (.v 0) rfl ) (ax .z (.c _ .z) .z (.v 0) (.a (.k 1) (.s (.v 0) (.k 1))) rfl )] at this
  exact this
theorem oS {k b c d:SV} {xs:List Value} (h:aC ρ [k,b,c,d] xs):∃ t y z z',xs=[t,y,z,z']∧VR ρ k t∧VR ρ b y∧VR ρ c z∧VR ρ d z':=by
  obtain ⟨a1,r1,rfl,c1,a2,r2,rfl,c2,a3,r3,rfl,c3,a4,r4,rfl,c4,h5⟩:=h
  obtain rfl:r4=[]:=h5
  exact ⟨a1,a2,a3,a4,rfl,c1,c2,c3,c4⟩
theorem fT {n:Nat} {u a e v:SV} {us:List SV} {d r x p:Bool} (hn:n≤3) (hu:∃ i,u=.s i∧lk i=some (.T [a,e])) (s:nN lk 128 a) (hk:(s.kd==if p then Str.ofString "packed" else Str.ofString "array")=true) (hb:∃ i,s.inner=.s i∧lk i=some (.L us)) (hus:us=(jM n).map SV.s)
    (hx:s.x=x) (he:∃ i,e=.s i∧lk i=some (.T [.t (Str.ofString "row"),v,.o x,.o p])) (hr:decide (2≤s.ac)=r)
    (hik:(d=false∧s.i=0∧s.k=(n:Int))∨(d=true∧1<n∧s.i=1∧s.k=(n:Int) - 1))
    (hv:(r=false∧v=.n)∨(r=true∧∃ ws,(∃ i,v=.s i∧lk i=some (.L ws))∧ws=(if d then (jT n).drop 1 else jT n).map SV.s)):qY lk n u d r x p:=fun {P ρ R y zs ws ts} hT hW hz hw hy lr=>by
  obtain ⟨tp,xs,nt,rfl,hxs,m0⟩:=lr.tup hu hy
  obtain ⟨y1,y2,rfl,r1,r2⟩:=jc hxs
  obtain ⟨a,dd,sp,sd,bo,bd,bv,nn,g,l,ti,tk,t,t0,t1,t2,t3,t4,u1,u2,u3,u4,w1,w2,w3,rfl,m1,m2,m3,m4,m5,m6,hi⟩:=s.ok (Str.ofString "things") rfl lr r1
  obtain ⟨la,ls,nl,rfl,hls,m7⟩:=lr.lst hb hi
  rw [hus] at hls
  obtain rfl:=aC.uniq hls hz
  obtain ⟨te,zz,ne,rfl,hzs,m8⟩:=lr.tup he r2
  obtain ⟨z1,z2,z3,z4,rfl,⟨tt,rfl⟩,q2,q3,q4⟩:=oS hzs
  obtain rfl:z3=.bool x:=q3
  obtain rfl:z4=.bool p:=q4
  rw [beq_iff_eq.mp hk,hx] at m2
  have hlen:ls.length=n:=by
    have:=hls.len
    rw [List.length_map] at this
    unfold jM at this
    rw [List.length_map,List.length_range] at this
    exact this.symm
  have hpick:am P R (slicePick ls.toArray (some s.i) (some (s.i+s.k)) none).toList (if d then ts.drop 1 else ts):=by
    rcases hik with ⟨rfl,e1,e2⟩ | ⟨rfl,h1,e1,e2⟩
    · rw [e1,e2,← hlen,qc ls (by exact lin (.c _ (.c _ .z)) (.c (.v 0) (.k 3) (.c (.v 1) (.v 0) .z)) (.v 1) (.k 3) rfl hn (cb hlen))]
      exact hT
    · rw [e1,e2,show (1:Int)+((n:Int) - 1)=(n:Int) by exact Int.le_antisymm (ax (.c _ .z) .z .z (.a (.k 1) (.s (.u (.v 0)) (.k 1))) (.u (.v 0)) rfl ) (ax (.c _ .z) .z .z (.u (.v 0)) (.a (.k 1) (.s (.u (.v 0)) (.k 1))) rfl ),mE ls (by exact Int.le_antisymm (ax (.c _ (.c _ .z)) .z (.u (.v 1) (.v 0) .z) (.u (.v 1)) (.u (.v 0)) rfl (cb hlen)) (ax (.c _ (.c _ .z)) .z (.u (.v 0) (.v 1) .z) (.u (.v 0)) (.u (.v 1)) rfl (cr hlen))) (by exact lin (.c _ (.c _ .z)) (.c (.v 0) (.k 3) (.c (.v 1) (.v 0) .z)) (.v 1) (.k 3) rfl hn (cb hlen)) (by exact lin (.c _ (.c _ .z)) (.c (.v 0) (.v 1) (.c (.a (.k 1) (.k 1)) (.v 0) .z)) (.a (.k 1) (.k 1)) (.v 1) rfl (cr hlen) h1)]
      exact hT.drop
  refine ⟨tp,nt,_,_,rfl,m0,by rw [← hr]; exact .row m1 m2 m3 m4 m5 m6 m7 (by exact lin (.c _ (.c _ .z)) (.c (.v 0) (.k 3) (.c (.v 1) (.v 0) .z)) (.v 1) (.k 100) rfl hn (cb hlen)) hpick,?_⟩
  rcases hv with ⟨rfl,rfl⟩ | ⟨rfl,wv,hwv,hwe⟩
  · obtain rfl:z2=.none:=q2
    exact .rowN m8
  · obtain ⟨lw,wl,nw,rfl,hwl,m9⟩:=lr.lst hwv q2
    rw [hwe] at hwl
    have hlw:ws.length=n:=by
      have:=hw.len
      rw [List.length_map] at this
      unfold jT at this
      rw [List.length_map,List.length_range] at this
      exact this.symm
    cases d with
    | false=>
      obtain rfl:=aC.uniq hwl hw
      exact .rowS m8 m9 (by exact lin (.c _ (.c _ .z)) (.c (.v 0) (.k 3) (.c (.v 1) (.v 0) .z)) (.v 1) (.k 100) rfl hn (cb hlw)) hW
    | true=>
      have hd:aC ρ (((jT n).drop 1).map SV.s) (ws.drop 1):=by rw [List.map_drop]; exact hw.drop1
      obtain rfl:=aC.uniq hwl hd
      exact .rowS m8 m9 (by rw [List.length_drop]; exact lin (.c _ (.c _ (.c _ .z))) (.c (.v 0) (.k 3) (.c (.v 1) (.v 0) (.c (.v 2) (.v 1) .z))) (.v 2) (.k 100) rfl hn (cb hlw) (Nat.sub_le _ _)) hW.drop
noncomputable def rB (lk:Nat→Option SO) (n:Nat) (u:SV):Option (nh lk n u):=(ay (Nat.ble n 3)).bind fun hn=>(gT lk u).bind fun us=>match us with
  | ⟨[a,e],hu⟩=>(qU lk 128 a).bind fun s=>(gL lk s.inner).bind fun b=>(xl b.1 (jM n)).bind fun hb=>(gT lk e).bind fun ws=>match ws with
    | ⟨[.t k,v,.o x,.o p],he⟩=>(ay (k==Str.ofString "row")).bind fun hk2=>(ay (s.kd==if p then Str.ofString "packed" else Str.ofString "array")).bind fun hk=>(iN s.x x).bind fun hx=>
        have he':∃ i,e=.s i∧lk i=some (.T [.t (Str.ofString "row"),v,.o x,.o p]):=by rw [← beq_iff_eq.mp hk2.down]; exact he
        (isNone v).elim
          ((gL lk v).bind fun tl=>(ay (decide (2≤s.ac))).bind fun hr=>(ay (decide (s.i=0∧s.k=(n:Int)))).elim
            ((ay (decide (1<n∧s.i=1∧s.k=(n:Int) - 1))).bind fun hik=>(xl tl.1 ((jT n).drop 1)).map fun ht=>⟨true,true,x,p,fT (Nat.le_of_ble_eq_true hn.down) hu s hk.down b.2 hb.down hx.down he' hr.down (.inr ⟨rfl,of_decide_eq_true hik.down⟩) (.inr ⟨rfl,tl.1,tl.2,ht.down⟩)⟩)
            fun hik=>(xl tl.1 (jT n)).map fun ht=>⟨false,true,x,p,fT (Nat.le_of_ble_eq_true hn.down) hu s hk.down b.2 hb.down hx.down he' hr.down (.inl ⟨rfl,of_decide_eq_true hik.down⟩) (.inr ⟨rfl,tl.1,tl.2,ht.down⟩)⟩)
          fun hv=>(ay (!decide (2≤s.ac))).bind fun hr=>(ay (decide (s.i=0∧s.k=(n:Int)))).map fun hik=>⟨false,false,x,p,fT (Nat.le_of_ble_eq_true hn.down) hu s hk.down b.2 hb.down hx.down he' (by simpa using hr.down) (.inl ⟨rfl,of_decide_eq_true hik.down⟩) (.inl ⟨rfl,hv.down⟩)⟩
    | _=>none
  | _=>none
end
end
end
section
set_option backward.match.sparseCases false
noncomputable section
noncomputable def bu (L:Addr):FnR:=⟨772,[.ofString "memory",.ofString "deck",.ofString "deep"],[],Y.dB (Y.d 71),Y.dS (Y.d 71),.ofString "_law_row",cellsFrom (L+1) (Y.dS (Y.d 71)).names []⟩
section
variable {w:World} {p:Program} {loose:List Str} {mean:ExcName→Option Value} {mg mb:Str→Option Value} {Rc Rest:List (Addr×Obj)} {ρ0:List Addr} {L:Addr}
@[reducible] noncomputable def ctR (w:World) (p:Program) (loose:List Str) (mean:ExcName→Option Value) (mg mb:Str→Option Value) (Rc Rest:List (Addr×Obj)) (ρ0:List Addr):Ct:=⟨w,p,loose,mean,mg,mb,Rc,ρ0,10,fun _ R1=>R1=Rc++Rest,sa,cO _⟩
noncomputable def jP (n:Nat):List Nat:=(List.range n).map fun i=>4+3*i
noncomputable def x8 (n:Nat):List (Nat×SO):=(0,.I 128 1)::(1,.D (oQ 2) 4)::(2,.L ((jM n).map SV.s))::(3,.L ((jP n).map SV.s))::(List.range n).map fun i=>(4+3*i,.T [.a,.s (6+3*i)])
noncomputable def qQ (n:Nat) (x b:Bool) (wy:Int):Sy:=⟨[(Str.ofString "row",.s 0),(Str.ofString "way",.i wy),(Str.ofString "is_packed",.o b),(Str.ofString "is_exec",.o x),(Str.ofString "pairs",.s 3)],[],x8 n,4+3*n,[]⟩
structure nE (c:Ct) (m:Nat) (r:FnR) (ss:List Stmt) (n:Nat) (x b:Bool) (σ:Sy) where
  u:SV
  σ':Sy
  ok:af c m σ (fun L=>execs ss (aa r L)) (ak (some u)) σ'
  out:nh σ'.look n u
  hx:out.x=x
  hp:out.p=b
noncomputable def xg {c:Ct} {m:Nat} {r:FnR} {ss:List Stmt} {σ:Sy} (n:Nat) (x b:Bool) (o:Option (CS c m r ss σ)):Option (nE c m r ss n x b σ):=o.bind fun q=>match q with
  | ⟨some u,σ',ok⟩=>(rB σ'.look n u).bind fun t=>(iN t.x x).bind fun hx=>(iN t.p b).map fun hp=>⟨u,σ',ok,t,hx.down,hp.down⟩
  | _=>none
noncomputable def xE (c:Ct) (L:Addr) (n:Nat) (x b:Bool) (wy:Int):Option (nE c 40 (bu L) (List.drop 3 (bu L).body) n x b (qQ n x b wy)):=xg n x b ((run (bC (c:=c)) 40).S (bu L) (List.drop 3 (bu L).body) (qQ n x b wy))
theorem mC:([0,1,2,3].all fun n=>[true,false].all fun x=>[true,false].all fun b=>([0,1,2,3,4]:List Int).all fun wy=>(xE (ctR w p loose mean mg mb Rc Rest ρ0) L n x b wy).isSome)=true:=by kernel_rfl
end
end
end
section
set_option backward.match.sparseCases false
noncomputable section
section
variable {w:World} {p:Program} {loose:List Str} {mean:ExcName→Option Value} {mg mb:Str→Option Value} {Rc Rest:List (Addr×Obj)}
theorem St.lk {c:Ct} {f:Fx} {v:Vr} {σ:Sy} (S:St c f v σ):LK v.ρ c.w.params σ.look (v.Rf++c.R0):=fun i q e=>by
  unfold Sy.look at e
  cases hq:σ.fr.lookup i with
  | some q'=>
    rw [hq] at e
    cases e
    exact (S.lr.get hq).imp fun a=>Exists.imp fun o h=>⟨h.1,List.mem_append_left _ h.2.1,h.2.2⟩
  | none=>
    rw [hq] at e
    exact (S.ol _ _ e).imp fun a=>Exists.imp fun o h=>⟨h.1,List.mem_append_right _ h.2.1,h.2.2⟩
theorem lM {n:Nat} {x b:Bool} {wy:Int} {tw:Tok} {ρ:List Addr} {rx pd:Addr} {A:Around} {E:Value→Shared→Prop} {s:Shared} {h₀:Heap} {L:Addr} {m:Str→Option Value} {zs ws:List Value} {ts:List Tr} {Q:Flow→Shared→Prop} (hn:n≤3) (hwy:0≤wy∧wy<5)
    (ha:A.handled=none) (hd:A.depth≤790) (hu:A.units≤7900) (F:Fr h₀ L s.heap m) (X:(Mine.hd.heap_1 w.params).In h₀) (T:Top p loose mean mg mb h₀) (N:News h₀ L s.heap (Rc++Rest))
    (h1:m (Str.ofString "row")=some (.ref rx)) (h2:m (Str.ofString "way")=some (.int wy tw)) (h3:m (Str.ofString "is_packed")=some (.bool b)) (h4:m (Str.ofString "is_exec")=some (.bool x)) (h5:m (Str.ofString "pairs")=some (.ref pd))
    (g1:ρ[0]?=some rx) (g2:ρ[3]?=some pd) (hl:ρ.length=4+3*n) (hO:∀ q∈x8 n,∃ a o,ρ[q.1]?=some a∧(a,o)∈Rc∧OR ρ w.params q.2 o) (hT:am w.params Rc zs ts) (hW:aK Rc ws ts) (hz:aC ρ ((jM n).map SV.s) zs) (hw:aC ρ ((jT n).map SV.s) ws)
    (post:∀ tp nt made tree (d r:Bool) Rf h' tk' m',(tp,aS #[made,tree] nt)∈Rf++Rc→al w.params (Rf++Rc) made (.row (if d then ts.drop 1 else ts) r x b)→aA (Rf++Rc) tree (.row (if d then ts.drop 1 else ts) r x b)→Fr h₀ L h' m'→News h₀ L h' (Rf++(Rc++Rest))→(∀ p∈Rf,∀ q∈Rc++Rest,q.1≠p.1)→Q (.ret (.ref tp)) { s with heap:=h',toks:=tk' }) :
    wpAny (model PG w) A (execs (List.drop 3 (bu L).body) (aa (bu L) L)) Q E s:=by
  have all:=mC (w:=w) (p:=p) (loose:=loose) (mean:=mean) (mg:=mg) (mb:=mb) (Rc:=Rc) (Rest:=Rest) (ρ0:=ρ) (L:=L)
  have a1:=List.all_eq_true.mp all n (by
    rcases (orN_of 3 0 (Nat.zero_le _) hn:n=0∨n=1∨n=2∨n=3) with rfl | rfl | rfl | rfl <;> decide)
  have a2:=List.all_eq_true.mp (List.all_eq_true.mp a1 x (by cases x <;> decide)) b (by cases b <;> decide)
  have a3:=List.all_eq_true.mp a2 wy (by
    rcases (ors_of 4 hwy:wy=0∨wy=1∨wy=2∨wy=3∨wy=4) with rfl | rfl | rfl | rfl | rfl <;> decide)
  obtain ⟨⟨u,σ',ok,⟨d,r,x',b',out⟩,rfl,rfl⟩,_⟩:=Option.isSome_iff_exists.mp a3
  refine ok ⟨A,E,h₀,L,s⟩ ⟨ρ,[],Rc++Rest,s.heap,m⟩ s.toks Q ⟨ha,by show A.depth+2*40+10≤890; exact lin (.c _ .z) (.c (.v 0) (.k 790) .z) (.a (.a (.v 0) (.m 2 (.k 40))) (.k 10)) (.k 890) rfl hd,by show A.units+20*40+10*10≤8900; exact lin (.c _ .z) (.c (.v 0) (.k 7900) .z) (.a (.a (.v 0) (.m 20 (.k 40))) (.m 10 (.k 10))) (.k 8900) rfl hu,X,T⟩
    ⟨F,fun z y e=>?_,N,rfl,fun i q e=>hO _ (look_mem _ e),fun p hp=>List.mem_append_left _ hp,rfl,hl,.nil,(fun _ h=>nomatch h),List.prefix_refl _⟩ fun fl v' tk' pp qq S=>?_
  · rcases lookHead e with ⟨rfl,rfl⟩ | ⟨_,e⟩
    · exact ⟨_,h1,rx,g1,rfl⟩
    rcases lookHead e with ⟨rfl,rfl⟩ | ⟨_,e⟩
    · exact ⟨_,h2,tw,rfl⟩
    rcases lookHead e with ⟨rfl,rfl⟩ | ⟨_,e⟩
    · exact ⟨_,h3,rfl⟩
    rcases lookHead e with ⟨rfl,rfl⟩ | ⟨_,e⟩
    · exact ⟨_,h4,rfl⟩
    rcases lookHead e with ⟨rfl,rfl⟩ | ⟨_,e⟩
    · exact ⟨_,h5,pd,g2,rfl⟩
    · cases e
  · obtain ⟨y,rfl,hy⟩:=qq
    have e1:v'.R1=Rc++Rest:=S.wp
    obtain ⟨tp,nt,made,tree,rfl,q1,q2,q3⟩:=out (hT.mono fun p hp=>List.mem_append_right v'.Rf hp) (hW.mono fun p hp=>List.mem_append_right v'.Rf hp) (hz.up pp) (hw.up pp) hy S.lk
    exact post tp nt made tree d r v'.Rf v'.h tk' v'.m q1 q2 q3 S.fr (by rw [← e1]; exact S.nw) (by rw [← e1]; exact S.up)
end
end
end
section
set_option backward.match.sparseCases false
noncomputable section
section
variable {P:Params} {Rc R:List (Addr×Obj)}
theorem k0 {v:Value} {t:Tr} (h:aA R v t):∃ a,v=.ref a:=by cases h <;> exact ⟨_,rfl⟩
theorem kK {v:Value} {t:Tr} (h:al P R v t):∃ a,v=.ref a:=by cases h <;> exact ⟨_,rfl⟩
theorem pu {ρ:List Addr} {d l:Addr} {nn g ll:Value} {u1 u2 u3 u4:Tok} (h:ρ[2]?=some l):OR ρ P (.D (oQ 2) 4) (bc P (Str.ofString "things") nn (.ref l) g ll u1 u2 u3 u4):=⟨_,.cons trivial (.cons ⟨l,h,rfl⟩ (.cons trivial (.cons trivial rfl))),rfl⟩
theorem pI {ρ:List Addr} {a:Addr} {i n:Nat} {made:Value} (h:ρ[i]?=some a):OR ρ P (.T [.a,.s i]) (aS #[made,.ref a] n):=⟨[made,.ref a],n,.cons trivial (.cons ⟨a,h,rfl⟩ rfl),rfl⟩
noncomputable def qN (c n:Nat):List Nat:=(List.range n).map fun i=>c+3*i
theorem nJ (c n:Nat):qN c (n+1)=c::qN (c+3) n:=by
  unfold qN
  rw [List.range_succ_eq_map,List.map_cons,List.map_map]
  exact congrArg (c::·) (List.map_congr_left fun i _=>by show c+3*(i+1)=c+3+3*i; omega)
theorem fX {ρ:List Addr} {c n:Nat} {a:Addr} {xs:List Value} (h:ρ[c]?=some a) (r:aC ρ ((qN (c+3) n).map SV.s) xs):aC ρ ((qN c (n+1)).map SV.s) (.ref a::xs):=by
  rw [nJ]
  exact ⟨_,_,rfl,⟨a,h,rfl⟩,r⟩
theorem tri {ys:List Value} {ts:List Tr} (hs:∀ p∈Rc,p∈R) (hP:aV P Rc ys ts):∀ {zs:List Value} (_:am P Rc zs ts) (pre:List Addr) {c:Nat} (_:c=pre.length),∃ (τ:List Addr) (ws:List Value),τ.length=3*ts.length∧
    (∀ i,i<ts.length→∃ a nt made t,(pre++τ)[c+3*i]?=some a∧(a,aS #[made,.ref t] nt)∈R∧(pre++τ)[c+2+3*i]?=some t)∧aK R ws ts∧aC (pre++τ) ((qN c ts.length).map SV.s) ys∧aC (pre++τ) ((qN (c+1) ts.length).map SV.s) zs∧aC (pre++τ) ((qN (c+2) ts.length).map SV.s) ws:=by
  induction hP with
  | nil=>exact fun hZ pre _ _=>by cases hZ; exact ⟨[],[],rfl,fun _ h=>absurd h (Nat.not_lt_zero _),.nil,rfl,rfl,rfl⟩
  | @cons tp nt made tree t vs ts p1 q1 r1 hP ih=>
    intro zs hZ pre c hc
    cases hZ with | cons z1 hZ=>
    refine (k0 r1).elim fun t1 et=>(kK z1).elim fun a1 ea=>?_
    subst et ea
    have e:∀ τ,pre++tp::a1::t1::τ=(pre++[tp,a1,t1])++τ:=fun τ=>by simp
    have h1:∀ τ,(pre++tp::a1::t1::τ)[c]?=some tp:=fun τ=>by simp [hc]
    have h2:∀ τ,(pre++tp::a1::t1::τ)[c+1]?=some a1:=fun τ=>by simp [hc]
    have h3:∀ τ,(pre++tp::a1::t1::τ)[c+2]?=some t1:=fun τ=>by simp [hc]
    refine (ih hZ (pre++[tp,a1,t1]) (c:=c+3) (by simp [hc])).elim fun τ h=>h.elim fun ws h=>⟨tp::a1::t1::τ,.ref t1::ws,by simp [h.1]; omega,fun i hi=>?_,.cons (r1.mono hs) h.2.2.1,fX (h1 τ) (e τ▸h.2.2.2.1),fX (h2 τ) (e τ▸h.2.2.2.2.1),fX (h3 τ) (e τ▸h.2.2.2.2.2)⟩
    cases i with
    | zero=>exact ⟨tp,nt,_,t1,h1 τ,hs _ p1,h3 τ⟩
    | succ i=>
      have z:=h.2.1 i (Nat.lt_of_succ_lt_succ hi)
      rw [← e,show c+3+3*i=c+3*(i+1) by omega,show c+3+2+3*i=c+2+3*(i+1) by omega] at z
      exact z
theorem kR {ys zs:List Value} {ts:List Tr} {rx rdx lst pd:Addr} {nn g ll:Value} {u1 u2 u3 u4:Tok} {k1 k2:Nat} (hP:aV P Rc ys ts) (hZ:am P Rc zs ts) (hs:∀ p∈Rc,p∈R) (m1:(rx,instObj 128 rdx)∈R) (m2:(rdx,bc P (Str.ofString "things") nn (.ref lst) g ll u1 u2 u3 u4)∈R)
    (m3:(lst,listOf zs.toArray k1)∈R) (m4:(pd,listOf ys.toArray k2)∈R):∃ (ρ:List Addr) (ws:List Value),ρ[0]?=some rx∧ρ[3]?=some pd∧ρ.length=4+3*ts.length∧(∀ q∈x8 ts.length,∃ a o,ρ[q.1]?=some a∧(a,o)∈R∧OR ρ P q.2 o)∧aK R ws ts∧aC ρ ((jM ts.length).map SV.s) zs∧aC ρ ((jT ts.length).map SV.s) ws:=
  (tri hs hP hZ [rx,rdx,lst,pd] rfl).elim fun τ h=>h.elim fun ws h=>⟨rx::rdx::lst::pd::τ,ws,rfl,rfl,by simp [h.1]; omega,fC ⟨⟨_,_,rfl,m1,_,rfl,rfl⟩,fC ⟨⟨_,_,rfl,m2,pu (d:=rdx) rfl⟩,fC ⟨⟨_,_,rfl,m3,_,_,h.2.2.2.2.1,rfl⟩,fC ⟨⟨_,_,rfl,m4,_,_,h.2.2.2.1,rfl⟩,fun q hq=>
    (List.mem_map.mp hq).elim fun i e=>(h.2.1 i (List.mem_range.mp e.1)).elim fun a z=>z.elim fun nt z=>z.elim fun made z=>z.elim fun t z=>e.2▸⟨a,_,z.1,z.2.1,pI (show (rx::rdx::lst::pd::τ)[6+3*i]?=some t from z.2.2)⟩⟩⟩⟩⟩,h.2.2.1,h.2.2.2.2.1,h.2.2.2.2.2⟩
end
end
end
section
noncomputable section
section
variable {w:World} {p:Program} {loose:List Str} {mean:ExcName→Option Value} {mg mb:Str→Option Value} {da la md mm li sv jr fr:Addr}
theorem fY {a:Addr} {J l:List (Addr×Obj)} {o1 o2 o3 o4:Obj} (h:∀ p∈l,p.1≠a) (h1:(md,o1)∈l) (h2:(mm,o2)∈l) (h3:(da,o3)∈l) (h4:(la,o4)∈l) (hJ:∀ p∈J,p∈l):dh md mm da la J a:=
  ⟨h _ h1,h _ h2,h _ h3,h _ h4,fun q hq=>h q (hJ q hq)⟩
theorem kG {k B:Nat} {x b:Bool} {wy:Int} {tw:Tok} {A:Around} {E E':Value→Shared→Prop} {s:Shared} {h₀ g hh:Heap} {tt:Nat} {L L':Addr} {m m1:Str→Option Value} {J Jc Rc:List (Addr×Obj)} {ys zs:List Value} {ts:List Tr} {rx rdx rl D:Addr} {nn g1 g2:Value} {u1 u2 u3 u4:Tok} {n1 n2 n3:Nat}
    {omd2 om2 od2 omd0 om0 od0 ol0:Obj} {vs2:List Value} {ls2:List Int} {mx2:Int} {t32:Tok} {es es2:List (Int×Value)} {used last used2 last2:Int} {Q:Value→Shared→Prop}
    (hwy:0≤wy∧wy<5) (ha:A.handled=none) (hd:A.depth≤790) (hu:A.units≤7900) (F:Fr g L' hh m1) (X:(Mine.hd.heap_1 w.params).In g) (T:Top p loose mean mg mb g)
    (N1:News g L' hh ((rl,listOf zs.toArray n1)::(rx,instObj 128 rdx)::(rdx,bc w.params (Str.ofString "things") nn (.ref rl) g1 g2 u1 u2 u3 u4)::(D,listOf ys.toArray n2)::(md,omd2)::(mm,om2)::(da,od2)::(la,listOf vs2.toArray n3)::Jc))
    (h1:m1 (Str.ofString "row")=some (.ref rx)) (h2:m1 (Str.ofString "way")=some (.int wy tw)) (h3:m1 (Str.ofString "is_packed")=some (.bool b)) (h4:m1 (Str.ofString "is_exec")=some (.bool x)) (h5:m1 (Str.ofString "pairs")=some (.ref D))
    (hP:aV w.params Rc ys ts) (hZ:am w.params Rc zs ts) (hts:ts.length≤3) (hok:∀ t∈ts,aW k t) (hJ:∀ p∈J,p∈Jc) (hRc:∀ p∈Rc,p∈Jc∧dh md mm da la J p.1)
    (o1:dh md mm da la J rl) (o2:dh md mm da la J rx) (o3:dh md mm da la J rdx) (o4:dh md mm da la J D)
    (D2:DeckIs w la od2 vs2 ls2 mx2 t32) (MD2:aT w.params li sv jr mm fr used2 last2 omd2) (hom2:om2.IsDictOf (intKind rw_on0273_01.row.prog w) es2) (he:es2.length≤es.length+B) (hus:used≤used2∧used2≤used+100*(B:Int)) (hla:last≤last2∧last2≤last+(B:Int))
    (N0:News h₀ L s.heap ((md,omd0)::(mm,om0)::(da,od0)::(la,ol0)::J)) (bt:But (((md,omd0)::(mm,om0)::(da,od0)::(la,ol0)::J).map (·.1)) s.heap g)
    (post:aF w h₀ L m da la md mm li sv jr fr J es used last B (k+1) s Q) :
    wpAny (model PG w) A (execs (List.drop 3 (bu L').body) (aa (bu L') L')) (fun fl s'=>LeaveK h₀ L m g (fun r s'=>match r with | .ok (.ret v)=>Q v s' | .ok _=>False | .error e=>E e s') (match fl with | .ret v=>v | _=>.none) s') E' { s with heap:=hh,toks:=tt }:=by
  have hsub:∀ p∈Rc,p∈(rl,listOf zs.toArray n1)::(rx,instObj 128 rdx)::(rdx,bc w.params (Str.ofString "things") nn (.ref rl) g1 g2 u1 u2 u3 u4)::(D,listOf ys.toArray n2)::Rc:=fun p hp=>.tail _ (.tail _ (.tail _ (.tail _ hp)))
  obtain ⟨ρ,ws,r1,r2,r3,r4,r5,r6,r7⟩:=kR hP hZ hsub (.tail _ (.head _)) (.tail _ (.tail _ (.head _))) (.head _) (.tail _ (.tail _ (.tail _ (.head _))))
  have N2:News g L' hh (((rl,listOf zs.toArray n1)::(rx,instObj 128 rdx)::(rdx,bc w.params (Str.ofString "things") nn (.ref rl) g1 g2 u1 u2 u3 u4)::(D,listOf ys.toArray n2)::Rc)++((md,omd2)::(mm,om2)::(da,od2)::(la,listOf vs2.toArray n3)::Jc)):=ag N1 fun p hp=>by
    rcases List.mem_cons.mp hp with rfl | hp
    · exact .head _
    rcases List.mem_cons.mp hp with rfl | hp
    · exact .tail _ (.head _)
    rcases List.mem_cons.mp hp with rfl | hp
    · exact .tail _ (.tail _ (.head _))
    rcases List.mem_cons.mp hp with rfl | hp
    · exact .tail _ (.tail _ (.tail _ (.head _)))
    rcases List.mem_append.mp hp with hp | hp
    · exact .tail _ (.tail _ (.tail _ (.tail _ (.tail _ (.tail _ (.tail _ (.tail _ (hRc p hp).1)))))))
    · exact .tail _ (.tail _ (.tail _ (.tail _ hp)))
  refine lM (s:={ s with heap:=hh,toks:=tt }) hts hwy ha hd hu F X T N2 h1 h2 h3 h4 h5 r1 r2 r3 r4 (hZ.mono hsub) r5 r6 r7 fun tp nt made tree d r Rf h' tk' m' q1 q2 q3 F3 N3 U3=>leaveK_ F3 N3 fun F4 N4=>?_
  have inJ:∀ p∈(md,omd2)::(mm,om2)::(da,od2)::(la,listOf vs2.toArray n3)::J,p∈(md,omd2)::(mm,om2)::(da,od2)::(la,listOf vs2.toArray n3)::Jc:=by
    intro p hp
    rcases List.mem_cons.mp hp with rfl | hp
    · exact .head _
    rcases List.mem_cons.mp hp with rfl | hp
    · exact .tail _ (.head _)
    rcases List.mem_cons.mp hp with rfl | hp
    · exact .tail _ (.tail _ (.head _))
    rcases List.mem_cons.mp hp with rfl | hp
    · exact .tail _ (.tail _ (.tail _ (.head _)))
    · exact .tail _ (.tail _ (.tail _ (.tail _ (hJ p hp))))
  have ht:aW (k+1) (.row (if d=true then ts.drop 1 else ts) r x b):=by
    cases d with
    | false=>exact .row hts hok
    | true=>exact .row (Nat.le_trans (by simp) hts) fun t ht=>hok t (List.mem_of_mem_drop ht)
  refine post tp nt made tree _ (Rf++_) od2 vs2 ls2 n3 mx2 t32 omd2 om2 es2 used2 last2 h' tk' ht q2 q3 q1 F4 (ag N4 fun p hp=>?_) (ag N4 fun p hp=>List.mem_append_right _ (List.mem_append_right _ (inJ p hp))) D2 MD2 hom2 he hus hla (fun p hp=>?_) ?_
  · rcases List.mem_append.mp hp with hp | hp
    · exact List.mem_append_left _ hp
    · exact List.mem_append_right _ (List.mem_append_left _ hp)
  · rcases List.mem_append.mp hp with hp | hp
    · have U:=fun q hq=>U3 p hp q (List.mem_append_right _ (inJ q hq))
      exact ⟨U _ (.head _),U _ (.tail _ (.head _)),U _ (.tail _ (.tail _ (.head _))),U _ (.tail _ (.tail _ (.tail _ (.head _)))),fun q hq=>U q (.tail _ (.tail _ (.tail _ (.tail _ hq))))⟩
    · rcases List.mem_cons.mp hp with rfl | hp
      · exact o1
      rcases List.mem_cons.mp hp with rfl | hp
      · exact o2
      rcases List.mem_cons.mp hp with rfl | hp
      · exact o3
      rcases List.mem_cons.mp hp with rfl | hp
      · exact o4
      · exact (hRc p hp).2
  · refine but4 (R:=[]) (od':=od2) (ol':=listOf vs2.toArray n3) (omd':=omd2) (om':=om2) (ag N0 dL) (ag N4 fun p hp=>List.mem_append_right _ (List.mem_append_right _ (inJ _ (dL p hp)))) fun b' o eb hn=>F3.keep _ _ (bt b' o eb fun hm=>hn ?_)
    simp only [List.map_cons,List.mem_cons] at hm ⊢
    rcases hm with h | h | h | h | h <;> simp [h]
end
end
end
section
theorem ym:True:=by
  k_with "call builtin:len"=>(k_here; (with_reducible show wpAny _ _ (call (Value.builtin "len") [Value.ref _]) _ _ _); (refine' l4 ?N ?m ?z ?_; (case N=>k_asm); (case m=>k_mem); (case z=>omega)); intro qt' qk')
  trivial
theorem oG {w:World} {A:Around} {s:Shared} {K:Frag} {L:Addr} {h₀:Heap} {m mg mb:Str→Option Value} {news:List (Addr×Obj)} {p:Program} {loose:List Str} {mean:ExcName→Option Value}
    {prog:Program} {R:Result→Shared→Prop} {name qual:Str} {params:Arguments} {body:List Stmt} {scope:Scope} {dV kV doc pm cdv ct oc:Value} {an od:Option Addr} {osl:Array (Option Value)} {f:Addr} {args:Args} {binds:List (Str×Value)}
    (F:Fr h₀ L s.heap m) (X₀:K.In h₀) (N:News h₀ L s.heap news) (T:Top p loose mean mg mb h₀)
    (ho:K.lookup f=some ⟨oc,od,.func (fnOf name qual params body scope dV kV doc pm an cdv ct),osl⟩) (hcd:codeIn K cdv qual=true) (hroom:A.depth<recursionLimit)
    (hbind:BindsTo s (fnOf name qual params body scope dV kV doc pm an cdv ct) args binds) (hkind:(binds.all fun y=>scope.names.lookup y.1==some .local||scope.names.lookup y.1==some .cell)=true)
    (hnd:((cellsFrom 0 scope.names []).map (·.1)).Nodup)
    (h:∀ g L' h₁ tk cells,Fr h₀ L g m→Fr g L' h₁ (bindL (envOfC qual scope L' f cdv).kindOf binds fun z_=>none)→News g L' h₁ (cells++news)→
      CellsAre (bindC (envOfC qual scope L' f cdv).kindOf binds fun z_=>none) (cellsFrom (L'+1) scope.names []) cells→h₀.StaysIn g→But (news.map (·.1)) s.heap g→K.In g→Top p loose mean mg mb g→(∀ p∈news,p.1<L')→
      aw (model prog w) (A.deeper (envOfC qual scope L' f cdv)) (execs body (envOfC qual scope L' f cdv))
        (fun fl s'=>LeaveK h₀ L m g R (match fl with | .ret v=>v | _=>.none) s') (fun z_ z_=>False)
        { s with heap:=h₁,toks:=tk })
    (hco:scope.isCoroutine=false) (hgen:scope.isGenerator=false) (hk:scope.kind=.function):aP (model prog w) A (.call (.ref f) args) R s:=by
  have B:Below callerA h₀ [] h₀:=below_caller h₀
  obtain ⟨FG,_,st,lv⟩:=groundX (A:={ frames:=some [envOf qual { scope with kind:=.function } L f cdv] }) (R:=R) B F N rfl rfl rfl
  refine bI (fd:=fnOf name qual params body scope dV kV doc pm an cdv ct) (body:=body) hroom (F.keep _ _ (X₀ _ _ ho)) rfl hco hgen rfl (codeRec_of (X₀.keeps F.keep) hcd) (hbind _ _ _ _ ?_)
  refine wpAny_newFunctionEnv_cells hk (kindsX hkind _) fun env' he s' x=>?_
  subst he
  refine ⟨(T.nolimit.keeps F.keep).keeps x.toInCall.keep,cQ ?_⟩
  obtain ⟨h₁,tk,rfl,_⟩:=x.done
  have hk₁:=x.toInCall.keep
  obtain ⟨cells,NC,Y⟩:=Cl.news (h₀:=s.heap) (Nat.le_refl _) fun n c hm=>⟨x.cell n c (lookup_of_mem_nodup (cellsFrom_names scope.names 0 (s.heap.objs.size+1) [] [] rfl▸hnd) hm),x.above n c hm⟩
  refine aJ (h _ s.heap.objs.size h₁ tk cells FG ⟨x.toInCall.ns,fun b o e=>hk₁ b o (of_hideAll _ e),Nat.le_of_eq (hideAll_size _ _)⟩ (fun p hp=>?_) Y st (fun b o e nb=>hideAll_get _ e nb) (X₀.keeps st) (T.keeps st) (fun p hp=>Heap.lt_size (N p hp).1)) (fun fl s' hl=>lv _ _ hl) fun _ _ y=>y.elim
  rcases List.mem_append.mp hp with hp | hp
  · refine ⟨(NC p hp).1,(NC p hp).2.1,?_⟩
    cases q:(hideAll s.heap (news.map (·.1))).get? p.1 with
    | none=>rfl
    | some o=>have:=of_hideAll _ q; rw [(NC p hp).2.2] at this; cases this
  · exact ⟨hk₁ _ _ (N p hp).1,Nat.ne_of_lt (Heap.lt_size (N p hp).1),hideAll_none _ (List.mem_map_of_mem hp)⟩
theorem yd:True:=by
  k_with "W enterC"=>(refine' oG ?k1 ?k2 ?k3 ?k4 ?k6 ?k7 ?k8 ?k9 ?kB ?kD ?_ ?c2 ?c3 ?c4; (case k1=>k_asm); (case k2=>k_asm); (case k3=>k_asm); (case k4=>k_asm); (case k6=>k_is); (case k7=>k_is); (case k8=>k_room); (case k9=>walk_at "binds"); (case kB=>exact rfl); (case kD=>decide +kernel); (case c2=>exact rfl); (case c3=>exact rfl); (case c4=>exact rfl); k_whole; intro qg' qL' qh' qtk' qcells' qFG' qF' qN' qY' qst' qbt' qX' qT' ql1'; (try (have qkq9:=allLt_of ql1'; replace ql1':=qkq9; dsimp only [AllLt] at ql1')); k_cells qY'; (try simp only [List.cons_append,List.nil_append] at qN'); (try dsimp only); (try k_fold))
  trivial
theorem yf:True:=by
  k_with "K two"=>first | (apply oe.head; (focus k_all); k_all) | (apply oe.tail; (focus first | assumption | exact Ne.symm (by assumption) | k_ne); (focus first | assumption | exact Ne.symm (by assumption) | k_ne); walk_at "K two")
  k_with "call ref"=>(k_here; (with_reducible show wpAny _ _ (call (Value.ref 760) [_,Value.int _ _]) _ _ _); (with_reducible rename News _ _ _ _=>qkN0); (with_reducible rename DeckIs _ _ _ _ _ _ _=>qkD0); k_dflt (refine' aH (A':=AR 800 8000) (lA ?F ?X ?T qkN0 ?U ?n ?lo qkD0 ?hm ?_) rfl ?a rfl rfl ?c; (case F=>k_asm); (case X=>k_asm); (case T=>k_asm); (case U=>walk_at "K two"); (case n=>assumption); (case lo=>assumption); (case hm=>first | exact ⟨by decide,by decide⟩ | omega); (case a=>first | (show _ - _+_≤_; exact Nat.le_trans (Nat.add_le_add_right (Nat.sub_le _ _) _) (by decide)) | k_room); (case c=>first | (show _ - _+_≤_; exact Nat.le_trans (Nat.add_le_add_right (Nat.sub_le _ _) _) (by decide)) | k_units)); intro qk' qt' qh' qtk' qvs' qls' qn' qmx' qt3' qod' qk0' qk1' qD' qF' qN' qbt'; clear qkN0 qkD0; (try k_sweep))
  k_with "subscriptTail"=>(k_here; (with_reducible show wpAny _ _ (subscriptTail (PySem.Expr.Call _ _ _ _) _ (Value.ref _) (Value.int _ _)) _ _ _); refine bM ?_)
  k_with "K item"=>(k_here; (with_reducible show wpAny _ _ (subscriptTail _ _ (Value.ref _) (Value.int _ _)) _ _ _); k_dflt (refine' item_bytes ?N ?m ?P ?k ?z ?_ ?s; (case N=>k_asm); (case m=>k_mem); (case P=>((repeat (refine allB_cons (Nat.le_of_ble_eq_true rfl) ?_)); exact allB_nil)); (case k=>(simp only [List.length_cons,List.length_nil]; omega)); (case z=>exact Nat.le_of_ble_eq_true rfl); (case s=>with_unfolding_all rfl); k_whole); intro qb' qtb' qhb')
  trivial
theorem yn:True:=by
  k_with "call ref"=>(k_here; (with_reducible show wpAny _ _ (call (Value.ref 526) [_,_]) _ _ _); refine bM ?_)
  k_with "call ref"=>(k_here; (with_reducible show wpAny _ _ (call (Value.ref 260) [_,_]) _ _ _); refine bM ?_)
  k_with "call ref"=>(k_here; (with_reducible show wpAny _ _ (call (Value.ref 252) [_,_]) _ _ _); refine bM ?_)
  k_with "subscriptTail"=>(k_here; (with_reducible show wpAny _ _ (subscriptTail _ (PySem.Expr.Slice (some _) none none _) (Value.ref _) (Value.ref _)) _ _ _); k_dflt (refine' kmk_slice_lit ?F ?N ?l ?p ?q (sp_drop _ ?z3) ?_ ?s ?t ?z; (case F=>k_asm); (case N=>k_asm); (case l=>kmk_list); (case p=>kmk_part); (case q=>kmk_part); (case z3=>omega); (case s=>with_unfolding_all rfl); (case t=>kmk_pure); (case z=>(simp only [List.size_toArray,sizeLine_eq]; omega)); k_whole); intro qD' qh' qF' qN' ql1; (try (have qkq9:=allLt_of ql1; replace ql1:=qkq9; dsimp only [AllLt] at ql1)))
  trivial
theorem vh {x:Int} (h:x≤3):(x - 0).toNat≤3:=by rw [Int.sub_zero]; exact Int.toNat_le.mpr h
theorem dW {a b:Addr} {o:Obj} {l:List (Addr×Obj)} (h:LCg.Off1 a l) (m:(b,o)∈l):@Ne Nat a b:=Ne.symm (gr l h _ m)
theorem up1 {a b:Nat} (h:@LT.lt Nat _ a b):@LT.lt Nat _ a (b+1):=Nat.lt_succ_of_lt h
theorem sS {x1 x2 x3 x4 m1 m2 m3 m4 t d c1 c2 c3:Addr×Obj} {J:List (Addr×Obj)} (p:Addr×Obj) (h:p∈x1::x2::x3::d::m1::m2::m3::m4::J):p∈x1::x2::x3::x4::m1::m2::m3::m4::t::d::c1::c2::c3::J:=
  bF (A:=[x1,x2,x3]) (B:=d::m1::m2::m3::m4::J) (fun _ h=>.tail _ (bF (A:=[m1,m2,m3,m4]) (B:=d::J) (fun _ h=>.tail _ (bF (A:=[d]) (B:=J) (fun _ h=>.tail _ (.tail _ (.tail _ h))) h)) (bL (A:=[d]) (B:=[m1,m2,m3,m4]) h))) h
theorem sH {w:World} {k:Nat} (hk:k≤2) (IH:b8 w k) {p:Program} {loose:List Str} {mean:ExcName→Option Value} {mg mb:Str→Option Value} {s:Shared} {h₀:Heap} {L:Addr} {m:Str→Option Value}
    {da la ma md mm li ld sv jr fr:Addr} {od omd om:Obj} {t3 dt:Tok} {mx:Int} {vs:List Value} {ls:List Int} {n:Nat} {es:List (Int×Value)} {used last:Int} {J:List (Addr×Obj)} {Q:Value→Shared→Prop}
    (F:Fr h₀ L s.heap m) (X:(Mine.hd.heap_1 w.params).In h₀) (T:Top p loose mean mg mb h₀)
    (N:News h₀ L s.heap ((md,omd)::(mm,om)::(da,od)::(la,listOf vs.toArray n)::J)) (D:DeckIs w la od vs ls mx t3)
    (MJ:bZ w.params ma md li ld sv mm J) (MD:aT w.params li sv jr mm fr used last omd) (AP:Apart md mm da la J)
    (hom:om.IsDictOf (intKind rw_on0273_01.row.prog w) es) (hes:es.length+(3*Bk k+1)≤1000)
    (hu:0≤used) (hu2:used+100*((3*Bk k+1:Nat):Int)≤16000000) (hl:0≤last) (hl2:last+((3*Bk k+1:Nat):Int)≤100000)
    (post:aF w h₀ L m da la md mm li sv jr fr J es used last (3*Bk k+1) (k+1) s Q) :
    aw (model rw_on0273_01.row.prog w) (AR (700 - 40*k) (7000 - 400*k)) (call (.ref 772) [.ref ma,.ref da,.int (k+1:Int) dt]) Q (fun z_ z_=>False) s:=by
  have hNN:=N
  have MD0:=MD
  have AP0:=AP
  obtain ⟨n0,n1,n2,n3,n4,o,jda,jla,lo,lo2⟩:=AP
  refine bi ?_
  walk_at "W enterC"
  refine aI ?_
  (with_reducible rename Fr _ _ _ _=>lF)
  refine gX lF (by rfl) (by with_unfolding_all rfl) (by with_unfolding_all rfl) (by decide) (by rfl) (by decide) (by rfl) (by rfl) (by rfl) ?_ (by intro _; rfl) (by intro _ _; with_unfolding_all rfl)
  k_steps
  unfold bO
  refine' ⟨_,?ra,?rb,?rt,?ru,?rv,?nn,?news,rfl,rfl,?f,?nw,?rq,?sm,?sz,?le,fun g=>?rest⟩
  case f=>assumption
  case nw=>assumption
  case rq=>assumption
  case sm=>exact small_one (by exact ax .z .z .z (.g (.k 4611686018427387904)) (.k 0) rfl ) (by exact ax .z .z .z (.a (.k 0) (.k 1)) (.k 4611686018427387904) rfl ) (by exact ax .z (.c _ .z) (.c (.k 0) (.v 0) .z) (.g (.k 4611686018427387904)) (.v 0) rfl (by assumption)) (by exact ax .z (.c _ .z) (.c (.a (.v 0) (.k 1)) (.k 4) .z) (.a (.v 0) (.k 1)) (.k 4611686018427387904) rfl (by assumption))
  case sz=>exact rangeSize_nat _ _
  case le=>exact Nat.le_trans (vh (by exact ax .z (.c _ .z) (.c (.a (.v 0) (.k 1)) (.k 4) .z) (.v 0) (.k 3) rfl (by assumption))) (by rw [sizeLine_eq]; decide)
  case rest=>
    generalize hn:Int.toNat (_ - 0)=N
    have hN:N≤3:=hn▸vh (by exact ax .z (.c _ .z) (.c (.a (.v 0) (.k 1)) (.k 4) .z) (.v 0) (.k 3) rfl (by assumption))
    suffices main:∀ (j i x:Nat) (ys:List Value) (ts:List Tr) (Rc Jc:List (Addr×Obj)) (od omd om:Obj) (vs:List Value) (ls:List Int) (n:Nat) (mx:Int) (t3:Tok) (es':List (Int×Value)) (used' last':Int),
        i+j=N→aV w.params Rc ys ts→ts.length=i→(∀ t∈ts,aW k t)→(∀ p∈J,p∈Jc)→(∀ p∈Rc,p∈Jc∧dh md mm da la J p.1)→bZ w.params ma md li ld sv mm Jc→(∀ p∈Jc,p.1≠da)→(∀ p∈Jc,p.1≠la)→DeckIs w la od vs ls mx t3→aT w.params li sv jr mm fr used' last' omd→
        om.IsDictOf (intKind rw_on0273_01.row.prog w) es'→x+j*Bk k≤3*Bk k→es'.length≤es.length+x→used≤used'∧used'≤used+100*(x:Int)→last≤last'∧last'≤last+(x:Int)→
        bS _ _ _ _ _ _ _ _ _ _ _ _ _ _ j i ys (_::_::_::(md,omd)::(mm,om)::(da,od)::(la,listOf vs.toArray n)::Jc) from
      main N 0 0 [] [] [] J _ _ _ _ _ _ _ _ _ _ _ (Nat.zero_add _) .nil rfl (fun _ h=>nomatch h) (fun _ h=>h) (fun _ h=>nomatch h) MJ jda jla (by assumption) MD0 hom (by have:=Nat.mul_le_mul_right (Bk k) hN; exact lin (.c _ (.c _ .z)) (.c (.v 1) (.m 3 (.v 0)) .z) (.a (.k 0) (.v 1)) (.m 3 (.v 0)) rfl this) (by exact lin (.c _ .z) .z (.v 0) (.a (.v 0) (.k 0)) rfl ) ⟨by exact ax .z (.c _ .z) .z (.v 0) (.v 0) rfl ,by exact ax .z (.c _ .z) .z (.v 0) (.a (.v 0) (.m 100 (.u (.k 0)))) rfl ⟩ ⟨by exact ax .z (.c _ .z) .z (.v 0) (.v 0) rfl ,by exact ax .z (.c _ .z) .z (.v 0) (.a (.v 0) (.u (.k 0))) rfl ⟩
    intro j
    induction j with
    | zero=>
      intro i x ys ts Rc Jc od omd om vs ls n mx t3 es' used' last' hij hP hts hok hJ hRc MJc jdac jlac eD eMD ehom hx ees eu el
      intro D h tk FD ND offD
      have hlen:=hP.len
      have oD:=offD
      dsimp only [LCg.Off1] at offD
      obtain ⟨_,_,_,x1,x2,x3,x4,x5⟩:=offD
      dsimp only
      refine aD ?_
      have MJc0:=MJc
      obtain ⟨jcm,jcl,⟨jcf,jcd⟩,⟨jcn,jcs⟩,jcnd,jcnm⟩:=MJc
      have eMD2:=eMD
      cases eMD
      have mk5:Mk 5:=⟨⟩
      k_with "eval ListComp"=>((with_reducible rename Mk 5=>mk5); refine bM ?_)
      k_steps
      refine bP ?_
      (with_reducible rename Fr _ _ _ _=>lF)
      refine d7 lF (by with_unfolding_all rfl) (by decide) (by rfl) (by decide) (by rfl) ?_ (by intro _; rfl)
      k_steps
      refine bP ?_
      refine LCg.CompSrc.ledger (by rfl) (by assumption) (by assumption) (by k_mem) (by simp only [List.size_toArray,sizeLine_eq]; exact lin (.c _ (.c _ (.c _ (.c _ .z)))) (.c (.v 0) (.k 3) (.c (.a (.v 1) (.k 0)) (.v 0) (.c (.v 2) (.v 1) (.c (.v 3) (.v 2) .z)))) (.v 3) (.k 16777216) rfl hN (cb hij) (cb hts) (cb hlen)) (fun g=>?_)
      rw [List.size_toArray,hlen]
      suffices rest:∀ j i zs,i+j=ts.length→am w.params Rc zs (ts.take i)→LCg.CompRest _ _ _ _ _ _ _ _ _ _ _ _ _ _ _ j i zs _ from rest ts.length 0 [] (Nat.zero_add _) .nil
      intro j
      induction j with
      | succ j ih=>
        intro i zs hi hzs
        refine LCg.CompRest.succ fun v I oI C oC D m₂ h tk E' hp hoC hm₂ FC NC off hne=>?_
        obtain ⟨tp,nt,made,tree,tt,rfl,g1,g2,g3,g4⟩:=hP.get (by simpa using hp)
        have g1':=(hRc _ g1).1
        k_steps
        refine LCg.CompEnd.intro FC NC _ (fun p hp=>hp) off (Or.inr ⟨_,by k_mem,rfl,_,rfl⟩) ?_
        refine ih (i+1) _ ((Nat.succ_add_eq_add_succ _ _).trans hi) ?_
        rw [take_snoc g4]
        exact hzs.snoc g2
      | zero=>
        intro i zs hi hzs
        rw [List.take_of_length_le (by exact lin (.c _ (.c _ .z)) (.c (.v 0) (.a (.v 1) (.k 0)) .z) (.v 0) (.v 1) rfl (cr hi))] at hzs
        refine LCg.CompRest.zero ?_
        intro D2 h2 tk2 FD2 ND2 offD2
        have oD2:=offD2
        dsimp only [LCg.Off1] at offD2
        k_steps
        refine bP ?_
        (with_reducible rename Fr _ _ _ _=>lF)
        (with_reducible rename News _ _ _ _=>lN)
        have hzl:=cM hzs
        refine' aH (A':=AR 810 8100) (ko ⟨rfl,by decide,by decide⟩ lF (by k_asm) (by k_asm) (mO lN) (by exact lin (.c _ (.c _ (.c _ (.c _ .z)))) (.c (.v 0) (.k 3) (.c (.a (.v 1) (.k 0)) (.v 0) (.c (.v 2) (.v 1) (.c (.v 3) (.v 2) .z)))) (.v 3) (.k 3) rfl hN (cb hij) (cb hts) (cb hzl)) (dW oD2 (by k_mem)) (dW oD2 (by k_mem)) ?MJ eMD2 o ehom (by exact lin (.c _ (.c _ (.c _ (.c _ .z)))) (.c (.a (.v 0) (.a (.m 3 (.v 1)) (.k 1))) (.k 1000) (.c (.a (.v 2) (.m 0 (.v 1))) (.m 3 (.v 1)) (.c (.v 3) (.a (.v 0) (.v 2)) .z))) (.v 3) (.k 1000) rfl hes hx ees) (by exact ax .z (.c _ (.c _ .z)) (.c (.k 0) (.v 0) (.c (.v 0) (.v 1) .z)) (.k 0) (.v 1) rfl hu eu.1) (by exact ax (.c _ (.c _ .z)) (.c _ (.c _ .z)) (.c (.a (.v 0) (.m 100 (.u (.a (.m 3 (.v 0)) (.k 1))))) (.k 16000000) (.m 100 (.u (.a (.v 1) (.m 0 (.v 0)))) (.u (.m 3 (.v 0))) (.c (.v 1) (.a (.v 0) (.m 100 (.u (.v 1)))) .z))) (.v 1) (.k 16000000) rfl hu2 (Int.ofNat_le.mpr hx) eu.2) (by exact ax .z (.c _ (.c _ .z)) (.c (.k 0) (.v 0) (.c (.v 0) (.v 1) .z)) (.k 0) (.v 1) rfl hl el.1) (by exact ax (.c _ (.c _ .z)) (.c _ (.c _ .z)) (.c (.a (.v 0) (.u (.a (.m 3 (.v 0)) (.k 1)))) (.k 100000) (.u (.a (.v 1) (.m 0 (.v 0))) (.m 3 (.v 0)) (.c (.v 1) (.a (.v 0) (.u (.v 1))) .z))) (.v 1) (.k 100000) rfl hl2 hx el.2) ?post) rfl ?a rfl rfl ?c
        case MJ=>
          (with_reducible rename (_<_)∧_=>l9)
          exact ((((((MJc0.cons (Nat.ne_of_gt (up1 ql1'.1)) (Nat.ne_of_gt (up1 ql1'.2.1))).cons (Nat.ne_of_gt (up1 (up1 ql1'.1))) (Nat.ne_of_gt (up1 (up1 ql1'.2.1)))).cons (Nat.ne_of_gt (up1 (up1 (up1 ql1'.1)))) (Nat.ne_of_gt (up1 (up1 (up1 ql1'.2.1))))).cons (dW oD (by k_mem)) (dW oD (by k_mem))).cons (Nat.ne_of_gt l9.2.2.2.2.1) (Nat.ne_of_gt l9.2.2.2.2.2.1)).cons n3 n4).cons n1 n2
        case a=>first | (show _ - _+_≤_; exact Nat.le_trans (Nat.add_le_add_right (Nat.sub_le _ _) _) (by decide)) | k_room
        case c=>first | (show _ - _+_≤_; exact Nat.le_trans (Nat.add_le_add_right (Nat.sub_le _ _) _) (by decide)) | k_units
        case post=>
          intro rx rdx rl n' vn vg tv t1 t2 t3' t4 omd2 om2 es2 h' tk' F' N' MD2 hom2 hes2 b2 nd3 up3
          clear lF lN
          walk1
          (with_reducible rename Fr _ _ _ _=>lF)
          (with_reducible rename News _ _ _ _=>lN)
          (with_reducible rename DeckIs _ _ _ _ _ _ _=>eDD)
          show wpAny _ _ (execs (List.drop 3 (bu 0).body) (aa (bu _) _)) _ _ _
          refine' kG (s:=s) (k:=k) (B:=3*Bk k+1) (used:=used) (last:=last) (es:=es) ?hwy (by rfl) ?hd ?hu lF (by k_asm) (by k_asm) (ag lN sS) ?h1 ?h2 ?h3 ?h4 ?h5 hP hzs (by exact lin (.c _ (.c _ (.c _ .z))) (.c (.v 0) (.k 3) (.c (.a (.v 1) (.k 0)) (.v 0) (.c (.v 2) (.v 1) .z))) (.v 2) (.k 3) rfl hN (cb hij) (cb hts)) hok hJ hRc ?o1 ?o2 ?o3 ?o4 eDD MD2 hom2 (by exact lin (.c _ (.c _ (.c _ (.c _ (.c _ .z))))) (.c (.a (.v 2) (.m 0 (.v 1))) (.m 3 (.v 1)) (.c (.v 3) (.a (.v 0) (.v 2)) (.c (.v 4) (.a (.v 3) (.k 1)) .z))) (.v 4) (.a (.v 0) (.a (.m 3 (.v 1)) (.k 1))) rfl hx ees hes2) ⟨by exact ax (.c _ .z) (.c _ (.c _ .z)) (.c (.v 0) (.v 1) .z) (.v 0) (.a (.v 1) (.m 8 (.u (.v 0)))) rfl eu.1,by exact ax (.c _ (.c _ (.c _ (.c _ (.c _ (.c _ .z)))))) (.c _ (.c _ .z)) (.m 8 (.u (.v 1)) (.u (.k 3)) (.m 8 (.u (.a (.v 2) (.k 0))) (.u (.v 1)) (.m 8 (.u (.v 3)) (.u (.v 2)) (.m 100 (.u (.a (.v 4) (.m 0 (.v 0)))) (.u (.m 3 (.v 0))) (.c (.v 1) (.a (.v 0) (.m 100 (.u (.v 4)))) (.m 8 (.u (.v 5)) (.u (.v 3)) .z)))))) (.a (.v 1) (.m 8 (.u (.v 5)))) (.a (.v 0) (.m 100 (.u (.a (.m 3 (.v 0)) (.k 1))))) rfl (Int.ofNat_le.mpr hN) (Int.ofNat_le.mpr (cb hij)) (Int.ofNat_le.mpr (cb hts)) (Int.ofNat_le.mpr hx) eu.2 (Int.ofNat_le.mpr (cb hzl))⟩ ⟨by exact ax .z (.c _ (.c _ .z)) (.c (.v 0) (.v 1) .z) (.v 0) (.a (.v 1) (.k 1)) rfl el.1,by exact ax (.c _ (.c _ .z)) (.c _ (.c _ .z)) (.u (.a (.v 1) (.m 0 (.v 0))) (.m 3 (.v 0)) (.c (.v 1) (.a (.v 0) (.u (.v 1))) .z)) (.a (.v 1) (.k 1)) (.a (.v 0) (.u (.a (.m 3 (.v 0)) (.k 1)))) rfl hx el.2⟩ hNN (by assumption) post
          case h1=>rfl
          case h2=>rfl
          case h3=>rfl
          case h4=>rfl
          case h5=>rfl
          case hwy=>exact ⟨by assumption,by assumption⟩
          case hd=>show 700 - 40*k+1≤790; exact Nat.le_trans (Nat.add_le_add_right (Nat.sub_le _ _) 1) (by decide)
          case hu=>show 7000 - 400*k+3≤7900; exact Nat.le_trans (Nat.add_le_add_right (Nat.sub_le _ _) 3) (by decide)
          case o1=>exact fY (up3 _ (.head _)) (by k_mem) (by k_mem) (by k_mem) (by k_mem) (by intro p hp; have hq:=hJ p hp; repeat (first | exact hq | refine List.mem_cons_of_mem _ ?_))
          case o3=>exact fY (up3 _ (.tail _ (.tail _ (.head _)))) (by k_mem) (by k_mem) (by k_mem) (by k_mem) (by intro p hp; have hq:=hJ p hp; repeat (first | exact hq | refine List.mem_cons_of_mem _ ?_))
          case o2=>exact fY (up3 _ (.tail _ (.head _))) (by k_mem) (by k_mem) (by k_mem) (by k_mem) (by intro p hp; have hq:=hJ p hp; repeat (first | exact hq | refine List.mem_cons_of_mem _ ?_))
          case o4=>exact ⟨x1,x2,x3,x4,fun q hq=>gr _ x5 q (hJ q hq)⟩
    | succ j ih=>
      intro i x ys ts Rc Jc od omd om vs ls n mx t3 es' used' last' hij hP hts hok hJ hRc MJc jdac jlac eD eMD ehom hx ees eu el
      have hsm:(j+1)*Bk k=j*Bk k+Bk k:=Nat.succ_mul j (Bk k)
      rw [hsm] at hx; clear hsm
      intro v I oI C oC D m₂ h tk hv hoC hm₂ FC NC off hne
      refine fA ?_ (by rfl)
      k_steps
      refine bf ?_
      refine aD (bH ?_ (by rfl))
      k_steps
      refine cy (a:=777) (K:=Mine.hd.heap_1 w.params) (by k_asm) (by k_asm) (by k_is) rfl ?_
      (with_reducible rename Fr _ _ _ _=>lF)
      (with_reducible rename News _ _ _ _=>lN)
      have f1:=f7 off (a:=md) (o:=omd) (by k_mem)
      have f2:=f7 off (a:=mm) (o:=om) (by k_mem)
      have f3:=f7 off (a:=da) (o:=od) (by k_mem)
      have f4:=f7 off (a:=la) (o:=listOf vs.toArray n) (by k_mem)
      refine' bq (IH (Int.add_sub_cancel _ _) lF (by k_asm) (by k_asm) (pO lN) eD ?MJ eMD ⟨n0,n1,n2,n3,n4,o,?jda,?jla,lo,lo2⟩ ehom (by exact lin (.c _ (.c _ (.c _ (.c _ (.c _ .z))))) (.c (.a (.v 0) (.a (.m 3 (.v 1)) (.k 1))) (.k 1000) (.c (.a (.v 2) (.a (.v 3) (.v 1))) (.m 3 (.v 1)) (.c (.v 4) (.a (.v 0) (.v 2)) .z))) (.a (.v 4) (.v 1)) (.k 1000) rfl hes hx ees) (by exact ax .z (.c _ (.c _ .z)) (.c (.k 0) (.v 0) (.c (.v 0) (.v 1) .z)) (.k 0) (.v 1) rfl hu eu.1) (by exact ax (.c _ (.c _ (.c _ .z))) (.c _ (.c _ .z)) (.c (.a (.v 0) (.m 100 (.u (.a (.m 3 (.v 0)) (.k 1))))) (.k 16000000) (.m 100 (.u (.a (.v 1) (.a (.v 2) (.v 0)))) (.u (.m 3 (.v 0))) (.c (.v 1) (.a (.v 0) (.m 100 (.u (.v 1)))) .z))) (.a (.v 1) (.m 100 (.u (.v 0)))) (.k 16000000) rfl hu2 (Int.ofNat_le.mpr hx) eu.2) (by exact ax .z (.c _ (.c _ .z)) (.c (.k 0) (.v 0) (.c (.v 0) (.v 1) .z)) (.k 0) (.v 1) rfl hl el.1) (by exact ax (.c _ (.c _ (.c _ .z))) (.c _ (.c _ .z)) (.c (.a (.v 0) (.u (.a (.m 3 (.v 0)) (.k 1)))) (.k 100000) (.u (.a (.v 1) (.a (.v 2) (.v 0))) (.m 3 (.v 0)) (.c (.v 1) (.a (.v 0) (.u (.v 1))) .z))) (.a (.v 1) (.u (.v 0))) (.k 100000) rfl hl2 hx el.2) ?post) rfl ?a rfl rfl ?c
      case MJ=>exact (((((MJc.cons (Nat.ne_of_gt (up1 ql1'.1)) (Nat.ne_of_gt (up1 ql1'.2.1))).cons (Nat.ne_of_gt (up1 (up1 ql1'.1))) (Nat.ne_of_gt (up1 (up1 ql1'.2.1)))).cons (Nat.ne_of_gt (up1 (up1 (up1 ql1'.1)))) (Nat.ne_of_gt (up1 (up1 (up1 ql1'.2.1))))).cons f1.2.2 f2.2.2).cons f1.2.1 f2.2.1).cons f1.1 f2.1
      case jda=>exact fC ⟨f3.1,fC ⟨f3.2.1,fC ⟨f3.2.2,fC ⟨neN (Nat.ne_of_gt (up1 (up1 (up1 ql1'.2.2.1)))),fC ⟨neN (Nat.ne_of_gt (up1 (up1 ql1'.2.2.1))),fC ⟨neN (Nat.ne_of_gt (up1 ql1'.2.2.1)),jdac⟩⟩⟩⟩⟩⟩
      case jla=>exact fC ⟨f4.1,fC ⟨f4.2.1,fC ⟨f4.2.2,fC ⟨neN (Nat.ne_of_gt (up1 (up1 (up1 ql1'.2.2.2.1)))),fC ⟨neN (Nat.ne_of_gt (up1 (up1 ql1'.2.2.2.1))),fC ⟨neN (Nat.ne_of_gt (up1 ql1'.2.2.2.1)),jlac⟩⟩⟩⟩⟩⟩
      case a=>first | (show _ - _+_≤_; exact Nat.le_trans (Nat.add_le_add_right (Nat.sub_le _ _) _) (by decide)) | k_room
      case c=>first | (show _ - _+_≤_; exact Nat.le_trans (Nat.add_le_add_right (Nat.sub_le _ _) _) (by decide)) | k_units
      case post=>
        intro tp nt made tree tt Rn od2 vs2 ls2 n2 mx2 t32 omd2 om2 es2 used2 last2 h2 tk2 hto hTh hTr htp F2 NR N2 D2 MD2 hom2 hes2 hu2' hl2' hov b2
        refine LCg.CompEnd.intro F2 (News.app NR N2) (_::_::_::(md,omd2)::(mm,om2)::(da,od2)::(la,listOf vs2.toArray n2)::(Rn++Jc)) lz ⟨off.1,off.2.1,off.2.2.1,off.2.2.2.1,off.2.2.2.2.1,off.2.2.2.2.2.1,off.2.2.2.2.2.2.1,Off3.app (nq hov) off.2.2.2.2.2.2.2⟩ trivial ?_
        refine ih (i+1) (x+Bk k) (ys++[.ref tp]) (ts++[tt]) (Rn++Rc) (Rn++Jc) _ _ _ _ _ _ _ _ _ _ _ ((Nat.succ_add_eq_add_succ _ _).trans hij) (aV.snoc (List.mem_append_left _ htp) (hTh.mono fun p hp=>List.mem_append_left _ hp) (hTr.mono fun p hp=>List.mem_append_left _ hp) (hP.mono fun p hp=>List.mem_append_right _ hp)) ?_ ?_ ?_ ?_ ?_ ?_ ?_ D2 MD2 hom2 (by exact lin (.c _ (.c _ (.c _ .z))) (.c (.a (.v 1) (.a (.v 2) (.v 0))) (.m 3 (.v 0)) .z) (.a (.a (.v 1) (.v 0)) (.v 2)) (.m 3 (.v 0)) rfl hx) (by exact lin (.c _ (.c _ (.c _ (.c _ (.c _ .z))))) (.c (.v 3) (.a (.v 0) (.v 2)) (.c (.v 4) (.a (.v 3) (.v 1)) .z)) (.v 4) (.a (.v 0) (.a (.v 2) (.v 1))) rfl ees hes2) ⟨by exact ax .z (.c _ (.c _ (.c _ .z))) (.c (.v 0) (.v 1) (.c (.v 1) (.v 2) .z)) (.v 0) (.v 2) rfl eu.1 hu2'.1,by exact ax (.c _ (.c _ .z)) (.c _ (.c _ (.c _ .z))) (.c (.v 1) (.a (.v 0) (.m 100 (.u (.v 1)))) (.c (.v 2) (.a (.v 1) (.m 100 (.u (.v 0)))) .z)) (.v 2) (.a (.v 0) (.m 100 (.u (.a (.v 1) (.v 0))))) rfl eu.2 hu2'.2⟩ ⟨by exact ax .z (.c _ (.c _ (.c _ .z))) (.c (.v 0) (.v 1) (.c (.v 1) (.v 2) .z)) (.v 0) (.v 2) rfl el.1 hl2'.1,by exact ax (.c _ (.c _ .z)) (.c _ (.c _ (.c _ .z))) (.c (.v 1) (.a (.v 0) (.u (.v 1))) (.c (.v 2) (.a (.v 1) (.u (.v 0))) .z)) (.v 2) (.a (.v 0) (.u (.a (.v 1) (.v 0)))) rfl el.2 hl2'.2⟩
        · rw [List.length_append,hts]; rfl
        · intro t' ht'
          rcases List.mem_append.mp ht' with h | h
          · exact hok t' h
          · rw [List.mem_singleton.mp h]; exact hto
        · exact fun p hp=>List.mem_append_right _ (hJ p hp)
        · intro p hp
          rcases List.mem_append.mp hp with h | h
          · exact ⟨List.mem_append_left _ h,(hov p h).sub fun q hq=>.tail _ (.tail _ (.tail _ (.tail _ (.tail _ (.tail _ (hJ q hq))))))⟩
          · exact ⟨List.mem_append_right _ (hRc p h).1,(hRc p h).2⟩
        · exact MJc.app (mT hov)
        · exact fun p hp=>(List.mem_append.mp hp).elim (fun h=>Ne.symm (hov p h).2.2.1) (jdac p)
        · exact fun p hp=>(List.mem_append.mp hp).elim (fun h=>Ne.symm (hov p h).2.2.2.1) (jlac p)
end
section
noncomputable section
variable {w:World}
theorem dc:∀ (n:Nat),bud (List.replicate n (0,SV.n))=n
  | 0=>rfl
  | n+1=>by rw [List.replicate_succ,c0,dc n]; exact Nat.le_antisymm (lin (.c _ .z) .z (.a (.k 1) (.v 0)) (.a (.v 0) (.k 1)) rfl ) (lin (.c _ .z) .z (.a (.v 0) (.k 1)) (.a (.k 1) (.v 0)) rfl )
theorem kj {ls:List Int} {mx:Int}:∀ (n:Nat),cZ ls mx (List.replicate n (0,SV.n))
  | 0=>trivial
  | n+1=>.inl ⟨rfl,kj n⟩
theorem nH:∀ k,1≤Bk k
  | 0=>Nat.le_refl _
  | k+1=>Nat.le_add_left _ _
theorem n13:∀ n,n<13→n=0∨n=1∨n=2∨n=3∨n=4∨n=5∨n=6∨n=7∨n=8∨n=9∨n=10∨n=11∨n=12:=by decide
theorem eW {k:Nat} (hk:k≤3) (IH:∀ j,k=j+1→b8 w j):b8 w k:=by
  intro p loose mean mg mb s h₀ L m da la ma md mm li ld sv jr fr od omd om t3 dt mx vs ls n es used last dv J Q hdv F X T N D MJ MD AP hom hes hu hu2 hl hl2 post
  have hs:aE w.params da la md mm ma li ld sv J es.length used last (Bk k):=⟨AP,MJ,hes,hu,hu2,hl,hl2⟩
  have b13:0≤aq ls mx 13∧aq ls mx 13<13:=eP D (by decide)
  have fut:∀ {j:Int},aq ls mx 13=j→cZ ls mx ((13,.i j)::List.replicate (Bk k) (0,SV.n)):=fun e=>.inr ⟨⟨(by decide:0<13),(by decide:13≤2000000),fun ρ t=>⟨t,congrArg (fun n=>Value.int n t) e⟩⟩,kj _⟩
  have row:∀ {j:Int},aq ls mx 13=j→(j=10∨j=11∨j=12)→aw (model PG w) (AR (730 - 40*k) (7300 - 400*k)) (call (.ref 777) [.ref ma,.ref da,.int dv dt]) Q (fun z_ z_=>False) s:=by
    intro j e hj
    have con:∀ (i:Nat),k=i+1→i≤2→((rf (c:=dZ w p loose mean mg mb J [da,ma] 90 da la md mm li sv jr fr es.length used last (Bk k)) (run (dG (Nat.le_refl _) 0 rfl hs) 34) 9 fn777_3 (dM k ((13,.i j)::List.replicate (Bk k) (0,SV.n))) 772 (by kernel_rfl)).map fun q=>(q.vs,q.σ'.wd))=some ([.s 1,.s 0,.i (k:Int)],List.replicate (Bk k) (0,SV.n))→
        aw (model PG w) (AR (730 - 40*k) (7300 - 400*k)) (call (.ref 777) [.ref ma,.ref da,.int dv dt]) Q (fun z_ z_=>False) s:=by
      intro i hki hi hr
      refine ec (ld:=ld) _ hr (show 0+bud _=_ by rw [dc,Nat.zero_add]) (dc _) (fut e) hk hdv F X T N D MD hom post ?_
      intro g0 L' m' s' ρ xs od omd om t3 mx vs ls n es' Q' hx hp F' X' T' N' D' MD' hom' he post'
      subst hki
      obtain ⟨y1,r1,rfl,⟨a1,g1,rfl⟩,y2,r2,rfl,⟨a2,g2,rfl⟩,y3,r3,rfl,⟨t,rfl⟩,h5⟩:=hx
      obtain rfl:r3=[]:=h5
      obtain rfl:ma=a1:=Option.some.inj ((az hp (i:=1) rfl).symm.trans g1)
      obtain rfl:da=a2:=Option.some.inj ((az hp (i:=0) rfl).symm.trans g2)
      have eB:Bk (i+1)=3*Bk i+1:=rfl
      rw [eB] at hes hu2 hl2 post'
      refine bq (sH hi (IH i rfl) F' X' T' N' D' MJ MD' AP hom' (by exact lin (.c _ (.c _ (.c _ .z))) (.c (.v 0) (.v 1) (.c (.a (.v 1) (.a (.m 3 (.v 2)) (.k 1))) (.k 1000) .z)) (.a (.v 0) (.a (.m 3 (.v 2)) (.k 1))) (.k 1000) rfl he hes) hu hu2 hl hl2 post') rfl (by show 740 - 40*(i+1)≤700 - 40*i; exact lin (.c _ (.c _ (.c _ .z))) (.c (.a (.v 1) (.m 40 (.a (.v 0) (.k 1)))) (.k 740) (.c (.k 700) (.a (.v 2) (.m 40 (.v 0))) .z)) (.v 1) (.v 2) rfl (eC (lin (.c _ .z) (.m 40 (.v 0) (.k 2) .z) (.m 40 (.a (.v 0) (.k 1))) (.k 740) rfl hi)) (f5 _ _)) rfl rfl (by show 7400 - 400*(i+1)≤7000 - 400*i; exact lin (.c _ (.c _ (.c _ .z))) (.c (.a (.v 1) (.m 400 (.a (.v 0) (.k 1)))) (.k 7400) (.c (.k 7000) (.a (.v 2) (.m 400 (.v 0))) .z)) (.v 1) (.v 2) rfl (eC (lin (.c _ .z) (.m 400 (.v 0) (.k 2) .z) (.m 400 (.a (.v 0) (.k 1))) (.k 7400) rfl hi)) (f5 _ _))
    rcases (orN_of 3 0 (Nat.zero_le _) hk:k=0∨k=1∨k=2∨k=3) with rfl | rfl | rfl | rfl
    · exact fq (.inr ⟨rfl,by omega⟩) hs hk hdv F X T N D MD hom post
    · rcases hj with rfl | rfl | rfl <;> exact con 0 rfl (by decide) (by kernel_rfl)
    · rcases hj with rfl | rfl | rfl <;> exact con 1 rfl (by decide) (by kernel_rfl)
    · rcases hj with rfl | rfl | rfl <;> exact con 2 rfl (by decide) (by kernel_rfl)
  obtain ⟨n,e⟩:=Int.eq_ofNat_of_zero_le b13.1
  have ht:n<13:=Int.ofNat_lt.mp (e▸b13.2)
  rcases n13 n ht with rfl | rfl | rfl | rfl | rfl | rfl | rfl | rfl | rfl | rfl | rfl | rfl | rfl
  · exact fq (.inl e) hs hk hdv F X T N D MD hom post
  · exact bp (.inl e) hs hk hdv F X T N D MD hom post
  · exact bp (.inr (.inl e)) hs hk hdv F X T N D MD hom post
  · exact iu e hs hk hdv F X T N D MD hom post
  · exact bp (.inr (.inr (.inl e))) hs hk hdv F X T N D MD hom post
  · exact bp (.inr (.inr (.inr (.inl e)))) hs hk hdv F X T N D MD hom post
  · exact bp (.inr (.inr (.inr (.inr (.inl e))))) hs hk hdv F X T N D MD hom post
  · refine ec (ld:=ld) (vs':=[.s 1,.s 0]) (evs:=List.replicate (Bk k) (0,SV.n)) (rf (c:=dZ w p loose mean mg mb J [da,ma] 90 da la md mm li sv jr fr es.length used last (Bk k)) (run (dG (Nat.le_refl _) 0 rfl hs) 34) 6 fn777_3 (dM k ((13,.i 7)::List.replicate (Bk k) (0,SV.n))) 767 (by kernel_rfl)) (by kernel_rfl) (show 0+bud _=_ by rw [dc,Nat.zero_add]) (dc _) (fut e) hk hdv F X T N D MD hom post ?_
    intro g0 L' m' s' ρ xs od omd om t3 mx vs ls n es' Q' hx hp F' X' T' N' D' MD' hom' he post'
    obtain ⟨y1,r1,rfl,⟨a1,g1,rfl⟩,y2,r2,rfl,⟨a2,g2,rfl⟩,h5⟩:=hx
    obtain rfl:r2=[]:=h5
    obtain rfl:ma=a1:=Option.some.inj ((az hp (i:=1) rfl).symm.trans g1)
    obtain rfl:da=a2:=Option.some.inj ((az hp (i:=0) rfl).symm.trans g2)
    exact bq (lf (nH k) ⟨AP,MJ,by exact lin (.c _ (.c _ (.c _ .z))) (.c (.a (.v 0) (.v 1)) (.k 1000) (.c (.v 2) (.v 0) .z)) (.a (.v 2) (.v 1)) (.k 1000) rfl hes he,hu,hu2,hl,hl2⟩ F' X' T' N' D' MD' hom' post') rfl (by show 740 - 40*k≤740; exact lin (.c _ .z) (.c (.v 0) (.k 740) .z) (.v 0) (.k 740) rfl (Nat.sub_le _ _)) rfl rfl (by show 7400 - 400*k≤7400; exact lin (.c _ .z) (.c (.v 0) (.k 7400) .z) (.v 0) (.k 7400) rfl (Nat.sub_le _ _))
  · exact iw e (nH k) hs hk hdv F X T N D MD hom post
  · exact bp (.inr (.inr (.inr (.inr (.inr e))))) hs hk hdv F X T N D MD hom post
  · exact row e (.inl rfl)
  · exact row e (.inr (.inl rfl))
  · exact row e (.inr (.inr rfl))
theorem mr (w:World) (k:Nat):k≤3→b8 w k:=
  Nat.rec (motive:=fun k=>k≤3→b8 w k) (fun h=>eW h fun j e=>absurd e.symm (Nat.succ_ne_zero j))
    (fun k ih h=>eW h fun j e=>Nat.succ.inj e▸ih (Nat.le_of_succ_le h)) k
end
end
section
set_option tactic.hygienic true in
theorem ql {vs:List Value} {zs:List Int} (h:IntsAre vs zs):∀ {i:Nat} {v:Value},vs[i]?=some v→∃ x t,v=.int x t:=by
  induction h with
  | nil=>exact fun e=>by simp at e
  | cons=>
    rename_i ih
    intro i v e
    cases i with
    | zero=>simp at e; exact ⟨_,_,e.symm⟩
    | succ i=>exact ih (by simpa using e)
theorem LCg.Off1.mem' {a:Addr} {l:List (Addr×Obj)} (h:LCg.Off1 a l):∀ q∈l,q.1≠a:=by
  induction l with
  | nil=>exact fun _ hq=>nomatch hq
  | cons q r ih=>exact fC ⟨h.1,ih h.2⟩
theorem oA {w:World} {p:Program} {loose:List Str} {mean:ExcName→Option Value} {mg mb:Str→Option Value} {s:Shared} {h₀:Heap} {L:Addr} {m:Str→Option Value}
    {a:Addr} {vs:List Value} {ns:List Int} {R:List (Addr×Obj)} {Q E:Value→Shared→Prop}
    (F:Fr h₀ L s.heap m) (X:(Mine.hd.heap_1 w.params).In h₀) (T:Top p loose mean mg mb h₀) (N:News h₀ L s.heap R)
    (hL:h₀.IsList a vs.toArray) (hI:IntsAre vs ns) (hn:¬ (63:Int)<ns.length)
    (post:∀ da la od vs' n ls' mx t3 h' tk',DeckIs w la od vs' ls' mx t3→Fr h₀ L h' m→News h₀ L h' ((da,od)::(la,listOf vs'.toArray n)::R)→@Ne Nat da la→(∀ p∈R,p.1≠da)→(∀ p∈R,p.1≠la)→(da==sysModules)=false→Q (.ref da) { s with heap:=h',toks:=tk' }) :
    wpAny (model rw_on0273_01.row.prog w) (AR 800 8000) (call (.ref 753) [.ref a]) Q E s:=by
  refine wpAny_call ?_
  k_enter
  (with_reducible rename Heap.StaysIn _ _=>lS)
  obtain ⟨o1,hL1,hL2⟩:=hL
  have hLL:Heap.IsList _ a vs.toArray:=⟨o1,lS _ _ hL1,hL2⟩
  clear lS hL1 hL2
  have mk6:Mk 6:=⟨⟩
  k_with "eval ListComp"=>((with_reducible rename Mk 6=>mk6); refine bM ?_)
  k_steps
  refine bP ?_
  (with_reducible rename Fr _ _ _ _=>lF)
  refine d7 lF (by with_unfolding_all rfl) (by decide) (by rfl) (by decide) (by rfl) ?_ (by intro _; rfl)
  k_steps
  refine bP ?_
  rename IntsAre _ (List.take 40 ns)=>hT
  have hTl:=IntsAre.length hT
  refine LCg.CompSrc.ledger (by rfl) (by assumption) (by assumption) (by k_mem) (by simp only [List.size_toArray,sizeLine_eq]; exact lin (.c _ (.c _ (.c _ .z))) (.c (.v 0) (.v 1) (.c (.v 2) (.v 0) (.c (.v 1) (.k 40) .z))) (.v 2) (.k 16777216) rfl (cb (by assumption)) (cb hTl) (Nat.min_le_left _ _)) (fun g=>?_)
  rw [List.size_toArray]
  suffices rest:∀ j i ys,i+j=(List.take 40 ns).length→(∃ zs,IntsAre ys zs∧∀ z∈zs,0≤z∧z<1000003)→ys.length=i→LCg.CompRest _ _ _ _ _ _ _ _ _ _ _ _ _ _ _ j i ys _ from by rw [hTl]; exact rest _ 0 [] (by exact Nat.le_antisymm (lin (.c _ .z) .z (.a (.k 0) (.v 0)) (.v 0) rfl ) (lin (.c _ .z) .z (.v 0) (.a (.k 0) (.v 0)) rfl )) ⟨[],.nil,fun _ h=>nomatch h⟩ rfl
  intro j
  induction j with
  | succ j ih=>
    intro i ys hi hys hyl
    refine LCg.CompRest.succ fun v I oI C oC D m₂ h tk E' hp hoC hm₂ FC NC off hne=>?_
    obtain ⟨x,t,rfl⟩:=ql hT (by simpa using hp)
    k_steps
    obtain ⟨zs,hz,hb⟩:=hys
    refine LCg.CompEnd.intro FC NC _ (fun p hp=>hp) off (Or.inr ⟨_,by k_mem,rfl,_,rfl⟩) ?_
    refine ih (i+1) _ (by exact Nat.le_antisymm (lin (.c _ (.c _ (.c _ .z))) (.c (.a (.v 1) (.a (.v 2) (.k 1))) (.v 0) .z) (.a (.a (.v 1) (.k 1)) (.v 2)) (.v 0) rfl (cb hi)) (lin (.c _ (.c _ (.c _ .z))) (.c (.v 0) (.a (.v 1) (.a (.v 2) (.k 1))) .z) (.v 0) (.a (.a (.v 1) (.k 1)) (.v 2)) rfl (cr hi))) ⟨zs++[x.fmod 1000003],ints_snoc hz _ _,fun z h=>?_⟩ (by rw [List.length_append,hyl]; rfl)
    rcases List.mem_append.mp h with h | h
    · exact hb z h
    · rw [List.mem_singleton.mp h,Int.fmod_eq_emod_of_nonneg _ (by exact ax .z .z .z (.k 0) (.k 1000003) rfl )]
      exact ⟨ax .z (.c _ .z) (.c (.k 0) (.v 0) .z) (.k 0) (.v 0) rfl (xa _ (n:=1000003) rfl),ax .z (.c _ .z) (.c (.a (.v 0) (.k 1)) (.k 1000003) .z) (.a (.v 0) (.k 1)) (.k 1000003) rfl (xu _ (n:=1000003) rfl)⟩
  | zero=>
    intro i ys hi hys hyl
    obtain ⟨zs,hz,hb⟩:=hys
    refine LCg.CompRest.zero ?_
    intro D h tk FD ND offD
    k_with "pyIter ref"=>((with_reducible rename Mk 6=>mk6); k_state (fun pre m=>0≤m∧m<1000003) "mixed")
    k_steps
    (with_reducible rename News _ _ _ _=>lN)
    (with_reducible rename Fr _ _ _ _=>lF)
    (with_reducible rename Obj.IsDictOf _ _ _=>lD)
    (with_reducible rename (_==sysModules)=false=>lo)
    (with_reducible rename @LT.lt Nat _ _ _∧_=>lt)
    refine post _ D _ ys ys.length zs _ _ _ _ ⟨lD,hz,hb,by assumption,by assumption,by exact lin (.c _ (.c _ (.c _ (.c _ (.c _ .z))))) (.c (.v 0) (.v 1) (.c (.a (.v 2) (.k 0)) (.v 0) (.c (.v 3) (.v 2) (.c (.v 4) (.v 3) (.c (.v 1) (.k 40) .z))))) (.v 4) (.k 64) rfl (cb (by assumption)) (cb hi) (cb hyl) (cr kLen) (Nat.min_le_left _ _)⟩ lF (ag lN ?_) (Ne.symm (Nat.ne_of_lt lt.2.1)) (AllLt.ne lt.2.2.2) (LCg.Off1.mem' offD.2) lo
    intro p hp
    rcases List.mem_cons.mp hp with rfl | hp
    · exact .head _
    · rcases List.mem_cons.mp hp with rfl | hp
      · exact .tail _ (.tail _ (.head _))
      · exact .tail _ (.tail _ (.tail _ (.tail _ hp)))
end
section
theorem yi:True:=by
  k_with "call ref"=>(k_here; (with_reducible show wpAny _ _ (call (Value.ref 753) [_]) _ _ _); refine bM ?_)
  k_with "call ref"=>(k_here; (with_reducible show wpAny _ _ (call (Value.ref 437) _) _ _ _); refine bM ?_)
  k_with "call ref"=>(k_here; (with_reducible show wpAny _ _ (call (Value.ref 718) [_]) _ _ _); refine bM ?_)
  k_with "call ref"=>(k_here; (with_reducible show wpAny _ _ (call (Value.ref 760) [_,_]) _ _ _); refine bM ?_)
  trivial
theorem qo {w:World} {p:Program} {loose:List Str} {mean:ExcName→Option Value} {mg mb:Str→Option Value} {s:Shared} {h₀:Heap} {L:Addr} {m:Str→Option Value}
    {da la:Addr} {od:Obj} {t3 tm:Tok} {mx many:Int} {vs:List Value} {ls:List Int} {n:Nat} {J:List (Addr×Obj)} {Q E:Value→Shared→Prop}
    (F:Fr h₀ L s.heap m) (X:(Mine.hd.heap_1 w.params).In h₀) (T:Top p loose mean mg mb h₀) (N:News h₀ L s.heap ((da,od)::(la,listOf vs.toArray n)::J)) (hne:@Ne Nat da la) (D:DeckIs w la od vs ls mx t3) (lo:(da==sysModules)=false)
    (hJ:∀ p∈J,p.1≠da∧p.1≠la) (hm:0<many) (hm':many≤2000000)
    (post:∀ t h' tk' vs' n' t3' od',DeckIs w la od' vs' ls.tail (ao ls mx) t3'→Fr h₀ L h' m→News h₀ L h' ((da,od')::(la,listOf vs'.toArray n')::J)→Q (.int (aq ls mx many) t) { s with heap:=h',toks:=tk' }) :
    wpAny (model rw_on0273_01.row.prog w) (AR 800 8000) (call (.ref 760) [.ref da,.int many tm]) Q E s:=
  f9 F X T (ag N fun p hp=>by
    rcases List.mem_cons.mp hp with rfl | hp
    · exact .head _
    · rw [List.mem_singleton.mp hp]; exact .tail _ (.head _)) hne D.dict lo D.nums D.low D.m0 D.m1 D.len hm hm' fun t h' tk' vs' n' t3' od' a F' N' d b=>post t h' tk' vs' n' t3' od' (D.next d a) F' fun p hp=>by
      rcases List.mem_cons.mp hp with rfl | hp
      · exact N' _ (.head _)
      · rcases List.mem_cons.mp hp with rfl | hp
        · exact N' _ (.tail _ (.head _))
        · have z:=N p (.tail _ (.tail _ hp))
          exact ⟨b _ _ z.1 (pg (hJ p hp).1 (hJ p hp).2),z.2⟩
theorem oj {x0 t x1 x2 x3 x4 x5 x6 x7:Addr×Obj} {r:List (Addr×Obj)}:∀ p∈[x1,x2,x3,x4,x5,x6],p∈t::x1::x0::x2::x3::x4::x7::x5::x6::r:=
  fun _ h=>.tail _ (bF (A:=[x1]) (fun _ h=>.tail _ (bF (A:=[x2,x3,x4]) (fun _ h=>.tail _ (bF (A:=[x5,x6]) (B:=[]) (fun _ h=>nomatch h) h)) h)) h)
theorem qm {a b c d:Addr×Obj} {r:List (Addr×Obj)} (p:Addr×Obj) (h:p∈c::d::a::b::r):p∈a::b::c::d::r:=bL (A:=[c,d]) (B:=[a,b]) h
theorem pN {P:Params} {da la li ld fr mm jr sv ma md:Addr} {od ol x1 x2 x3 x4:Obj} {f:Nat→Tok} {n3:Nat} (n0:@Ne Nat da la) (q1:∀ q∈[(da,od),(la,ol)],q.1≠li∧q.1≠ld) (nd:[fr,mm,jr,sv,ma,md].Pairwise (·≠·))
    (off:∀ a∈[fr,mm,jr,sv,ma,md],∀ q∈[(li,x1),(ld,x2),(da,od),(la,ol)],q.1≠a) (lo:(mm==sysModules)=false) (lo2:(da==sysModules)=false) (h1:x1=instObj 437 ld) (h2:x2=ir P f) :
    bZ P ma md li ld sv mm [(fr,x3),(jr,x4),(sv,listOf #[] n3),(ma,instObj 718 md),(li,x1),(ld,x2)]∧Apart md mm da la [(fr,x3),(jr,x4),(sv,listOf #[] n3),(ma,instObj 718 md),(li,x1),(ld,x2)]:=by
  subst h1 h2
  simp only [List.pairwise_cons,List.mem_cons,List.not_mem_nil,or_false,forall_eq_or_imp,forall_eq] at nd off q1
  exact ⟨⟨.tail _ (.tail _ (.tail _ (.head _))),.tail _ (.tail _ (.tail _ (.tail _ (.head _)))),⟨f,.tail _ (.tail _ (.tail _ (.tail _ (.tail _ (.head _)))))⟩,⟨n3,.tail _ (.tail _ (.head _))⟩,fC ⟨nd.1.2.2.2.2,fC ⟨nd.2.2.1.2.2,fC ⟨nd.2.2.2.1.2,fC ⟨nd.2.2.2.2.1,fC ⟨off.2.2.2.2.2.1,fC ⟨off.2.2.2.2.2.2.1,fun _ h=>nomatch h⟩⟩⟩⟩⟩⟩,fC ⟨nd.1.1,fC ⟨Ne.symm nd.2.1.1,fC ⟨Ne.symm nd.2.1.2.1,fC ⟨Ne.symm nd.2.1.2.2.1,fC ⟨off.2.1.1,fC ⟨off.2.1.2.1,fun _ h=>nomatch h⟩⟩⟩⟩⟩⟩⟩,
    ⟨n0,off.2.2.2.2.2.2.2.1,off.2.1.2.2.1,off.2.2.2.2.2.2.2.2,off.2.1.2.2.2,Ne.symm nd.2.1.2.2.2,fC ⟨Ne.symm off.1.2.2.1,fC ⟨Ne.symm off.2.2.1.2.2.1,fC ⟨Ne.symm off.2.2.2.1.2.2.1,fC ⟨Ne.symm off.2.2.2.2.1.2.2.1,fC ⟨Ne.symm q1.1.1,fC ⟨Ne.symm q1.1.2,fun _ h=>nomatch h⟩⟩⟩⟩⟩⟩,fC ⟨Ne.symm off.1.2.2.2,fC ⟨Ne.symm off.2.2.1.2.2.2,fC ⟨Ne.symm off.2.2.2.1.2.2.2,fC ⟨Ne.symm off.2.2.2.2.1.2.2.2,fC ⟨Ne.symm q1.2.1,fC ⟨Ne.symm q1.2.2,fun _ h=>nomatch h⟩⟩⟩⟩⟩⟩,lo,lo2⟩⟩
theorem lB {w:World} (TA:b8 w 3) {p:Program} {loose:List Str} {mean:ExcName→Option Value} {mg mb:Str→Option Value} {s:Shared} {h₀:Heap} {L:Addr}
    {a:Addr} {vs:List Value} {ns:List Int} {Q:Flow→Shared→Prop}
    (F:Fr h₀ L s.heap (fun y=>[(Str.ofString "script",Value.ref a)].reverse.lookup y)) (X:(Mine.hd.heap_1 w.params).In h₀) (T:Top p loose mean mg mb h₀)
    (hLL:h₀.IsList a vs.toArray) (hI:IntsAre vs ns) (hn:¬ (63:Int)<ns.length)
    (post:∀ h' tk' m',Fr h₀ L h' m'→Q (.ret (.bool true)) { s with heap:=h',toks:=tk' }) :
    aw (model rw_on0273_01.row.prog w) (AR 310 100) (execs fn806_1.body (aa fn806_1 L)) Q (fun z_ z_=>False) s:=by
  have N:News h₀ L s.heap []:=News.nil
  show aw _ _ (execs (Stmt.Assign [_] _ _::Stmt.Assign [_] _ _::Stmt.Assign [_] _ _::_) _) _ _ _
  refine aI (aD ?_)
  k_steps
  refine bP ?_
  (with_reducible rename Fr _ _ _ _=>lF)
  (with_reducible rename News _ _ _ _=>lN)
  refine aH (A':=AR 800 8000) (oA lF (by k_asm) (by k_asm) lN hLL hI hn ?_) rfl (by k_room) rfl rfl (by k_units)
  intro da la od vs' n ls' mx t3 h' tk' D0 F' N' n0 d1 d2 lo2
  clear lF lN
  k_steps
  refine bP ?_
  (with_reducible rename Fr _ _ _ _=>lF)
  (with_reducible rename News _ _ _ _=>lN)
  refine aH (A':=AR 400 4000) (rn ⟨rfl,by decide,by decide⟩ lF (by k_asm) (by k_asm) lN ?_) rfl (by k_room) rfl rfl (by k_units)
  intro li ld fl h' tk' F' N' q0 q1
  clear lF lN
  k_steps
  refine bP ?_
  (with_reducible rename Fr _ _ _ _=>lF)
  (with_reducible rename News _ _ _ _=>lN)
  refine aH (A':=AR 400 4000) (sN ⟨rfl,by decide,by decide⟩ lF (by k_asm) (by k_asm) lN ?_) rfl (by k_room) rfl rfl (by k_units)
  intro ma md sv jr mm fr omd n1 n2 n3 h' tk' MD F' N' nd off lo
  clear lF lN
  simp only [List.cons_append,List.nil_append] at N'
  k_steps
  (with_reducible rename Fr _ _ _ _=>lF)
  (with_reducible rename News _ _ _ _=>lN)
  obtain ⟨MJ,AP⟩:=pN (x3:=listOf #[] n1) (x4:=listOf #[] n2) (n3:=n3) n0 q1 nd off lo lo2 rfl rfl
  have N1:News _ _ _ ((da,od)::(la,listOf vs'.toArray n)::(md,omd)::(mm,dictOf [] 0)::[(fr,listOf #[] n1),(jr,listOf #[] n2),(sv,listOf #[] n3),(ma,instObj 718 md),(li,instObj 437 ld),(ld,ir w.params fl)]):=ag lN (by
    intro p hp
    rcases List.mem_cons.mp hp with rfl | hp
    · k_mem
    rcases List.mem_cons.mp hp with rfl | hp
    · k_mem
    rcases List.mem_cons.mp hp with rfl | hp
    · k_mem
    rcases List.mem_cons.mp hp with rfl | hp
    · k_mem
    exact oj p hp)
  clear lN nd off q1 q0
  refine aI (aD ?_)
  k_steps
  refine bP ?_
  (with_reducible rename Fr _ _ _ _=>lF)
  (with_reducible rename News _ _ _ _=>lN)
  refine aH (A':=AR 800 8000) (qo lF (by k_asm) (by k_asm) lN n0 D0 lo2 (fC ⟨⟨Ne.symm AP.n1,Ne.symm AP.n3⟩,fC ⟨⟨Ne.symm AP.n2,Ne.symm AP.n4⟩,fun p hp=>⟨AP.jda p hp,AP.jla p hp⟩⟩⟩) (by decide) (by decide) ?_) rfl (by k_room) rfl rfl (by k_units)
  intro t4 h' tk' vs2 n4 t5 od2 D2 F' N'
  clear lF lN
  k_steps
  refine aI ?_
  refine fO ?_ (by rfl) (by rfl)
  refine fA ?_ (by rfl)
  k_steps
  refine bf ?_
  refine aD (bH ?_ (by rfl))
  k_steps
  refine cy (a:=777) (K:=Mine.hd.heap_1 w.params) (by k_asm) (by k_asm) (by k_is) rfl ?_
  (with_reducible rename Fr _ _ _ _=>lF)
  (with_reducible rename News _ _ _ _=>lN)
  refine' bq (TA rfl lF (by k_asm) (by k_asm) (ag lN qm) D2 MJ MD AP rO (by decide) (by decide) (by decide) (by decide) (by decide) ?post) rfl ?a rfl rfl ?c
  case a=>k_room
  case c=>k_units
  case post=>
    intro tp nt made tree t Rn od2 vs2 ls2 n2 mx2 t32 omd2 om2 es2 used2 last2 h2 tk2 hto hTh hTr htp F2 NR N2 D2 MD2 hom2 hes2 hu2' hl2' hov b2
    clear lF lN N2
    obtain ⟨ma',rfl⟩:∃ a,made=.ref a:=by cases hTh <;> exact ⟨_,rfl⟩
    obtain ⟨tr',rfl⟩:∃ a,tree=.ref a:=by cases hTr <;> exact ⟨_,rfl⟩
    k_steps
    refine aD ?_
    (with_reducible rename Fr _ _ _ _=>lF)
    (with_reducible rename News _ _ _ _=>lN)
    rcases tree_kind hTr with ⟨a',k,tk,vs,n,e,hm,hk⟩ | ⟨ts,r,x,p,a',tk,v1,n,rfl,e,hm⟩
    · cases e
      refine aH (A':=AR 400 4000) (iI lF (by k_asm) (by k_asm) lN ⟨hto,hTh,hTr⟩ hm hk (by exact rfl) (by exact rfl) (by exact rfl) ?_) rfl (by k_room) rfl rfl (by k_units)
      exact post
    · cases e
      refine aH (A':=AR 400 4000) (mP lF (by k_asm) (by k_asm) lN ⟨hto,hTh,hTr⟩ hm (by exact rfl) (by exact rfl) (by exact rfl) ?_) rfl (by k_room) rfl rfl (by k_units)
      exact post
end
section
theorem iy (P:Params):ai P fn806_1:=by
  refine' ai.of 806 rfl ?h ?b (by kernel_rfl) (by kernel_rfl) rfl
  case h=>k_is
  case b=>
    intro s vs hl hX
    obtain ⟨x0,rfl⟩:=bK hl
    exact ⟨[],rfl,BindsTo.of_eq (by kernel_rfl)⟩
theorem kJ {w:World} {p:Program} {loose:List Str} {mean:ExcName→Option Value} {mg mb:Str→Option Value} {A:Around} {s:Shared} {v:Value} {Q:Value→Shared→Prop} (X:(Mine.hd.heap_1 w.params).In s.heap) (T:Top p loose mean mg mb s.heap) (hroom:A.depth<recursionLimit)
    (h:∀ L h₁ tk,Fr s.heap L h₁ (fun y=>[(Str.ofString "script",v)].reverse.lookup y)→aw (model PG w) (A.deeper (aa fn806_1 L)) (execs fn806_1.body (aa fn806_1 L)) (fun fl s'=>Q (match fl with | .ret v=>v | _=>.none) s') (fun z_ z_=>False) { s with heap:=h₁,toks:=tk }) :
    aw (model PG w) A (call (.ref 806) [v]) Q (fun z_ z_=>False) s:=by
  obtain ⟨⟨D,hb⟩,hcd,hok,_⟩:=iy w.params
  simp only [Bool.and_eq_true,beq_iff_eq,List.all_eq_true,bne_iff_ne] at hok
  obtain ⟨⟨⟨⟨o1,o2⟩,o3⟩,o4⟩,o5⟩:=hok
  obtain ⟨ex,hx,hbi⟩:=hb s [v] rfl X
  obtain rfl:ex=[]:=hx
  refine bi (bI (body:=fn806_1.body) hroom (X 806 _ D.ho) rfl o1 o2 rfl (codeRec_of X hcd) (hbi _ _ _ _ ?_))
  refine wpAny_newFunctionEnv o4 (fun y hy=>?_) (fun h₁ hns hsb=>⟨T.nolimit.fresh _ hsb,cQ ?_⟩) o3
  · refine o5 _ ?_
    rcases List.mem_append.mp hy with q | q
    · exact List.mem_append_left _ (List.of_mem_zip q).1
    · exact List.mem_append_right _ (List.of_mem_zip q).1
  · exact h _ h₁ _ ⟨hns,fun b o e=>hsb.extBut b o (Nat.ne_of_lt (Heap.lt_size e)) (Heap.get?_push_of_some _ e),Nat.le_refl _⟩
theorem nV (TA:∀ w,b8 w 3):PySem.Challenge.rw_on0273_01.Holds:=by
  w_on
  refine holds_law Y.saidP fun z_=>?_
  refine Y.headP (H:=kHook hd.heap_1 ((hd.heap_1 { strHash:=fun z_=>0,shareClass:=fun z_=>0,mergeTok:=id,idOf:=fun z_=>0,idOfShared:=fun z_ z_=>0,followText:=fun z_=>false,idOfImm:=fun z_=>0 }).map (·.1)) (fun z_=>by kernel_rfl)) (Y.leftP ?hl) (by rfl) (by rfl) (by rfl) (row_said Y.saidP) ?hw ?hc
  case hl=>kernel_rfl
  case hw=>w_witness2
  intro w s₀ s₁ mg mb G Y fa o pm cd doc dV kV ho hd' hcd hD hmg hg args vals as hpre hlay hrd hwl hlo
  have KX:=kIn_of Y
  refine Ground.open G ?_
  intro T B D TE TW
  wrow_args hpre hlay hrd hwl hlo
  clear TW TE D B
  obtain rfl:fa=806:=by
    have e:=mg_of (n:=Str.ofString "law") (v:=.ref 806) KX T.g (by kernel_rfl)
    have e2:=hmg.symm.trans e
    cases e2
    rfl
  refine kJ KX T (by decide) fun L h₁ tk F=>?_
  refine bq (lB (TA w) F KX T (by assumption) (by assumption) (by assumption) ?post) rfl (Nat.le_of_ble_eq_true rfl) rfl rfl (Nat.le_of_ble_eq_true rfl)
  case post=>
    intro h' tk' m' F'
    refine ⟨.inl ⟨_,ofPy (.bool true),[],rfl,?_,?_,?_,?_⟩,OldK.of_keep F'.keep,rfl,?_⟩
    · first | exact fun z_=>rfl | exact raisesW_false (by wrow_none_raised)
    · show ReadsW _ _ _ (Value.bool true) _ _
      first | exact readsW_of_reads .bool | w_reads
    · first | exact postW_of (by wrow_shape) (by wtm_val) (by w_fin) | rfl
    · exact unshared_nil
    · show AllBare s₁.gens
      row_bare
end
section
theorem whole:PySem.Challenge.rw_on0273_01.Holds:=nV fun w=>mr w 3 (Nat.le_refl 3)
#print axioms whole
end
end Mine
theorem PySem.Challenge.cw_on0273_01_holds : PySem.Challenge.rw_on0273_01.Holds :=
  Mine.whole

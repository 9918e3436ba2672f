import PyProof.Rows.All
import Wide.All
import OpenK.AllK
import Wide.FinOn
import Lean
import PySem.Challenge.RW_no0322_01
open PySem PySem.W PySem.Calls PyProof.Rows
set_option Elab.async false
set_option genCtorIdx false
set_option genSizeOf false
set_option genInjectivity false
set_option bootstrap.genMatcherCode false
set_option linter.unusedVariables false
set_option maxRecDepth 1000000
set_option maxHeartbeats 0
namespace Mine.Internal
noncomputable section
noncomputable abbrev pw:Program:=PySem.Challenge.rw_no0322_01.row.prog
def fT(i:Nat):Stmt:=(pw.main.body[i]?).getD (.Pass default)
def fM(i j:Nat):Stmt:=match fT i with
 |.ClassDef _ _ _ b _ _ _ _ _ _ _=>(b[j]?).getD (.Pass default)
 |s=>s
noncomputable def TG:Stmt->Str×Arguments×List Stmt×Scope
 |.FunctionDef n a b _ _ _ sc _ _ _=>(n,a,b,sc)
 |_=>default
def My(s:Stmt):List Stmt:=(TG s).2.2.1
def Gu(s:Stmt):Scope:=(TG s).2.2.2
def fd(s:Stmt)(q:Str):FuncData:={name:=(TG s).1,qualname:=q,params:=(TG s).2.1,body:=.stmts (My s),scope:=Gu s,globals:=0,closure:=[],defaults:=.none,kwdefaults:=.none}
noncomputable def sv(s:Str)(n:Nat):Value:=.str s n
noncomputable def iv(i:Int)(n:Nat):Value:=.int i n
noncomputable def rf(a:Nat):Value:=.ref a
noncomputable def ty(s:String):Value:=.type s
noncomputable abbrev vn:Value:=.none
def de(P:Params)(k:Str)(n:Nat)(v:Value):DictEntry:=⟨PyData.keyHash P k,sv k n,v⟩
def oT(vs:List Value):Obj:={cls:=ty "tuple",data:=.seq ⟨vs⟩}
noncomputable abbrev OP:Type:=Params->Obj
noncomputable def jZ:Nat->List Str->List Value
 |_,[]=>[]
 |n,a::r=>sv a n::jZ (n+1) r
def oV(n:Nat)(l:List Str):Obj:=oT (jZ n l)
def oF(vs:List Value):Obj:={cls:=vn,data:=.fields ⟨vs⟩}
def oC(a b:Str)(n l k f:Nat)(v:Value)(c:Bool)(r:List Value)(m:Nat):Obj:={cls:=ty "code",data:=.fields ⟨[sv a n,sv b (n+1),sv "/claim/cut.py" (n+2),iv l 0,iv k 0,iv 0 0,iv 0 0,iv f 0,v,.bool c,iv 181 0]++(r++[iv m 0,iv l 0,sv "/claim/cut.py" (m+1)])⟩}
def oS(s:Stmt)(q:Str):Obj:={cls:=vn,data:=.func (fd s q)}
def oD(s:Stmt)(q:Str)(m:Str)(n c:Nat):Obj:={cls:=ty "function",data:=.func {fd s q with globals:=3,pyModule:=sv m n,code:=rf c}}
def oX(v:Value)(s:Stmt)(q:Str)(f:FuncData->FuncData):Obj:={cls:=v,data:=.func (f (fd s q))}
noncomputable abbrev TR:Type:=Params->BT
noncomputable def nl:TR:=λ_=>.nil
noncomputable def nd(o:OP)(l r:TR):TR:=λP=>.node (o P) (l P) (r P)
def d6(n:Nat):List Value:=[rf n,vn,vn,vn,vn]
def CW(n:Nat):List Value:=[rf n,vn,rf (n+1),rf (n+2),rf (n+3)]
def LO(n:Nat):List Value:=[rf n,vn,vn,vn,rf (n+1)]
def AD:OP:=λP=>oT []
def BF:OP:=λP=>oF []
def d7:OP:=λP=>oC "<module>" "<module>" 182 1 0 0 (rf 11) false (d6 12) 185
def d8:OP:=λP=>{cls:=ty "frame",slots:=#[some (rf 13),some (rf 3),some (rf 3),none,some (sv "__main__" 164),none,some (rf 0)]}
def d9:OP:=λP=>oV 190 ["k"]
def iK:OP:=λP=>oS (fT 0) "_wall"
def eB:OP:=λP=>oC "_wall" "_wall" 187 1 1 3 (rf 15) true (CW 16) 191
def eC:OP:=λP=>oD (fT 0) "_wall" "__main__" 164 20
def eD:OP:=λP=>oV 199 ["found","low","high"]
def iL:OP:=λP=>oS (fT 2) "put_behind"
def eE:OP:=λP=>oC "put_behind" "put_behind" 196 5 3 3 (rf 22) true (CW 23) 202
def eF:OP:=λP=>oD (fT 2) "put_behind" "fdsolve.domains" 194 27
def eG:OP:=λP=>oV 208 ["numbers","found","v"]
def iM:OP:=λP=>oS (fT 3) "from_values"
def eH:OP:=λP=>oC "from_values" "from_values" 205 11 1 3 (rf 29) true (CW 30) 211
def eI:OP:=λP=>oD (fT 3) "from_values" "fdsolve.domains" 194 34
def eJ:OP:=λP=>oV 217 ["d"]
def iN:OP:=λP=>oS (fT 4) "least"
def eK:OP:=λP=>oC "least" "least" 214 16 1 3 (rf 36) true (CW 37) 218
def eL:OP:=λP=>oD (fT 4) "least" "fdsolve.domains" 194 41
def eM:OP:=λP=>oV 224 ["d"]
def iO:OP:=λP=>oS (fT 5) "greatest"
def eN:OP:=λP=>oC "greatest" "greatest" 221 18 1 3 (rf 43) true (CW 44) 225
def eO:OP:=λP=>oD (fT 5) "greatest" "fdsolve.domains" 194 48
def eP:OP:=λP=>oV 231 ["d","v","low","high"]
def iP:OP:=λP=>oS (fT 6) "next_from"
def eQ:OP:=λP=>oC "next_from" "next_from" 228 20 2 3 (rf 50) true (CW 51) 235
def eR:OP:=λP=>oD (fT 6) "next_from" "fdsolve.domains" 194 55
def eS:OP:=λP=>oV 241 ["d","v"]
def iQ:OP:=λP=>oS (fT 7) "has"
def eT:OP:=λP=>oC "has" "has" 238 25 2 3 (rf 57) true (CW 58) 243
def eU:OP:=λP=>oD (fT 7) "has" "fdsolve.domains" 194 62
def VE:OP:=λP=>oV 250 ["d","found","low","high"]
def XW:OP:=λP=>oS (fT 9) "values"
def VF:OP:=λP=>oC "values" "values" 247 28 1 3 (rf 64) true (CW 65) 254
def VG:OP:=λP=>oD (fT 9) "values" "fdsolve.domains" 194 69
def XX:OP:=λP=>oS (fT 10) "up_to"
def VH:OP:=λP=>oC "up_to" "up_to" 257 33 2 3 (rf 71) true (LO 72) 260
def VI:OP:=λP=>oD (fT 10) "up_to" "fdsolve.domains" 194 74
def XY:OP:=λP=>oS (fT 11) "from_on"
def VJ:OP:=λP=>oC "from_on" "from_on" 263 35 2 3 (rf 76) true (LO 77) 266
def VK:OP:=λP=>oD (fT 11) "from_on" "fdsolve.domains" 194 79
def VL:OP:=λP=>oV 272 ["d","v"]
def XZ:OP:=λP=>oS (fT 12) "without"
def VM:OP:=λP=>oC "without" "without" 269 37 2 3 (rf 81) true (CW 82) 274
def VN:OP:=λP=>oD (fT 12) "without" "fdsolve.domains" 194 86
def VO:OP:=λP=>oV 280 ["d","e","found","i","j","low","high"]
def Xb:OP:=λP=>oS (fT 13) "meet"
def VP:OP:=λP=>oC "meet" "meet" 277 39 2 3 (rf 88) true (CW 89) 287
def VQ:OP:=λP=>oD (fT 13) "meet" "fdsolve.domains" 194 93
def ib:OP:=λP=>{cls:=ty "dict",data:=Data.dict #[de P "__name__" 165 (sv "fdsolve.store" 319),de P "__doc__" 166 (vn),de P "__package__" 167 (vn),de P "__loader__" 168 (Value.builtin "__main__.__loader__#opaque"),de P "__spec__" 169 (vn),de P "__annotations__" 170 (rf 6),de P "__builtins__" 171 (rf 4),de P "__file__" 173 (sv "/claim/cut.py" 172),de P "__cached__" 174 (vn),de P "_wall" 193 (rf 21),de P "put_behind" 204 (rf 28),de P "from_values" 213 (rf 35),de P "least" 220 (rf 42),de P "greatest" 227 (rf 49),de P "next_from" 237 (rf 56),de P "has" 245 (rf 63),de P "has_domains" 246 (rf 63),de P "values" 256 (rf 70),de P "up_to" 262 (rf 75),de P "from_on" 268 (rf 80),de P "without" 276 (rf 87),de P "meet" 289 (rf 94),de P "negation" 299 (rf 101),de P "struck" 309 (rf 108),de P "said_of" 318 (rf 115)] 25}
def ic:OP:=λP=>oF [iv 1 0,iv 0 0,rf 20,iv 5 0,iv 0 0,rf 27,iv 11 0,iv 0 0,rf 34,iv 16 0,iv 0 0,rf 41,iv 18 0,iv 0 0,rf 48,iv 20 0,iv 0 0,rf 55,iv 25 0,iv 0 0,rf 62,iv 28 0,iv 0 0,rf 69,iv 33 0,iv 0 0,rf 74,iv 35 0,iv 0 0,rf 79,iv 37 0,iv 0 0,rf 86,iv 39 0,iv 0 0,rf 93,iv 50 0,iv 0 0,rf 100,iv 57 0,iv 0 0,rf 107,iv 64 0,iv 0 0,rf 114]
def VR:OP:=λP=>oV 293 ["literal","x","sign","k"]
def Xc:OP:=λP=>oS (fT 14) "negation"
def VS:OP:=λP=>oC "negation" "negation" 290 50 1 3 (rf 95) true (CW 96) 297
def VT:OP:=λP=>oD (fT 14) "negation" "fdsolve.domains" 194 100
def VU:OP:=λP=>oV 303 ["literal","d","sign","k"]
def Xd:OP:=λP=>oS (fT 15) "struck"
def VV:OP:=λP=>oC "struck" "struck" 300 57 2 3 (rf 102) true (CW 103) 307
def VW:OP:=λP=>oD (fT 15) "struck" "fdsolve.domains" 194 107
def VX:OP:=λP=>oV 313 ["literal","d","kept"]
def Xe:OP:=λP=>oS (fT 16) "said_of"
def VY:OP:=λP=>oC "said_of" "said_of" 310 64 2 3 (rf 109) true (CW 110) 316
def VZ:OP:=λP=>oD (fT 16) "said_of" "fdsolve.domains" 194 114
def Pd:OP:=λP=>{cls:=ty "builtin_function_or_method",data:=Data.fields #[Value.builtin "type.__prepare__",ty "type"]}
def bB:OP:=λP=>{cls:=ty "dict",data:=Data.dict #[de P "__module__" 328 (sv "fdsolve.store" 319),de P "__qualname__" 330 (sv "Store" 329),de P "__firstlineno__" 332 (iv 70 331),de P "__init__" 339 (rf 129),de P "new_var" 347 (rf 136),de P "size" 354 (rf 143),de P "dom" 362 (rf 150),de P "initial" 370 (rf 157),de P "low" 378 (rf 164),de P "high" 386 (rf 171),de P "has" 395 (rf 178),de P "is_fixed" 404 (rf 185),de P "value" 412 (rf 192),de P "width" 420 (rf 199),de P "holds" 428 (rf 206),de P "enter" 441 (rf 213),de P "strike" 450 (rf 220),de P "decide" 458 (rf 227),de P "fail" 466 (rf 234),de P "push" 473 (rf 241),de P "pop" 483 (rf 248),de P "depth" 490 (rf 255),de P "changed" 497 (rf 262),de P "__static_attributes__" 506 (rf 263)] 24}
def bC:OP:=λP=>oF [iv 72 0,iv 4 0,rf 128,iv 82 0,iv 4 0,rf 135,iv 89 0,iv 4 0,rf 142,iv 92 0,iv 4 0,rf 149,iv 95 0,iv 4 0,rf 156,iv 98 0,iv 4 0,rf 163,iv 101 0,iv 4 0,rf 170,iv 104 0,iv 4 0,rf 177,iv 107 0,iv 4 0,rf 184,iv 111 0,iv 4 0,rf 191,iv 114 0,iv 4 0,rf 198,iv 117 0,iv 4 0,rf 205,iv 120 0,iv 4 0,rf 212,iv 133 0,iv 4 0,rf 219,iv 136 0,iv 4 0,rf 226,iv 139 0,iv 4 0,rf 233,iv 144 0,iv 4 0,rf 240,iv 147 0,iv 4 0,rf 247,iv 159 0,iv 4 0,rf 254,iv 162 0,iv 4 0,rf 261]
def bD:OP:=λP=>oC "Store" "Store" 323 70 0 0 (rf 119) false (d6 120) 326
def bE:OP:=λP=>{cls:=ty "frame",slots:=#[some (rf 121),some (rf 3),some (rf 118),none,some (sv "fdsolve.store" 319),none,some (rf 0)]}
def Xf:OP:=λP=>oV 336 ["self"]
def bF:OP:=λP=>oS (fM 18 0) "Store.__init__"
def Xg:OP:=λP=>oC "__init__" "Store.__init__" 333 72 1 3 (rf 123) true (CW 124) 337
def Xh:OP:=λP=>oD (fM 18 0) "Store.__init__" "fdsolve.store" 319 128
def Xi:OP:=λP=>oV 343 ["self","domain"]
def bG:OP:=λP=>oS (fM 18 1) "Store.new_var"
def Xj:OP:=λP=>oC "new_var" "Store.new_var" 340 82 2 3 (rf 130) true (CW 131) 345
def Xk:OP:=λP=>oD (fM 18 1) "Store.new_var" "fdsolve.store" 319 135
def Xl:OP:=λP=>oV 351 ["self"]
def bH:OP:=λP=>oS (fM 18 2) "Store.size"
def Xm:OP:=λP=>oC "size" "Store.size" 348 89 1 3 (rf 137) true (CW 138) 352
def Xn:OP:=λP=>oD (fM 18 2) "Store.size" "fdsolve.store" 319 142
def Xo:OP:=λP=>oV 358 ["self","x"]
def bI:OP:=λP=>oS (fM 18 3) "Store.dom"
def Xp:OP:=λP=>oC "dom" "Store.dom" 355 92 2 3 (rf 144) true (CW 145) 360
def Xq:OP:=λP=>oD (fM 18 3) "Store.dom" "fdsolve.store" 319 149
def Xr:OP:=λP=>oV 366 ["self","x"]
def bJ:OP:=λP=>oS (fM 18 4) "Store.initial"
def Xu:OP:=λP=>oC "initial" "Store.initial" 363 95 2 3 (rf 151) true (CW 152) 368
def Xv:OP:=λP=>oD (fM 18 4) "Store.initial" "fdsolve.store" 319 156
def Xw:OP:=λP=>oV 374 ["self","x"]
def bM:OP:=λP=>oS (fM 18 5) "Store.low"
def Xx:OP:=λP=>oC "low" "Store.low" 371 98 2 3 (rf 158) true (CW 159) 376
def Xy:OP:=λP=>oD (fM 18 5) "Store.low" "fdsolve.store" 319 163
def Xz:OP:=λP=>oV 382 ["self","x"]
def bN:OP:=λP=>oS (fM 18 6) "Store.high"
def X9:OP:=λP=>oC "high" "Store.high" 379 101 2 3 (rf 165) true (CW 166) 384
def YA:OP:=λP=>oD (fM 18 6) "Store.high" "fdsolve.store" 319 170
def YB:OP:=λP=>oV 390 ["self","x","v"]
def bO:OP:=λP=>oS (fM 18 7) "Store.has"
def YC:OP:=λP=>oC "has" "Store.has" 387 104 3 3 (rf 172) true (CW 173) 393
def YD:OP:=λP=>oD (fM 18 7) "Store.has" "fdsolve.store" 319 177
def YE:OP:=λP=>oV 399 ["self","x","domain"]
def bP:OP:=λP=>oS (fM 18 8) "Store.is_fixed"
def YF:OP:=λP=>oC "is_fixed" "Store.is_fixed" 396 107 2 3 (rf 179) true (CW 180) 402
def YG:OP:=λP=>oD (fM 18 8) "Store.is_fixed" "fdsolve.store" 319 184
def YH:OP:=λP=>oV 408 ["self","x"]
def bQ:OP:=λP=>oS (fM 18 9) "Store.value"
def YI:OP:=λP=>oC "value" "Store.value" 405 111 2 3 (rf 186) true (CW 187) 410
def YJ:OP:=λP=>oD (fM 18 9) "Store.value" "fdsolve.store" 319 191
def YK:OP:=λP=>oV 416 ["self","x"]
def bR:OP:=λP=>oS (fM 18 10) "Store.width"
def YL:OP:=λP=>oC "width" "Store.width" 413 114 2 3 (rf 193) true (CW 194) 418
def YM:OP:=λP=>oD (fM 18 10) "Store.width" "fdsolve.store" 319 198
def YN:OP:=λP=>oV 424 ["self","literal"]
def bS:OP:=λP=>oS (fM 18 11) "Store.holds"
def YO:OP:=λP=>oC "holds" "Store.holds" 421 117 2 3 (rf 200) true (CW 201) 426
def YQ:OP:=λP=>oD (fM 18 11) "Store.holds" "fdsolve.store" 319 205
def YR:OP:=λP=>oV 432 ["self","literal","reasons","speaker","x","old","fresh"]
def bT:OP:=λP=>oS (fM 18 12) "Store.enter"
def YS:OP:=λP=>oC "enter" "Store.enter" 429 120 4 3 (rf 207) true (CW 208) 439
def YT:OP:=λP=>oD (fM 18 12) "Store.enter" "fdsolve.store" 319 212
def YU:OP:=λP=>oV 445 ["self","literal","reasons"]
def bU:OP:=λP=>oS (fM 18 13) "Store.strike"
def YV:OP:=λP=>oC "strike" "Store.strike" 442 133 3 3 (rf 214) true (CW 215) 448
def YW:OP:=λP=>oD (fM 18 13) "Store.strike" "fdsolve.store" 319 219
def YX:OP:=λP=>oV 454 ["self","literal"]
def bV:OP:=λP=>oS (fM 18 14) "Store.decide"
def YY:OP:=λP=>oC "decide" "Store.decide" 451 136 2 3 (rf 221) true (CW 222) 456
def YZ:OP:=λP=>oD (fM 18 14) "Store.decide" "fdsolve.store" 319 226
def Yb:OP:=λP=>oV 462 ["self","reasons"]
def bW:OP:=λP=>oS (fM 18 15) "Store.fail"
def Yc:OP:=λP=>oC "fail" "Store.fail" 459 139 2 3 (rf 228) true (CW 229) 464
def Yd:OP:=λP=>oD (fM 18 15) "Store.fail" "fdsolve.store" 319 233
def Ye:OP:=λP=>oV 470 ["self"]
def bX:OP:=λP=>oS (fM 18 16) "Store.push"
def Yg:OP:=λP=>oC "push" "Store.push" 467 144 1 3 (rf 235) true (CW 236) 471
def Yh:OP:=λP=>oD (fM 18 16) "Store.push" "fdsolve.store" 319 240
def Yi:OP:=λP=>oV 477 ["self","n","mark","entry"]
def bY:OP:=λP=>oS (fM 18 17) "Store.pop"
def Yj:OP:=λP=>oC "pop" "Store.pop" 474 147 2 3 (rf 242) true (CW 243) 481
def Yk:OP:=λP=>oD (fM 18 17) "Store.pop" "fdsolve.store" 319 247
def Yl:OP:=λP=>oV 487 ["self"]
def bZ:OP:=λP=>oS (fM 18 18) "Store.depth"
def Ym:OP:=λP=>oC "depth" "Store.depth" 484 159 1 3 (rf 249) true (CW 250) 488
def Yn:OP:=λP=>oD (fM 18 18) "Store.depth" "fdsolve.store" 319 254
def Yo:OP:=λP=>oV 494 ["self"]
def ba:OP:=λP=>oS (fM 18 19) "Store.changed"
def Yp:OP:=λP=>oC "changed" "Store.changed" 491 162 1 3 (rf 256) true (CW 257) 495
def Yq:OP:=λP=>oD (fM 18 19) "Store.changed" "fdsolve.store" 319 261
def Yr:OP:=λP=>oV 498 ["clash","domains","firsts","is_failed","marks","news","speaker","trail"]
def Ys:OP:=λP=>{cls:=ty "dict",data:=Data.dict #[de P "__module__" 328 (sv "fdsolve.store" 319),de P "__firstlineno__" 332 (iv 70 331),de P "__init__" 339 (rf 129),de P "new_var" 347 (rf 136),de P "size" 354 (rf 143),de P "dom" 362 (rf 150),de P "initial" 370 (rf 157),de P "low" 378 (rf 164),de P "high" 386 (rf 171),de P "has" 395 (rf 178),de P "is_fixed" 404 (rf 185),de P "value" 412 (rf 192),de P "width" 420 (rf 199),de P "holds" 428 (rf 206),de P "enter" 441 (rf 213),de P "strike" 450 (rf 220),de P "decide" 458 (rf 227),de P "fail" 466 (rf 234),de P "push" 473 (rf 241),de P "pop" 483 (rf 248),de P "depth" 490 (rf 255),de P "changed" 497 (rf 262),de P "__static_attributes__" 506 (rf 263),de P "__dict__" 508 (rf 266),de P "__weakref__" 510 (rf 267),de P "__doc__" 511 (vn)] 4}
def Yt:OP:=λP=>{cls:=ty "type",data:=Data.cls {name:="Store",bases:=[ty "object"],mro:=[rf 265,ty "object"],ns:=264,qualname:="Store"},slots:=#[none,none,some (sv "Store" 321),some (sv "Store" 329),some (Value.builtin "object.__new__"),some (Value.bool true)]}
def Yu:OP:=λP=>{cls:=ty "getset_descriptor",data:=Data.fields #[sv "__dict__" 507,rf 265,Value.builtin "function.__dict__",Value.builtin "function.__dict__#set"]}
def Yv:OP:=λP=>{cls:=ty "getset_descriptor",data:=Data.fields #[sv "__weakref__" 509,rf 265,Value.builtin "ExceptionGroup.__weakref__",vn]}
def bc:OP:=λP=>{cls:=ty "super",data:=Data.fields #[rf 265,rf 265,rf 265]}
def bd:OP:=λP=>{cls:=ty "builtin_function_or_method",data:=Data.fields #[Value.builtin "object.__init_subclass__",rf 265]}
def ie:OP:=λP=>{cls:=ty "dict",data:=Data.dict #[de P "__name__" 165 (sv "fdsolve.order" 569),de P "__doc__" 166 (vn),de P "__package__" 167 (vn),de P "__loader__" 168 (Value.builtin "__main__.__loader__#opaque"),de P "__spec__" 169 (vn),de P "__annotations__" 170 (rf 6),de P "__builtins__" 171 (rf 4),de P "__file__" 173 (sv "/claim/cut.py" 172),de P "__cached__" 174 (vn),de P "_wall" 193 (rf 21),de P "put_behind" 204 (rf 28),de P "from_values" 213 (rf 35),de P "least" 220 (rf 42),de P "greatest" 227 (rf 49),de P "next_from" 237 (rf 56),de P "has" 245 (rf 63),de P "has_domains" 246 (rf 63),de P "values" 256 (rf 70),de P "up_to" 262 (rf 75),de P "from_on" 268 (rf 80),de P "without" 276 (rf 87),de P "meet" 289 (rf 94),de P "negation" 299 (rf 101),de P "struck" 309 (rf 108),de P "said_of" 318 (rf 115),de P "Store" 513 (rf 265),de P "Propagator" 568 (rf 307)] 27}
def ig:OP:=λP=>oF [iv 1 0,iv 0 0,rf 20,iv 5 0,iv 0 0,rf 27,iv 11 0,iv 0 0,rf 34,iv 16 0,iv 0 0,rf 41,iv 18 0,iv 0 0,rf 48,iv 20 0,iv 0 0,rf 55,iv 25 0,iv 0 0,rf 62,iv 28 0,iv 0 0,rf 69,iv 33 0,iv 0 0,rf 74,iv 35 0,iv 0 0,rf 79,iv 37 0,iv 0 0,rf 86,iv 39 0,iv 0 0,rf 93,iv 50 0,iv 0 0,rf 100,iv 57 0,iv 0 0,rf 107,iv 64 0,iv 0 0,rf 114,iv 70 0,iv 0 0,rf 121,iv 164 0,iv 0 0,rf 275]
def be:OP:=λP=>{cls:=ty "dict",data:=Data.dict #[de P "__module__" 521 (sv "fdsolve.store" 319),de P "__qualname__" 523 (sv "Propagator" 522),de P "__firstlineno__" 525 (iv 164 524),de P "__init__" 534 (rf 283),de P "propagate" 542 (rf 290),de P "check" 550 (rf 297),de P "told" 557 (rf 304),de P "__static_attributes__" 561 (rf 305)] 8}
def bf:OP:=λP=>oF [iv 166 0,iv 4 0,rf 282,iv 171 0,iv 4 0,rf 289,iv 174 0,iv 4 0,rf 296,iv 177 0,iv 4 0,rf 303]
def bh:OP:=λP=>oC "Propagator" "Propagator" 516 164 0 0 (rf 273) false (d6 274) 519
def bj:OP:=λP=>{cls:=ty "frame",slots:=#[some (rf 275),some (rf 3),some (rf 272),none,some (sv "fdsolve.store" 319),none,some (rf 0)]}
def Yw:OP:=λP=>oV 529 ["self","scope","strength"]
def bl:OP:=λP=>oS (fM 19 0) "Propagator.__init__"
def Yx:OP:=λP=>oC "__init__" "Propagator.__init__" 526 166 3 3 (rf 277) true (CW 278) 532
def Yy:OP:=λP=>oD (fM 19 0) "Propagator.__init__" "fdsolve.store" 319 282
def Yz:OP:=λP=>oV 538 ["self","store"]
def bm:OP:=λP=>oS (fM 19 1) "Propagator.propagate"
def Y0:OP:=λP=>oC "propagate" "Propagator.propagate" 535 171 2 3 (rf 284) true (CW 285) 540
def Y1:OP:=λP=>oD (fM 19 1) "Propagator.propagate" "fdsolve.store" 319 289
def Y2:OP:=λP=>oV 546 ["self","values"]
def bo:OP:=λP=>oS (fM 19 2) "Propagator.check"
def Y3:OP:=λP=>oC "check" "Propagator.check" 543 174 2 3 (rf 291) true (CW 292) 548
def Y4:OP:=λP=>oD (fM 19 2) "Propagator.check" "fdsolve.store" 319 296
def Y5:OP:=λP=>oV 554 ["self"]
def bq:OP:=λP=>oS (fM 19 3) "Propagator.told"
def Y6:OP:=λP=>oC "told" "Propagator.told" 551 177 1 3 (rf 298) true (CW 299) 555
def Y7:OP:=λP=>oD (fM 19 3) "Propagator.told" "fdsolve.store" 319 303
def Y8:OP:=λP=>oV 558 ["number","scope","strength"]
def Y9:OP:=λP=>{cls:=ty "dict",data:=Data.dict #[de P "__module__" 521 (sv "fdsolve.store" 319),de P "__firstlineno__" 525 (iv 164 524),de P "__init__" 534 (rf 283),de P "propagate" 542 (rf 290),de P "check" 550 (rf 297),de P "told" 557 (rf 304),de P "__static_attributes__" 561 (rf 305),de P "__dict__" 563 (rf 308),de P "__weakref__" 565 (rf 309),de P "__doc__" 566 (vn)] 4}
def ii:OP:=λP=>{cls:=ty "type",data:=Data.cls {name:="Propagator",bases:=[ty "object"],mro:=[rf 307,ty "object"],ns:=306,qualname:="Propagator"},slots:=#[none,none,some (sv "Propagator" 514),some (sv "Propagator" 522),some (Value.builtin "object.__new__"),some (Value.bool true)]}
def ZA:OP:=λP=>{cls:=ty "getset_descriptor",data:=Data.fields #[sv "__dict__" 562,rf 307,Value.builtin "function.__dict__",Value.builtin "function.__dict__#set"]}
def ZB:OP:=λP=>{cls:=ty "getset_descriptor",data:=Data.fields #[sv "__weakref__" 564,rf 307,Value.builtin "ExceptionGroup.__weakref__",vn]}
def bt:OP:=λP=>{cls:=ty "super",data:=Data.fields #[rf 307,rf 307,rf 307]}
def bu:OP:=λP=>{cls:=ty "builtin_function_or_method",data:=Data.fields #[Value.builtin "object.__init_subclass__",rf 307]}
def ij:OP:=λP=>{cls:=ty "dict",data:=Data.dict #[de P "__name__" 165 (sv "fdsolve.order" 569),de P "__doc__" 166 (vn),de P "__package__" 167 (vn),de P "__loader__" 168 (Value.builtin "__main__.__loader__#opaque"),de P "__spec__" 169 (vn),de P "__annotations__" 170 (rf 6),de P "__builtins__" 171 (rf 4),de P "__file__" 173 (sv "/claim/cut.py" 172),de P "__cached__" 174 (vn),de P "_wall" 193 (rf 21),de P "put_behind" 204 (rf 28),de P "from_values" 213 (rf 35),de P "least" 220 (rf 42),de P "greatest" 227 (rf 49),de P "next_from" 237 (rf 56),de P "has" 245 (rf 63),de P "has_domains" 246 (rf 63),de P "values" 256 (rf 70),de P "up_to" 262 (rf 75),de P "from_on" 268 (rf 80),de P "without" 276 (rf 87),de P "meet" 289 (rf 94),de P "negation" 299 (rf 101),de P "struck" 309 (rf 108),de P "said_of" 318 (rf 115),de P "Store" 513 (rf 265),de P "Propagator" 568 (rf 307),de P "Circuit" 657 (rf 370)] 28}
def ik:OP:=λP=>oF [iv 1 0,iv 0 0,rf 20,iv 5 0,iv 0 0,rf 27,iv 11 0,iv 0 0,rf 34,iv 16 0,iv 0 0,rf 41,iv 18 0,iv 0 0,rf 48,iv 20 0,iv 0 0,rf 55,iv 25 0,iv 0 0,rf 62,iv 28 0,iv 0 0,rf 69,iv 33 0,iv 0 0,rf 74,iv 35 0,iv 0 0,rf 79,iv 37 0,iv 0 0,rf 86,iv 39 0,iv 0 0,rf 93,iv 50 0,iv 0 0,rf 100,iv 57 0,iv 0 0,rf 107,iv 64 0,iv 0 0,rf 114,iv 70 0,iv 0 0,rf 121,iv 164 0,iv 0 0,rf 275,iv 180 0,iv 0 0,rf 318]
def il:OP:=λP=>{cls:=ty "type",data:=Data.cls {name:="Propagator",bases:=[ty "object"],mro:=[rf 307,ty "object"],ns:=306,qualname:="Propagator",subclasses:=[rf 370]},slots:=#[none,none,some (sv "Propagator" 514),some (sv "Propagator" 522),some (Value.builtin "object.__new__"),some (Value.bool true)]}
def Va:OP:=λP=>oT [rf 307]
def eV:OP:=λP=>{cls:=ty "dict",data:=Data.dict #[de P "__module__" 578 (sv "fdsolve.order" 569),de P "__qualname__" 580 (sv "Circuit" 579),de P "__firstlineno__" 582 (iv 180 581),de P "__init__" 591 (rf 327),de P "propagate" 602 (rf 334),de P "part" 615 (rf 341),de P "open_rings" 628 (rf 348),de P "reach" 634 (rf 353),de P "check" 645 (rf 360),de P "told" 652 (rf 367),de P "__static_attributes__" 653 (rf 368),de P "__classcell__" 654 (rf 315)] 12}
def ZC:OP:=λP=>{cls:=ty "cell",data:=Data.cell (some (rf 370))}
def eW:OP:=λP=>oF [iv 182 0,iv 4 0,rf 326,iv 185 0,iv 4 0,rf 333,iv 198 0,iv 4 0,rf 340,iv 207 0,iv 4 0,rf 347,iv 224 0,iv 4 0,rf 352,iv 235 0,iv 4 0,rf 359,iv 244 0,iv 4 0,rf 366]
def eX:OP:=λP=>oC "Circuit" "Circuit" 573 180 0 0 (rf 316) false (d6 317) 576
def eY:OP:=λP=>{cls:=ty "frame",slots:=#[some (rf 318),some (rf 3),some (rf 314),none,some (sv "fdsolve.order" 569),none,some (rf 0)]}
def bv:OP:=λP=>oT [rf 315]
def bx:OP:=λP=>oV 586 ["__class__"]
def bz:OP:=λP=>oV 587 ["self","places"]
def eZ:OP:=λP=>oS (fM 21 0) "Circuit.__init__"
def ZD:OP:=λP=>oC "__init__" "Circuit.__init__" 583 182 2 3 (rf 321) true (CW 322) 589
def ZE:OP:=λP=>oX (ty "function") (fM 21 0) "Circuit.__init__" λf=>{f with globals:=3,closure:=[("__class__",315)],pyModule:=sv "fdsolve.order" 569,code:=rf 326,closureTuple:=rf 320}
def b0:OP:=λP=>oV 595 ["self","store","many","standing","x"]
def eg:OP:=λP=>oS (fM 21 1) "Circuit.propagate"
def b5:OP:=λP=>oC "propagate" "Circuit.propagate" 592 185 2 3 (rf 328) true (CW 329) 600
def b6:OP:=λP=>oD (fM 21 1) "Circuit.propagate" "fdsolve.order" 569 333
def b7:OP:=λP=>oV 606 ["self","store","i","x","v","j","y"]
def eh:OP:=λP=>oS (fM 21 2) "Circuit.part"
def b8:OP:=λP=>oC "part" "Circuit.part" 603 198 2 3 (rf 335) true (CW 336) 613
def b9:OP:=λP=>oD (fM 21 2) "Circuit.part" "fdsolve.order" 569 340
def cA:OP:=λP=>oV 619 ["self","store","many","begin","end","reasons","x"]
def eu:OP:=λP=>oS (fM 21 3) "Circuit.open_rings"
def cB:OP:=λP=>oC "open_rings" "Circuit.open_rings" 616 207 2 3 (rf 342) true (CW 343) 626
def cD:OP:=λP=>oD (fM 21 3) "Circuit.open_rings" "fdsolve.order" 569 347
def ew:OP:=λP=>oS (fM 21 4) "Circuit.reach"
def cE:OP:=λP=>oC "reach" "Circuit.reach" 629 224 2 3 (rf 349) true (LO 350) 632
def cF:OP:=λP=>oD (fM 21 4) "Circuit.reach" "fdsolve.order" 569 352
def cG:OP:=λP=>oV 638 ["self","values","here","met","lap"]
def ey:OP:=λP=>oS (fM 21 5) "Circuit.check"
def cH:OP:=λP=>oC "check" "Circuit.check" 635 235 2 3 (rf 354) true (CW 355) 643
def cJ:OP:=λP=>oD (fM 21 5) "Circuit.check" "fdsolve.order" 569 359
def cK:OP:=λP=>oV 649 ["self"]
def e4:OP:=λP=>oS (fM 21 6) "Circuit.told"
def cL:OP:=λP=>oC "told" "Circuit.told" 646 244 1 3 (rf 361) true (CW 362) 650
def cM:OP:=λP=>oD (fM 21 6) "Circuit.told" "fdsolve.order" 569 366
def cN:OP:=λP=>{cls:=ty "dict",data:=Data.dict #[de P "__module__" 578 (sv "fdsolve.order" 569),de P "__firstlineno__" 582 (iv 180 581),de P "__init__" 591 (rf 327),de P "propagate" 602 (rf 334),de P "part" 615 (rf 341),de P "open_rings" 628 (rf 348),de P "reach" 634 (rf 353),de P "check" 645 (rf 360),de P "told" 652 (rf 367),de P "__static_attributes__" 653 (rf 368),de P "__doc__" 655 (vn)] 3}
def cO:OP:=λP=>{cls:=ty "type",data:=Data.cls {name:="Circuit",bases:=[rf 307],mro:=[rf 370,rf 307,ty "object"],ns:=369,qualname:="Circuit"},slots:=#[some (rf 312),none,some (sv "Circuit" 571),some (sv "Circuit" 579),some (Value.builtin "object.__new__"),some (Value.bool true)]}
def e5:OP:=λP=>{cls:=ty "super",data:=Data.fields #[rf 370,rf 370,rf 370]}
def e7:OP:=λP=>{cls:=ty "builtin_function_or_method",data:=Data.fields #[Value.builtin "object.__init_subclass__",rf 370]}
def e9:OP:=λP=>{cls:=ty "type",data:=Data.cls {name:="Propagator",bases:=[ty "object"],mro:=[rf 307,ty "object"],ns:=306,qualname:="Propagator",subclasses:=[rf 370,rf 417]},slots:=#[none,none,some (sv "Propagator" 514),some (sv "Propagator" 522),some (Value.builtin "object.__new__"),some (Value.bool true)]}
def im:OP:=λP=>{cls:=ty "dict",data:=Data.dict #[de P "__module__" 665 (sv "fdsolve.order" 569),de P "__qualname__" 667 (sv "Inverse" 666),de P "__firstlineno__" 669 (iv 246 668),de P "__init__" 679 (rf 388),de P "propagate" 691 (rf 395),de P "turn" 706 (rf 402),de P "check" 712 (rf 407),de P "told" 719 (rf 414),de P "__static_attributes__" 722 (rf 415),de P "__classcell__" 723 (rf 376)] 10}
def cP:OP:=λP=>{cls:=ty "cell",data:=Data.cell (some (rf 417))}
def io:OP:=λP=>oF [iv 248 0,iv 4 0,rf 387,iv 253 0,iv 4 0,rf 394,iv 267 0,iv 4 0,rf 401,iv 279 0,iv 4 0,rf 406,iv 285 0,iv 4 0,rf 413]
def ip:OP:=λP=>oC "Inverse" "Inverse" 660 246 0 0 (rf 377) false (d6 378) 663
def iq:OP:=λP=>{cls:=ty "frame",slots:=#[some (rf 379),some (rf 3),some (rf 375),none,some (sv "fdsolve.order" 569),none,some (rf 0)]}
def fA:OP:=λP=>oT [rf 376]
def fB:OP:=λP=>oV 673 ["__class__"]
def fC:OP:=λP=>oV 674 ["self","fs","gs"]
def iu:OP:=λP=>oS (fM 22 0) "Inverse.__init__"
def cQ:OP:=λP=>oC "__init__" "Inverse.__init__" 670 248 3 3 (rf 382) true (CW 383) 677
def cR:OP:=λP=>oX (ty "function") (fM 22 0) "Inverse.__init__" λf=>{f with globals:=3,closure:=[("__class__",376)],pyModule:=sv "fdsolve.order" 569,code:=rf 387,closureTuple:=rf 381}
def fD:OP:=λP=>oV 683 ["self","store","standing","row","many","x"]
def iw:OP:=λP=>oS (fM 22 1) "Inverse.propagate"
def fE:OP:=λP=>oC "propagate" "Inverse.propagate" 680 253 2 3 (rf 389) true (CW 390) 689
def fF:OP:=λP=>oD (fM 22 1) "Inverse.propagate" "fdsolve.order" 569 394
def fG:OP:=λP=>oV 695 ["self","store","row","back","i","x","j","y","v"]
def iy:OP:=λP=>oS (fM 22 2) "Inverse.turn"
def fH:OP:=λP=>oC "turn" "Inverse.turn" 692 267 4 3 (rf 396) true (CW 397) 704
def fJ:OP:=λP=>oD (fM 22 2) "Inverse.turn" "fdsolve.order" 569 401
def iz:OP:=λP=>oS (fM 22 3) "Inverse.check"
def fK:OP:=λP=>oC "check" "Inverse.check" 707 279 2 3 (rf 403) true (LO 404) 710
def fL:OP:=λP=>oD (fM 22 3) "Inverse.check" "fdsolve.order" 569 406
def fN:OP:=λP=>oV 716 ["self"]
def i0:OP:=λP=>oS (fM 22 4) "Inverse.told"
def fO:OP:=λP=>oC "told" "Inverse.told" 713 285 1 3 (rf 408) true (CW 409) 717
def fQ:OP:=λP=>oD (fM 22 4) "Inverse.told" "fdsolve.order" 569 413
def fR:OP:=λP=>oV 720 ["fs","gs"]
def fS:OP:=λP=>{cls:=ty "dict",data:=Data.dict #[de P "__module__" 665 (sv "fdsolve.order" 569),de P "__firstlineno__" 669 (iv 246 668),de P "__init__" 679 (rf 388),de P "propagate" 691 (rf 395),de P "turn" 706 (rf 402),de P "check" 712 (rf 407),de P "told" 719 (rf 414),de P "__static_attributes__" 722 (rf 415),de P "__doc__" 724 (vn)] 3}
def fU:OP:=λP=>{cls:=ty "type",data:=Data.cls {name:="Inverse",bases:=[rf 307],mro:=[rf 417,rf 307,ty "object"],ns:=416,qualname:="Inverse"},slots:=#[some (rf 373),none,some (sv "Inverse" 658),some (sv "Inverse" 666),some (Value.builtin "object.__new__"),some (Value.bool true)]}
def i5:OP:=λP=>{cls:=ty "super",data:=Data.fields #[rf 417,rf 417,rf 417]}
def i6:OP:=λP=>{cls:=ty "builtin_function_or_method",data:=Data.fields #[Value.builtin "object.__init_subclass__",rf 417]}
def fV:OP:=λP=>{cls:=ty "dict",data:=Data.dict #[de P "__name__" 165 (sv "law_no0322_01" 727),de P "__doc__" 166 (vn),de P "__package__" 167 (vn),de P "__loader__" 168 (Value.builtin "__main__.__loader__#opaque"),de P "__spec__" 169 (vn),de P "__annotations__" 170 (rf 6),de P "__builtins__" 171 (rf 4),de P "__file__" 173 (sv "/claim/cut.py" 172),de P "__cached__" 174 (vn),de P "_wall" 193 (rf 21),de P "put_behind" 204 (rf 28),de P "from_values" 213 (rf 35),de P "least" 220 (rf 42),de P "greatest" 227 (rf 49),de P "next_from" 237 (rf 56),de P "has" 245 (rf 63),de P "has_domains" 246 (rf 63),de P "values" 256 (rf 70),de P "up_to" 262 (rf 75),de P "from_on" 268 (rf 80),de P "without" 276 (rf 87),de P "meet" 289 (rf 94),de P "negation" 299 (rf 101),de P "struck" 309 (rf 108),de P "said_of" 318 (rf 115),de P "Store" 513 (rf 265),de P "Propagator" 568 (rf 307),de P "Circuit" 657 (rf 370),de P "Inverse" 726 (rf 417),de P "_law_tape" 734 (rf 424),de P "_law_draw" 743 (rf 431),de P "_law_rows" 749 (rf 436),de P "_law_is_ring" 758 (rf 443),de P "_law_answers" 764 (rf 448),de P "_law_says" 775 (rf 455),de P "_law_keeps" 787 (rf 462),de P "_law_within" 793 (rf 467),de P "_law_hold" 799 (rf 472),de P "_law_entries_right" 805 (rf 477),de P "_law_asked_right" 811 (rf 482),de P "_law_made" 817 (rf 487),de P "_law_told_right" 823 (rf 492),de P "law" 829 (rf 497)] 43}
def i7:OP:=λP=>oF [iv 1 0,iv 0 0,rf 20,iv 5 0,iv 0 0,rf 27,iv 11 0,iv 0 0,rf 34,iv 16 0,iv 0 0,rf 41,iv 18 0,iv 0 0,rf 48,iv 20 0,iv 0 0,rf 55,iv 25 0,iv 0 0,rf 62,iv 28 0,iv 0 0,rf 69,iv 33 0,iv 0 0,rf 74,iv 35 0,iv 0 0,rf 79,iv 37 0,iv 0 0,rf 86,iv 39 0,iv 0 0,rf 93,iv 50 0,iv 0 0,rf 100,iv 57 0,iv 0 0,rf 107,iv 64 0,iv 0 0,rf 114,iv 70 0,iv 0 0,rf 121,iv 164 0,iv 0 0,rf 275,iv 180 0,iv 0 0,rf 318,iv 246 0,iv 0 0,rf 379,iv 288 0,iv 0 0,rf 423,iv 290 0,iv 0 0,rf 430,iv 296 0,iv 0 0,rf 435,iv 304 0,iv 0 0,rf 442,iv 309 0,iv 0 0,rf 447,iv 319 0,iv 0 0,rf 454,iv 322 0,iv 0 0,rf 461,iv 328 0,iv 0 0,rf 466,iv 330 0,iv 0 0,rf 471,iv 335 0,iv 0 0,rf 476,iv 347 0,iv 0 0,rf 481,iv 370 0,iv 0 0,rf 486,iv 392 0,iv 0 0,rf 491,iv 401 0,iv 0 0,rf 496]
def i8:OP:=λP=>oS (fT 24) "_law_tape"
def fW:OP:=λP=>oC "_law_tape" "_law_tape" 729 288 1 3 (rf 420) true (LO 421) 732
def fX:OP:=λP=>oD (fT 24) "_law_tape" "law_no0322_01" 727 423
def fY:OP:=λP=>oV 738 ["tape","many","spot"]
def i9:OP:=λP=>oS (fT 25) "_law_draw"
def fZ:OP:=λP=>oC "_law_draw" "_law_draw" 735 290 2 3 (rf 425) true (CW 426) 741
def fb:OP:=λP=>oD (fT 25) "_law_draw" "law_no0322_01" 727 430
def jA:OP:=λP=>oS (fT 26) "_law_rows"
def fc:OP:=λP=>oC "_law_rows" "_law_rows" 744 296 1 3 (rf 432) true (LO 433) 747
def fe:OP:=λP=>oD (fT 26) "_law_rows" "law_no0322_01" 727 435
def ff:OP:=λP=>oV 753 ["row","here","met"]
def jB:OP:=λP=>oS (fT 27) "_law_is_ring"
def fg:OP:=λP=>oC "_law_is_ring" "_law_is_ring" 750 304 1 3 (rf 437) true (CW 438) 756
def fh:OP:=λP=>oD (fT 27) "_law_is_ring" "law_no0322_01" 727 442
def jC:OP:=λP=>oS (fT 28) "_law_answers"
def fk:OP:=λP=>oC "_law_answers" "_law_answers" 759 309 2 3 (rf 444) true (LO 445) 762
def fm:OP:=λP=>oD (fT 28) "_law_answers" "law_no0322_01" 727 447
def fq:OP:=λP=>oV 768 ["literal","v","x","sign","k"]
def jD:OP:=λP=>oS (fT 29) "_law_says"
def ft:OP:=λP=>oC "_law_says" "_law_says" 765 319 2 3 (rf 449) true (CW 450) 773
def fu:OP:=λP=>oD (fT 29) "_law_says" "law_no0322_01" 727 454
def fw:OP:=λP=>oV 779 ["answer","scope","literals","literal","x","v"]
def jE:OP:=λP=>oS (fT 30) "_law_keeps"
def fz:OP:=λP=>oC "_law_keeps" "_law_keeps" 776 322 3 3 (rf 456) true (CW 457) 785
def f6:OP:=λP=>oD (fT 30) "_law_keeps" "law_no0322_01" 727 461
def jF:OP:=λP=>oS (fT 31) "_law_within"
def f7:OP:=λP=>oC "_law_within" "_law_within" 788 328 3 3 (rf 463) true (LO 464) 791
def f8:OP:=λP=>oD (fT 31) "_law_within" "law_no0322_01" 727 466
def jG:OP:=λP=>oS (fT 32) "_law_hold"
def f9:OP:=λP=>oC "_law_hold" "_law_hold" 794 330 2 3 (rf 468) true (LO 469) 797
def gA:OP:=λP=>oD (fT 32) "_law_hold" "law_no0322_01" 727 471
def jH:OP:=λP=>oS (fT 33) "_law_entries_right"
def gB:OP:=λP=>oC "_law_entries_right" "_law_entries_right" 800 335 5 3 (rf 473) true (LO 474) 803
def gC:OP:=λP=>oD (fT 33) "_law_entries_right" "law_no0322_01" 727 476
def jI:OP:=λP=>oS (fT 34) "_law_asked_right"
def gD:OP:=λP=>oC "_law_asked_right" "_law_asked_right" 806 347 4 3 (rf 478) true (LO 479) 809
def gE:OP:=λP=>oD (fT 34) "_law_asked_right" "law_no0322_01" 727 481
def jJ:OP:=λP=>oS (fT 35) "_law_made"
def gF:OP:=λP=>oC "_law_made" "_law_made" 812 370 1 3 (rf 483) true (LO 484) 815
def gG:OP:=λP=>oD (fT 35) "_law_made" "law_no0322_01" 727 486
def jK:OP:=λP=>oS (fT 36) "_law_told_right"
def gH:OP:=λP=>oC "_law_told_right" "_law_told_right" 818 392 5 3 (rf 488) true (LO 489) 821
def gI:OP:=λP=>oD (fT 36) "_law_told_right" "law_no0322_01" 727 491
def jL:OP:=λP=>oS (fT 37) "law"
def gJ:OP:=λP=>oC "law" "law" 824 401 1 3 (rf 493) true (LO 494) 827
def gK:OP:=λP=>oD (fT 37) "law" "law_no0322_01" 727 496
def T0:TR:=nd boot_o_0 (nd boot_o_1 (nd boot_o_3 (nd boot_o_7 nl nl) (nd AD nl nl)) (nd boot_o_5 (nd boot_o_9 nl nl) (nd d7 nl nl))) (nd boot_o_2 (nd boot_o_4 (nd boot_o_8 nl nl) (nd BF nl nl)) (nd boot_o_6 (nd boot_o_10 nl nl) (nd d8 nl nl)))
def T8:TR:=nd boot_o_0 (nd boot_o_1 (nd ib (nd boot_o_7 (nd AD (nd eG (nd eU nl nl) (nd AD nl nl)) (nd iO (nd VJ nl nl) (nd VX nl nl))) (nd BF (nd AD (nd AD nl nl) (nd BF nl nl)) (nd eQ (nd VN nl nl) nl))) (nd AD (nd iK (nd eI (nd AD nl nl) (nd Xc nl nl)) (nd BF (nd VL nl nl) (nd VZ nl nl))) (nd eE (nd AD (nd VI nl nl) (nd VV nl nl)) (nd eS (nd AD nl nl) nl)))) (nd boot_o_5 (nd boot_o_9 (nd d9 (nd iM (nd BF nl nl) (nd VR nl nl)) (nd eO (nd AD nl nl) (nd Xe nl nl))) (nd AD (nd eK (nd XX nl nl) (nd AD nl nl)) (nd AD (nd BF nl nl) nl))) (nd d7 (nd eC (nd BF (nd VF nl nl) (nd VT nl nl)) (nd AD (nd XZ nl nl) nl)) (nd AD (nd eM (nd BF nl nl) (nd AD nl nl)) (nd iQ (nd VP nl nl) nl))))) (nd boot_o_2 (nd boot_o_4 (nd boot_o_8 (nd BF (nd AD (nd AD nl nl) (nd BF nl nl)) (nd eN (nd VK nl nl) (nd AD nl nl))) (nd eD (nd iN (nd BF nl nl) (nd VU nl nl)) (nd eR (nd AD nl nl) nl))) (nd ic (nd eB (nd AD (nd XW nl nl) (nd VS nl nl)) (nd eP (nd AD nl nl) nl)) (nd eF (nd BF (nd AD nl nl) (nd VW nl nl)) (nd AD (nd Xb nl nl) nl)))) (nd boot_o_6 (nd boot_o_10 (nd AD (nd eH (nd VE nl nl) (nd AD nl nl)) (nd AD (nd BF nl nl) (nd VY nl nl))) (nd iL (nd eL (nd VH nl nl) (nd Xd nl nl)) (nd BF (nd VO nl nl) nl))) (nd d8 (nd AD (nd eJ (nd VG nl nl) (nd AD nl nl)) (nd iP (nd VM nl nl) nl)) (nd BF (nd AD (nd XY nl nl) (nd BF nl nl)) (nd eT (nd VQ nl nl) nl)))))
def T9:TR:=nd boot_o_0 (nd boot_o_1 (nd ij (nd boot_o_7 (nd AD (nd eG (nd eU (nd bF (nd Yn nl nl) nl) (nd YI (nd eY nl nl) nl)) (nd AD (nd BF (nd AD nl nl) nl) (nd YX (nd ew nl nl) nl))) (nd iO (nd VJ (nd Xn (nd Pd nl nl) nl) (nd AD (nd AD nl nl) nl)) (nd VX (nd AD (nd Y6 nl nl) nl) (nd bX (nd cM nl nl) nl)))) (nd BF (nd AD (nd AD (nd Xj (nd Yr nl nl) nl) (nd YM (nd ZE nl nl) nl)) (nd BF (nd Xz (nd bo nl nl) nl) (nd AD (nd cH nl nl) nl))) (nd eQ (nd VN (nd AD (nd Yw nl nl) nl) (nd BF (nd BF nl nl) nl)) (nd AD (nd bP (nd bu nl nl) nl) (nd Yj nl nl))))) (nd AD (nd iK (nd eI (nd AD (nd BF (nd AD nl nl) nl) (nd YK (nd bz nl nl) nl)) (nd Xc (nd Xx (nd AD nl nl) nl) (nd YZ (nd BF nl nl) nl))) (nd BF (nd VL (nd AD (nd bh nl nl) nl) (nd bT (nd eh nl nl) nl)) (nd VZ (nd AD (nd il nl nl) nl) (nd BF (nd e5 nl nl) nl)))) (nd eE (nd AD (nd VI (nd Xl (nd Yv nl nl) nl) (nd AD (nd AD nl nl) nl)) (nd VV (nd YA (nd BF nl nl) nl) (nd AD (nd cK nl nl) nl))) (nd eS (nd AD (nd bJ (nd Yy nl nl) nl) (nd YV (nd cB nl nl) nl)) (nd AD (nd BF (nd ZC nl nl) nl) (nd Yl nl nl)))))) (nd boot_o_5 (nd boot_o_9 (nd d9 (nd iM (nd BF (nd Xh (nd BF nl nl) nl) (nd AD (nd bx nl nl) nl)) (nd VR (nd AD (nd Y0 nl nl) nl) (nd bV (nd cF nl nl) nl))) (nd eO (nd AD (nd BF (nd AD nl nl) nl) (nd YR (nd b7 nl nl) nl)) (nd Xe (nd YC (nd Y8 nl nl) nl) (nd Yh (nd cN nl nl) nl)))) (nd AD (nd eK (nd XX (nd AD (nd Yt nl nl) nl) (nd BF (nd BF nl nl) nl)) (nd AD (nd bN (nd Y4 nl nl) nl) (nd Yc (nd AD nl nl) nl))) (nd AD (nd BF (nd Xr (nd bl nl nl) nl) (nd AD (nd AD nl nl) nl)) (nd bD (nd YG (nd Pd nl nl) nl) (nd AD nl nl))))) (nd d7 (nd eC (nd BF (nd VF (nd AD (nd Yp nl nl) nl) (nd bR (nd eZ nl nl) nl)) (nd VT (nd AD (nd Y2 nl nl) nl) (nd BF (nd AD nl nl) nl))) (nd AD (nd XZ (nd Xp (nd AD nl nl) nl) (nd YT (nd b9 nl nl) nl)) (nd Pd (nd YE (nd ZB nl nl) nl) (nd AD nl nl)))) (nd AD (nd eM (nd BF (nd bH (nd bd nl nl) nl) (nd YO (nd b5 nl nl) nl)) (nd AD (nd BF (nd AD nl nl) nl) (nd Ye (nd e4 nl nl) nl))) (nd iQ (nd VP (nd Xv (nd BF nl nl) nl) (nd AD (nd AD nl nl) nl)) (nd Xf (nd AD (nd eW nl nl) nl) (nd bZ nl nl))))))) (nd boot_o_2 (nd boot_o_4 (nd boot_o_8 (nd BF (nd AD (nd AD (nd Xg (nd AD nl nl) nl) (nd YJ (nd bv nl nl) nl)) (nd BF (nd Xw (nd bm nl nl) nl) (nd AD (nd cE nl nl) nl))) (nd eN (nd VK (nd AD (nd be nl nl) nl) (nd BF (nd BF nl nl) nl)) (nd AD (nd bO (nd Y7 nl nl) nl) (nd Yg (nd AD nl nl) nl)))) (nd eD (nd iN (nd BF (nd Xk (nd Ys nl nl) nl) (nd AD (nd AD nl nl) nl)) (nd VU (nd AD (nd Y3 nl nl) nl) (nd bW (nd cJ nl nl) nl))) (nd eR (nd AD (nd BF (nd AD nl nl) nl) (nd YU (nd cA nl nl) nl)) (nd bC (nd YF (nd Va nl nl) nl) (nd Yk nl nl))))) (nd ik (nd eB (nd AD (nd XW (nd Xi (nd ba nl nl) nl) (nd AD (nd AD nl nl) nl)) (nd VS (nd Xy (nd BF nl nl) nl) (nd AD (nd cG nl nl) nl))) (nd eP (nd AD (nd bI (nd bj nl nl) nl) (nd YS (nd b8 nl nl) nl)) (nd AD (nd BF (nd ZA nl nl) nl) (nd Yi (nd e7 nl nl) nl)))) (nd eF (nd BF (nd AD (nd AD (nd bc nl nl) nl) (nd bS (nd eg nl nl) nl)) (nd VW (nd AD (nd Y5 nl nl) nl) (nd BF (nd AD nl nl) nl))) (nd AD (nd Xb (nd Xu (nd AD nl nl) nl) (nd YW (nd cD nl nl) nl)) (nd BF (nd YH (nd AD nl nl) nl) (nd AD nl nl)))))) (nd boot_o_6 (nd boot_o_10 (nd AD (nd eH (nd VE (nd AD (nd Yo nl nl) nl) (nd BF (nd BF nl nl) nl)) (nd AD (nd bM (nd Y1 nl nl) nl) (nd YY (nd AD nl nl) nl))) (nd AD (nd BF (nd Xo (nd bf nl nl) nl) (nd AD (nd AD nl nl) nl)) (nd VY (nd YD (nd Y9 nl nl) nl) (nd AD (nd cO nl nl) nl)))) (nd iL (nd eL (nd VH (nd BF (nd Yu nl nl) nl) (nd YN (nd b0 nl nl) nl)) (nd Xd (nd X9 (nd AD nl nl) nl) (nd Yd (nd BF nl nl) nl))) (nd BF (nd VO (nd AD (nd Yx nl nl) nl) (nd bU (nd eu nl nl) nl)) (nd bE (nd AD (nd eV nl nl) nl) (nd BF nl nl))))) (nd d8 (nd AD (nd eJ (nd VG (nd bG (nd Yq nl nl) nl) (nd YL (nd ZD nl nl) nl)) (nd AD (nd BF (nd AD nl nl) nl) (nd Yb (nd ey nl nl) nl))) (nd iP (nd VM (nd Xq (nd BF nl nl) nl) (nd AD (nd AD nl nl) nl)) (nd bB (nd AD (nd bt nl nl) nl) (nd bY nl nl)))) (nd BF (nd AD (nd XY (nd Xm (nd AD nl nl) nl) (nd YQ (nd b6 nl nl) nl)) (nd BF (nd YB (nd bq nl nl) nl) (nd AD (nd cL nl nl) nl))) (nd eT (nd VQ (nd AD (nd Yz nl nl) nl) (nd BF (nd BF nl nl) nl)) (nd AD (nd bQ (nd eX nl nl) nl) (nd Ym nl nl)))))))
def T1:TR:=nd boot_o_0 (nd boot_o_1 (nd ie (nd boot_o_7 (nd AD (nd eG (nd eU (nd bF (nd Yn nl nl) nl) (nd YI nl nl)) (nd AD (nd BF (nd AD nl nl) nl) (nd YX nl nl))) (nd iO (nd VJ (nd Xn (nd Pd nl nl) nl) (nd AD nl nl)) (nd VX (nd AD (nd Y6 nl nl) nl) (nd bX nl nl)))) (nd BF (nd AD (nd AD (nd Xj (nd Yr nl nl) nl) (nd YM nl nl)) (nd BF (nd Xz (nd bo nl nl) nl) (nd AD nl nl))) (nd eQ (nd VN (nd AD (nd Yw nl nl) nl) (nd BF nl nl)) (nd AD (nd bP (nd bu nl nl) nl) (nd Yj nl nl))))) (nd AD (nd iK (nd eI (nd AD (nd BF (nd AD nl nl) nl) (nd YK nl nl)) (nd Xc (nd Xx (nd AD nl nl) nl) (nd YZ nl nl))) (nd BF (nd VL (nd AD (nd bh nl nl) nl) (nd bT nl nl)) (nd VZ (nd AD (nd ii nl nl) nl) (nd BF nl nl)))) (nd eE (nd AD (nd VI (nd Xl (nd Yv nl nl) nl) (nd AD nl nl)) (nd VV (nd YA (nd BF nl nl) nl) (nd AD nl nl))) (nd eS (nd AD (nd bJ (nd Yy nl nl) nl) (nd YV nl nl)) (nd AD (nd BF nl nl) (nd Yl nl nl)))))) (nd boot_o_5 (nd boot_o_9 (nd d9 (nd iM (nd BF (nd Xh (nd BF nl nl) nl) (nd AD nl nl)) (nd VR (nd AD (nd Y0 nl nl) nl) (nd bV nl nl))) (nd eO (nd AD (nd BF (nd AD nl nl) nl) (nd YR nl nl)) (nd Xe (nd YC (nd Y8 nl nl) nl) (nd Yh nl nl)))) (nd AD (nd eK (nd XX (nd AD (nd Yt nl nl) nl) (nd BF nl nl)) (nd AD (nd bN (nd Y4 nl nl) nl) (nd Yc nl nl))) (nd AD (nd BF (nd Xr (nd bl nl nl) nl) (nd AD nl nl)) (nd bD (nd YG nl nl) (nd AD nl nl))))) (nd d7 (nd eC (nd BF (nd VF (nd AD (nd Yp nl nl) nl) (nd bR nl nl)) (nd VT (nd AD (nd Y2 nl nl) nl) (nd BF nl nl))) (nd AD (nd XZ (nd Xp (nd AD nl nl) nl) (nd YT nl nl)) (nd Pd (nd YE (nd ZB nl nl) nl) (nd AD nl nl)))) (nd AD (nd eM (nd BF (nd bH (nd bd nl nl) nl) (nd YO nl nl)) (nd AD (nd BF (nd AD nl nl) nl) (nd Ye nl nl))) (nd iQ (nd VP (nd Xv (nd BF nl nl) nl) (nd AD nl nl)) (nd Xf (nd AD nl nl) (nd bZ nl nl))))))) (nd boot_o_2 (nd boot_o_4 (nd boot_o_8 (nd BF (nd AD (nd AD (nd Xg (nd AD nl nl) nl) (nd YJ nl nl)) (nd BF (nd Xw (nd bm nl nl) nl) (nd AD nl nl))) (nd eN (nd VK (nd AD (nd be nl nl) nl) (nd BF nl nl)) (nd AD (nd bO (nd Y7 nl nl) nl) (nd Yg nl nl)))) (nd eD (nd iN (nd BF (nd Xk (nd Ys nl nl) nl) (nd AD nl nl)) (nd VU (nd AD (nd Y3 nl nl) nl) (nd bW nl nl))) (nd eR (nd AD (nd BF (nd AD nl nl) nl) (nd YU nl nl)) (nd bC (nd YF nl nl) (nd Yk nl nl))))) (nd ig (nd eB (nd AD (nd XW (nd Xi (nd ba nl nl) nl) (nd AD nl nl)) (nd VS (nd Xy (nd BF nl nl) nl) (nd AD nl nl))) (nd eP (nd AD (nd bI (nd bj nl nl) nl) (nd YS nl nl)) (nd AD (nd BF (nd ZA nl nl) nl) (nd Yi nl nl)))) (nd eF (nd BF (nd AD (nd AD (nd bc nl nl) nl) (nd bS nl nl)) (nd VW (nd AD (nd Y5 nl nl) nl) (nd BF nl nl))) (nd AD (nd Xb (nd Xu (nd AD nl nl) nl) (nd YW nl nl)) (nd BF (nd YH nl nl) (nd AD nl nl)))))) (nd boot_o_6 (nd boot_o_10 (nd AD (nd eH (nd VE (nd AD (nd Yo nl nl) nl) (nd BF nl nl)) (nd AD (nd bM (nd Y1 nl nl) nl) (nd YY nl nl))) (nd AD (nd BF (nd Xo (nd bf nl nl) nl) (nd AD nl nl)) (nd VY (nd YD (nd Y9 nl nl) nl) (nd AD nl nl)))) (nd iL (nd eL (nd VH (nd BF (nd Yu nl nl) nl) (nd YN nl nl)) (nd Xd (nd X9 (nd AD nl nl) nl) (nd Yd nl nl))) (nd BF (nd VO (nd AD (nd Yx nl nl) nl) (nd bU nl nl)) (nd bE (nd AD nl nl) (nd BF nl nl))))) (nd d8 (nd AD (nd eJ (nd VG (nd bG (nd Yq nl nl) nl) (nd YL nl nl)) (nd AD (nd BF (nd AD nl nl) nl) (nd Yb nl nl))) (nd iP (nd VM (nd Xq (nd BF nl nl) nl) (nd AD nl nl)) (nd bB (nd AD (nd bt nl nl) nl) (nd bY nl nl)))) (nd BF (nd AD (nd XY (nd Xm (nd AD nl nl) nl) (nd YQ nl nl)) (nd BF (nd YB (nd bq nl nl) nl) (nd AD nl nl))) (nd eT (nd VQ (nd AD (nd Yz nl nl) nl) (nd BF nl nl)) (nd AD (nd bQ nl nl) (nd Ym nl nl)))))))
def T2:TR:=nd boot_o_0 (nd boot_o_1 (nd fV (nd boot_o_7 (nd AD (nd eG (nd eU (nd bF (nd Yn nl nl) (nd BF nl nl)) (nd YI (nd eY nl nl) (nd fk nl nl))) (nd AD (nd BF (nd AD nl nl) (nd fR nl nl)) (nd YX (nd ew nl nl) (nd BF nl nl)))) (nd iO (nd VJ (nd Xn (nd Pd nl nl) (nd AD nl nl)) (nd AD (nd AD nl nl) (nd AD nl nl))) (nd VX (nd AD (nd Y6 nl nl) (nd fb nl nl)) (nd bX (nd cM nl nl) (nd jL nl nl))))) (nd BF (nd AD (nd AD (nd Xj (nd Yr nl nl) (nd fD nl nl)) (nd YM (nd ZE nl nl) (nd fu nl nl))) (nd BF (nd Xz (nd bo nl nl) (nd fW nl nl)) (nd AD (nd cH nl nl) (nd gG nl nl)))) (nd eQ (nd VN (nd AD (nd Yw nl nl) (nd fL nl nl)) (nd BF (nd BF nl nl) (nd f9 nl nl))) (nd AD (nd bP (nd bu nl nl) (nd ff nl nl)) (nd Yj (nd im nl nl) nl))))) (nd AD (nd iK (nd eI (nd AD (nd BF (nd AD nl nl) (nd cQ nl nl)) (nd YK (nd bz nl nl) (nd fq nl nl))) (nd Xc (nd Xx (nd AD nl nl) (nd i6 nl nl)) (nd YZ (nd BF nl nl) (nd AD nl nl)))) (nd BF (nd VL (nd AD (nd bh nl nl) (nd AD nl nl)) (nd bT (nd eh nl nl) (nd f8 nl nl))) (nd VZ (nd AD (nd e9 nl nl) (nd fc nl nl)) (nd BF (nd e5 nl nl) nl)))) (nd eE (nd AD (nd VI (nd Xl (nd Yv nl nl) (nd fF nl nl)) (nd AD (nd AD nl nl) (nd AD nl nl))) (nd VV (nd YA (nd BF nl nl) (nd fY nl nl)) (nd AD (nd cK nl nl) (nd gH nl nl)))) (nd eS (nd AD (nd bJ (nd Yy nl nl) (nd AD nl nl)) (nd YV (nd cB nl nl) (nd jH nl nl))) (nd AD (nd BF (nd ZC nl nl) (nd fh nl nl)) (nd Yl (nd ip nl nl) nl)))))) (nd boot_o_5 (nd boot_o_9 (nd d9 (nd iM (nd BF (nd Xh (nd BF nl nl) (nd AD nl nl)) (nd AD (nd bx nl nl) (nd AD nl nl))) (nd VR (nd AD (nd Y0 nl nl) (nd fU nl nl)) (nd bV (nd cF nl nl) (nd gD nl nl)))) (nd eO (nd AD (nd BF (nd AD nl nl) (nd fH nl nl)) (nd YR (nd b7 nl nl) (nd jF nl nl))) (nd Xe (nd YC (nd Y8 nl nl) (nd BF nl nl)) (nd Yh (nd cN nl nl) (nd gK nl nl))))) (nd AD (nd eK (nd XX (nd AD (nd Yt nl nl) (nd iw nl nl)) (nd BF (nd BF nl nl) (nd BF nl nl))) (nd AD (nd bN (nd Y4 nl nl) (nd AD nl nl)) (nd Yc (nd AD nl nl) (nd BF nl nl)))) (nd AD (nd BF (nd Xr (nd bl nl nl) (nd BF nl nl)) (nd AD (nd AD nl nl) (nd AD nl nl))) (nd bD (nd YG (nd Pd nl nl) (nd jB nl nl)) (nd AD (nd AD nl nl) nl))))) (nd d7 (nd eC (nd BF (nd VF (nd AD (nd Yp nl nl) (nd AD nl nl)) (nd bR (nd eZ nl nl) (nd jD nl nl))) (nd VT (nd AD (nd Y2 nl nl) (nd BF nl nl)) (nd BF (nd AD nl nl) (nd jJ nl nl)))) (nd AD (nd XZ (nd Xp (nd AD nl nl) (nd iz nl nl)) (nd YT (nd b9 nl nl) (nd BF nl nl))) (nd Pd (nd YE (nd ZB nl nl) (nd AD nl nl)) (nd AD (nd Va nl nl) nl)))) (nd AD (nd eM (nd BF (nd bH (nd bd nl nl) (nd BF nl nl)) (nd YO (nd b5 nl nl) (nd fz nl nl))) (nd AD (nd BF (nd AD nl nl) (nd i9 nl nl)) (nd Ye (nd e4 nl nl) (nd AD nl nl)))) (nd iQ (nd VP (nd Xv (nd BF nl nl) (nd fO nl nl)) (nd AD (nd AD nl nl) (nd gC nl nl))) (nd Xf (nd AD (nd eW nl nl) (nd BF nl nl)) (nd bZ (nd fA nl nl) nl))))))) (nd boot_o_2 (nd boot_o_4 (nd boot_o_8 (nd BF (nd AD (nd AD (nd Xg (nd AD nl nl) (nd fC nl nl)) (nd YJ (nd bv nl nl) (nd fm nl nl))) (nd BF (nd Xw (nd bm nl nl) (nd fS nl nl)) (nd AD (nd cE nl nl) (nd jI nl nl)))) (nd eN (nd VK (nd AD (nd be nl nl) (nd iy nl nl)) (nd BF (nd BF nl nl) (nd BF nl nl))) (nd AD (nd bO (nd Y7 nl nl) (nd AD nl nl)) (nd Yg (nd AD nl nl) (nd gJ nl nl))))) (nd eD (nd iN (nd BF (nd Xk (nd Ys nl nl) (nd AD nl nl)) (nd AD (nd AD nl nl) (nd AD nl nl))) (nd VU (nd AD (nd Y3 nl nl) (nd fX nl nl)) (nd bW (nd cJ nl nl) (nd AD nl nl)))) (nd eR (nd AD (nd BF (nd AD nl nl) (nd AD nl nl)) (nd YU (nd cA nl nl) (nd gA nl nl))) (nd bC (nd YF (nd Va nl nl) (nd AD nl nl)) (nd Yk (nd cP nl nl) nl))))) (nd i7 (nd eB (nd AD (nd XW (nd Xi (nd ba nl nl) (nd cR nl nl)) (nd AD (nd AD nl nl) (nd AD nl nl))) (nd VS (nd Xy (nd BF nl nl) (nd AD nl nl)) (nd AD (nd cG nl nl) (nd BF nl nl)))) (nd eP (nd AD (nd bI (nd bj nl nl) (nd BF nl nl)) (nd YS (nd b8 nl nl) (nd AD nl nl))) (nd AD (nd BF (nd ZA nl nl) (nd fe nl nl)) (nd Yi (nd e7 nl nl) nl)))) (nd eF (nd BF (nd AD (nd AD (nd bc nl nl) (nd AD nl nl)) (nd bS (nd eg nl nl) (nd jE nl nl))) (nd VW (nd AD (nd Y5 nl nl) (nd AD nl nl)) (nd BF (nd AD nl nl) (nd gI nl nl)))) (nd AD (nd Xb (nd Xu (nd AD nl nl) (nd i0 nl nl)) (nd YW (nd cD nl nl) (nd gB nl nl))) (nd BF (nd YH (nd AD nl nl) (nd AD nl nl)) (nd AD (nd iq nl nl) nl)))))) (nd boot_o_6 (nd boot_o_10 (nd AD (nd eH (nd VE (nd AD (nd Yo nl nl) (nd iu nl nl)) (nd BF (nd BF nl nl) (nd BF nl nl))) (nd AD (nd bM (nd Y1 nl nl) (nd i5 nl nl)) (nd YY (nd AD nl nl) (nd gE nl nl)))) (nd AD (nd BF (nd Xo (nd bf nl nl) (nd fJ nl nl)) (nd AD (nd AD nl nl) (nd f7 nl nl))) (nd VY (nd YD (nd Y9 nl nl) (nd jA nl nl)) (nd AD (nd cO nl nl) nl)))) (nd iL (nd eL (nd VH (nd BF (nd Yu nl nl) (nd fE nl nl)) (nd YN (nd b0 nl nl) (nd fw nl nl))) (nd Xd (nd X9 (nd AD nl nl) (nd BF nl nl)) (nd Yd (nd BF nl nl) (nd jK nl nl)))) (nd BF (nd VO (nd AD (nd Yx nl nl) (nd fN nl nl)) (nd bU (nd eu nl nl) (nd BF nl nl))) (nd bE (nd AD (nd eV nl nl) (nd fg nl nl)) (nd BF (nd io nl nl) nl))))) (nd d8 (nd AD (nd eJ (nd VG (nd bG (nd Yq nl nl) (nd BF nl nl)) (nd YL (nd ZD nl nl) (nd ft nl nl))) (nd AD (nd BF (nd AD nl nl) (nd i8 nl nl)) (nd Yb (nd ey nl nl) (nd gF nl nl)))) (nd iP (nd VM (nd Xq (nd BF nl nl) (nd fK nl nl)) (nd AD (nd AD nl nl) (nd jG nl nl))) (nd bB (nd AD (nd bt nl nl) (nd BF nl nl)) (nd bY (nd Pd nl nl) nl)))) (nd BF (nd AD (nd XY (nd Xm (nd AD nl nl) (nd fG nl nl)) (nd YQ (nd b6 nl nl) (nd f6 nl nl))) (nd BF (nd YB (nd bq nl nl) (nd fZ nl nl)) (nd AD (nd cL nl nl) (nd BF nl nl)))) (nd eT (nd VQ (nd AD (nd Yz nl nl) (nd fQ nl nl)) (nd BF (nd BF nl nl) (nd AD nl nl))) (nd AD (nd bQ (nd eX nl nl) (nd jC nl nl)) (nd Ym (nd fB nl nl) nl)))))))
noncomputable def KA:List Addr:=[2,3,15,17,18,20,21,22,24,25,27,28,29,31,32,34,35,36,38,39,41,42,43,45,46,48,49,50,52,53,55,56,57,59,60,62,63,64,66,67,69,70,71,74,75,76,79,80,81,83,84,86,87,88,90,91,93,94,95,97,98,100,101,102,104,105,107,108,109,111,112,114,115,123,125,126,128,129,130,132,133,135,136,137,139,140,142,143,144,146,147,149,150,151,153,154,156,157,158,160,161,163,164,165,167,168,170,171,172,174,175,177,178,179,181,182,184,185,186,188,189,191,192,193,195,196,198,199,200,202,203,205,206,207,209,210,212,213,214,216,217,219,220,221,223,224,226,227,228,230,231,233,234,235,237,238,240,241,242,244,245,247,248,249,251,252,254,255,256,258,259,261,262,263,264,265,266,267,277,279,280,282,283,284,286,287,289,290,291,293,294,296,297,298,300,301,303,304,305,306,307,308,309,312,315,320,321,323,324,326,327,328,330,331,333,334,335,337,338,340,341,342,344,345,347,348,349,352,353,354,356,357,359,360,361,363,364,366,367,368,369,370,373,376,381,382,384,385,387,388,389,391,392,394,395,396,398,399,401,402,403,406,407,408,410,411,413,414,415,416,417,420,423,424,425,427,428,430,431,432,435,436,437,439,440,442,443,444,447,448,449,451,452,454,455,456,458,459,461,462,463,466,467,468,471,472,473,476,477,478,481,482,483,486,487,488,491,492,493,496,497]
def KO:List OP:=[boot_o_2,fV,AD,d9,AD,eB,eC,AD,eD,AD,eE,eF,AD,eG,AD,eH,eI,AD,eJ,AD,eK,eL,AD,eM,AD,eN,eO,AD,eP,AD,eQ,eR,AD,eS,AD,eT,eU,AD,VE,AD,VF,VG,AD,VH,VI,AD,VJ,VK,AD,VL,AD,VM,VN,AD,VO,AD,VP,VQ,AD,VR,AD,VS,VT,AD,VU,AD,VV,VW,AD,VX,AD,VY,VZ,AD,Xf,AD,Xg,Xh,AD,Xi,AD,Xj,Xk,AD,Xl,AD,Xm,Xn,AD,Xo,AD,Xp,Xq,AD,Xr,AD,Xu,Xv,AD,Xw,AD,Xx,Xy,AD,Xz,AD,X9,YA,AD,YB,AD,YC,YD,AD,YE,AD,YF,YG,AD,YH,AD,YI,YJ,AD,YK,AD,YL,YM,AD,YN,AD,YO,YQ,AD,YR,AD,YS,YT,AD,YU,AD,YV,YW,AD,YX,AD,YY,YZ,AD,Yb,AD,Yc,Yd,AD,Ye,AD,Yg,Yh,AD,Yi,AD,Yj,Yk,AD,Yl,AD,Ym,Yn,AD,Yo,AD,Yp,Yq,Yr,Ys,Yt,Yu,Yv,AD,Yw,AD,Yx,Yy,AD,Yz,AD,Y0,Y1,AD,Y2,AD,Y3,Y4,AD,Y5,AD,Y6,Y7,Y8,Y9,e9,ZA,ZB,Va,ZC,bv,bx,bz,AD,ZD,ZE,AD,b0,AD,b5,b6,AD,b7,AD,b8,b9,AD,cA,AD,cB,cD,AD,cE,cF,AD,cG,AD,cH,cJ,AD,cK,AD,cL,cM,AD,cN,cO,Va,cP,fA,fB,fC,AD,cQ,cR,AD,fD,AD,fE,fF,AD,fG,AD,fH,fJ,AD,fK,fL,AD,fN,AD,fO,fQ,fR,fS,fU,AD,fW,fX,AD,fY,AD,fZ,fb,AD,fc,fe,AD,ff,AD,fg,fh,AD,fk,fm,AD,fq,AD,ft,fu,AD,fw,AD,fz,f6,AD,f7,f8,AD,f9,gA,AD,gB,gC,AD,gD,gE,AD,gF,gG,AD,gH,gI,AD,gJ,gK]
def KF(P:Params):Frag:=KA.zip (KO.map λo=>o P)
noncomputable def p0:Pos:=⟨0,0,0,0⟩
def ev:Env:={scope:=pw.main.scope,locals:=mainNs,globals:=mainNs,cells:=[],code:=.ref 13,frame:=some 14}
abbrev cd:Code:=.body (behindTheImports pw) ev
noncomputable abbrev cT(t:TR)(n k:Nat)(w:World)(os:OsState):SharedT:=⟨t w.params,n,{},#[],{},k,os⟩
abbrev tl:List Stmt:=(behindTheImports pw).drop 18
abbrev ja:List Stmt:=tl.drop 3
abbrev iR(w:World)(k:Nat)(t:TR)(n m:Nat)(l:List Stmt)(p:Pos):OsState->Option (Flow×SharedT×Code×Pos):=λos=>segRunT treeTable pw w 11 (some (.ref 6)) 1 k (cT t n m w os) (piecesOf l ev cd p [topFrame p0])
abbrev to(w:World)(t:TR)(n m:Nat)(p:Pos):OsState->Option (Flow×SharedT×Code×Pos):=λos=>some (.next,cT t n m w os,cd,p)
theorem go1:∀(w:World),iR w 485 T0 15 187 ((behindTheImports pw).take 18) p0=to w T8 116 321 ⟨69,0,69,8⟩:=by
 intro w
 kernel_rfl
theorem go2:∀(w:World),iR w 1173 T8 116 321 (tl.take 3) ⟨69,0,69,8⟩=to w T1 312 571 ⟨179,0,179,8⟩:=by
 intro w
 kernel_rfl
theorem go3:∀(w:World),iR w 464 T1 312 571 (ja.take 1) ⟨179,0,179,8⟩=to w T9 373 658 ⟨180,0,245,38⟩:=by
 intro w
 kernel_rfl
theorem go4:∀(w:World),iR w 797 T9 373 658 (ja.drop 1) ⟨180,0,245,38⟩=to w T2 498 830 ⟨401,0,431,79⟩:=by
 intro w
 kernel_rfl
theorem go0:∀(w:World),(λos=>topGo treeTable pw w 11 (some (.ref 6)) 12 ⟨boot_heap w.params,#[],boot_drawn,boot_toks,os⟩ (topStub pw))=λos=>some ((cT T0 15 187 w os).abs,⟨denote treeTable cd,cd,p0,[topFrame p0]⟩):=by
 intro w
 kernel_rfl
theorem gob:∀(w:World),(λos=>segRun treeTable pw w 11 (some (.ref 6)) 1 1 (cT T0 15 187 w os).abs (blockOf (behindTheImports pw) ev cd p0 [topFrame p0]))=λos=>some (.next,(cT T0 15 187 w os).abs,cd,p0):=by
 intro w
 kernel_rfl
theorem gof:∀(w:World),(λos=>topRun treeTable pw w 11 (some (.ref 6)) 2 (cT T2 498 830 w os).abs ⟨doneF .next,cd,⟨401,0,431,79⟩,[topFrame p0]⟩)=λos=>some (cT T2 498 830 w os).abs:=by
 intro w
 kernel_rfl
def vw:Program:=view pw [0,2,3,4,5,6,7,8,9,10,11,12,13,14,15,16,18,19,21,22,24,25,26,27,28,29,30,31,32,33,34,35,36,37]
def hk:Hook:=kHook KF KA (λ_=>by kernel_rfl)
abbrev C5(w:World)(os:OsState):Shared:=⟨absHeap (T2 w.params) 498 {},#[],{},830,os⟩
abbrev xt(s:Shared):Bool:=xlAt vw [] s&&recOk PySem.Challenge.rw_no0322_01.row.records s
theorem gL(w:World):(λos=>openSeen vw ["has_domains"] (importedModules pw.main.body) xt true (C5 w os))=λ_=>openGood vw ["has_domains"]:=by
 kernel_rfl
theorem gM(w:World):(λos=>(staticsOk (importedModules pw.main.body) (boot_heap w.params) (absHeap (T2 w.params) 498 {})&&namesBound pw (absHeap (T2 w.params) 498 {})&&gensDone (C5 w os)&&laidKept (boot_heap w.params) (absHeap (T2 w.params) 498 {})))=λ_=>true:=by
 kernel_rfl
theorem gN(w:World):(λos=>hk.obs (C5 w os))=λ_=>hk.val w:=by
 kernel_rfl
theorem cU(w:World):(fencedOpening treeTable pw w 5950).map (λs=>(s.heap,s.gens,s.drawn,s.toks))=some (boot_heap w.params,Array.mk [],boot_drawn,boot_toks) :=
 boot_open (by rfl) (by decide) (λ_=>rfl) w
theorem gO(w:World):((boot_heap w.params).isNs mainGlobals&&(Array.mk []:Array GenState).size==0,(boot_heap w.params).objs.size,(boot_heap w.params).nsMap mainGlobals "__annotations__")=(true,11,some (.ref 6)):=by
 kernel_rfl
theorem ran(w:World)(os:OsState):topRun treeTable pw w 11 (some (.ref 6)) 2934 ⟨boot_heap w.params,Array.mk [],boot_drawn,boot_toks,os⟩ (topStub pw)=some ⟨absHeap (T2 w.params) 498 {},#[],{},830,os⟩:=by
 have k4:=piece_app (env:=ev) (segRun_of (congrFun (go4 w) os)) (piece_nil (env:=ev) (congrFun (gof w) os))
 have k3:=piece_app (env:=ev) (segRun_of (congrFun (go3 w) os)) k4
 have k1:=piece_app (env:=ev) (segRun_of (congrFun (go2 w) os)) k3
 have k2:=piece_app (env:=ev) (segRun_of (congrFun (go1 w) os)) k1
 rw[List.append_nil,List.take_append_drop,List.take_append_drop,List.take_append_drop] at k2
 exact go_top (congrFun (go0 w) os) (piece_block (congrFun (gob w) os) k2)
theorem left:LeftO pw vw ["has_domains"] (λs=>xlAt vw [] s&&recOk PySem.Challenge.rw_no0322_01.row.toRowW.records s) hk.obs hk.val 5950 :=
 LeftO.of_pieces (g0:=true) (H₀:=boot_heap) (H₁:=λP=>absHeap (T2 P) 498 {}) cU gO ran rfl λw=>funext λos=>looks_pair (congrFun (gM w) os) (looks_pair (congrFun (gL w) os) (congrFun (gN w) os))
theorem gP:namesResolve PySem.Challenge.rw_no0322_01.row.prog=true:=by kernel_rfl
theorem gQ:looksOpen PySem.Challenge.rw_no0322_01.row.prog=true:=look_both (look_both (look_both (look_both (look_both (by kernel_rfl) (by kernel_rfl)) gP) (by kernel_rfl)) (by kernel_rfl)) (by kernel_rfl)
theorem gR:PySem.Challenge.rw_no0322_01.row.partSaid=true:=look_both (look_both (look_both (look_both (look_both (look_both (look_both (look_both (look_both (look_both (look_both (look_both (look_both (gQ) (by kernel_rfl)) (by kernel_rfl)) (by kernel_rfl)) (by kernel_rfl)) (by kernel_rfl)) (by kernel_rfl)) (by kernel_rfl)) (by kernel_rfl)) (by kernel_rfl)) (by kernel_rfl)) (by kernel_rfl)) (by kernel_rfl)) (by kernel_rfl)
theorem gS:PySem.Challenge.rw_no0322_01.row.wellSaid=true:=look_both (look_both (gR) (by kernel_rfl)) (by kernel_rfl)
theorem said:PySem.Challenge.rw_no0322_01.wellSaid=true:=look_both (look_both (look_both (look_both (look_both (look_both (look_both (look_both (look_both (look_both (look_both (look_both (look_both (look_both (look_both (look_both (look_both (look_both (gS) (by kernel_rfl)) (by kernel_rfl)) (by kernel_rfl)) (by kernel_rfl)) (by kernel_rfl)) (by kernel_rfl)) (by kernel_rfl)) (by kernel_rfl)) (by kernel_rfl)) (by kernel_rfl)) (by kernel_rfl)) (by kernel_rfl)) (by kernel_rfl)) (by kernel_rfl)) (by kernel_rfl)) (by kernel_rfl)) (by kernel_rfl)) (by kernel_rfl)
theorem Vb:(defOf vw "law").isSome=true:=by kernel_rfl
def dl:DefRec×List (Str×Expr):=(defOf vw "law").get Vb
theorem head(walk:WalkO vw ["has_domains"] (XL vw []) hk.says PySem.Challenge.rw_no0322_01.row.toRowW dl.1 dl.2 λf vs=>PySem.call f vs):PySem.Challenge.rw_no0322_01.Holds:=by
 refine holds_law said λsaid=>?_
 refine holds_open (q:=vw) (loose:=["has_domains"]) (Xt:=λs=>xlAt vw [] s&&recOk PySem.Challenge.rw_no0322_01.row.toRowW.records s) (XP:=XL vw []) (Yf:=hk.obs) (Ya:=hk.val) (YP:=hk.says) (N:=5950) left hk.of hk.keeps (λs e=>xl_of s (Bool.and_eq_true_iff.mp e).1) XL.keeps (d:=dl.1) (kwd:=dl.2) (by exact(Option.some_get Vb).symm) (by kernel_rfl) (by kernel_rfl) (λs e=>recFacts_of (Bool.and_eq_true_iff.mp e).2) (by rfl) said (by decide +kernel) ⟨rfl,rfl,rfl,rfl,rfl,by decide +kernel⟩ ?hw walk
 case hw=>w_witness2
inductive Ln where
 |v (i:Nat)
 |n (k:Nat)
 |p (a b:Ln)
 |t (k:Nat) (a:Ln)
inductive Lz where
 |v (i:Nat)
 |n (k:Nat)
 |p (a b:Lz)
 |t (k:Nat) (a:Lz)
 |s (a b:Lz)
 |g (a:Lz)
 |c (a:Ln)
abbrev Aa:Ln:=.v 0
abbrev Ab:Ln:=.v 1
abbrev Ac:Lz:=.v 0
abbrev Ad:Lz:=.v 1
abbrev Ae:Ln:=.n 1
abbrev Af:Ln:=.v 2
abbrev Ag:Lz:=.c (.v 0)
abbrev Ah:Lz:=.n 1
abbrev Ai:Lz:=.v 2
abbrev Aj:Ln:=.n 1000
abbrev Ak:Lz:=.n 0
abbrev Al:Lz:=.c (.v 1)
abbrev Am:Ln:=.n 0
abbrev An:Ln:=.n 3
abbrev Ao:Ln:=.n 1000000
abbrev Ap:Lz:=.n 1000000
abbrev Aq:Ln:=.v 3
abbrev Ar:Ln:=.n 2
abbrev As:Ln:=.n 4
abbrev Au:Ln:=.n 16777216
abbrev Av:Ln:=.n 100
abbrev Aw:Ln:=.n 20
abbrev Ax:Lz:=.n 2
abbrev Ay:Lz:=.v 3
abbrev Az:Lz:=.n 3
abbrev A0:Ln:=.n 50
abbrev A1:Ln:=.n 900
abbrev A2:Ln:=.v 4
abbrev A3:Ln:=.n 5
abbrev A4:Ln:=.n 100000
abbrev A5:Ln:=.n 256
abbrev A6:Ln:=.n 4194304
abbrev A7:Lz:=.n 1000
abbrev A8:Lz:=.n 9223372036854775808
abbrev A9:Lz:=.n 4611686018427387904
abbrev Ba:Ln:=.n 940
noncomputable def du{α:Type}(z:α):List α->Nat->α
 |[],_=>z
 |x::_,0=>x
 |_::r,i+1=>du z r i
noncomputable def Ln.den(x:List Nat):Ln->Nat
 |.v i=>du 0 x i
 |.n k=>k
 |.p a b=>a.den x+b.den x
 |.t k a=>k*a.den x
noncomputable def Lz.den(x:List Nat)(y:List Int):Lz->Int
 |.v i=>du 0 y i
 |.n k=>(k:Int)
 |.p a b=>a.den x y+b.den x y
 |.t k a=>(k:Int)*a.den x y
 |.s a b=>a.den x y-b.den x y
 |.g a=>- a.den x y
 |.c a=>(a.den x:Int)
inductive Lc where
 |l (a b:Ln)
 |u (a b:Ln)
 |e (a b:Ln)
 |r (a b:Ln)
 |L (a b:Lz)
 |U (a b:Lz)
 |E (a b:Lz)
 |R (a b:Lz)
 |m (k:Nat) (c:Lc)
 |f
noncomputable def Lc.lo:Lc->Lz
 |.l a _=>.c a
 |.u a _=>.p (.c a) (.n 1)
 |.e a _=>.c a
 |.r _ b=>.c b
 |.L a _=>a
 |.U a _=>.p a (.n 1)
 |.E a _=>a
 |.R _ b=>b
 |.m j c=>.t j c.lo
 |.f=>.n 1
noncomputable def Lc.hi:Lc->Lz
 |.l _ b=>.c b
 |.u _ b=>.c b
 |.e _ b=>.c b
 |.r a _=>.c a
 |.L _ b=>b
 |.U _ b=>b
 |.E _ b=>b
 |.R a _=>a
 |.m j c=>.t j c.hi
 |.f=>.n 0
noncomputable def Lc.den(x:List Nat)(y:List Int):Lc->Prop
 |.l a b=>a.den x<=b.den x
 |.u a b=>a.den x<b.den x
 |.e a b=>a.den x=b.den x
 |.r a b=>a.den x=b.den x
 |.L a b=>a.den x y<=b.den x y
 |.U a b=>a.den x y<b.den x y
 |.E a b=>a.den x y=b.den x y
 |.R a b=>a.den x y=b.den x y
 |.m _ c=>c.den x y
 |.f=>False
noncomputable def Lc.gl:Lc->Bool
 |.l .. => true
 |.u .. => true
 |.L .. => true
 |.U .. => true
 |.f=>true
 |_=>false
noncomputable def T3:List Int->List Int->List Int
 |[],b=>b
 |a,[]=>a
 |a::r,b::q=>(a+b)::T3 r q
noncomputable def T4(k:Int):List Int->List Int
 |[]=>[]
 |a::r=>(k*a)::T4 k r
noncomputable def Qd:Nat->List Int
 |0=>[1]
 |i+1=>0::Qd i
noncomputable def F1:List Int->List Int->Int
 |a::r,b::q=>a*b+F1 r q
 |_,_=>0
noncomputable def Ln.nf:Ln->List Int
 |.v i=>0::Qd i
 |.n k=>[(k:Int)]
 |.p a b=>T3 a.nf b.nf
 |.t k a=>T4 k a.nf
def Mz(a b:List Int×List Int):List Int×List Int:=(T3 a.1 b.1,T3 a.2 b.2)
def Pe(k:Int)(a:List Int×List Int):List Int×List Int:=(T4 k a.1,T4 k a.2)
noncomputable def Lz.nf:Lz->List Int×List Int
 |.v i=>([],Qd i)
 |.n k=>([(k:Int)],[])
 |.p a b=>Mz a.nf b.nf
 |.t k a=>Pe k a.nf
 |.s a b=>Mz a.nf (Pe (-1) b.nf)
 |.g a=>Pe (-1) a.nf
 |.c a=>(a.nf,[])
theorem iS:∀a:List Int,F1 a []=0
 |[]=>rfl
 |_::_=>rfl
theorem Mn:∀a b x:List Int,F1 (T3 a b) x=F1 a x+F1 b x
 |[],b,x=>(Int.zero_add _).symm
 |a::r,[],x=>(Int.add_zero _).symm
 |a::r,b::q,[]=>rfl
 |a::r,b::q,y::x=>by
  show(a+b)*y+F1 (T3 r q) x=a*y+F1 r x+(b*y+F1 q x)
  rw[Mn r q x,Int.add_mul,Int.add_assoc,Int.add_assoc,Int.add_left_comm (b*y)]
theorem Mo(k:Int):∀a x:List Int,F1 (T4 k a) x=k*F1 a x
 |[],x=>(Int.mul_zero k).symm
 |a::r,[]=>(Int.mul_zero k).symm
 |a::r,y::x=>by
  show k*a*y+F1 (T4 k r) x=k*(a*y+F1 r x)
  rw[Mo k r x,Int.mul_add,Int.mul_assoc]
theorem M0:∀(i:Nat) (x:List Int),F1 (Qd i) x=du 0 x i
 |0,[]=>rfl
 |0,[y]=>(Int.add_zero _).trans (Int.one_mul y)
 |0,y::_::_=>(Int.add_zero _).trans (Int.one_mul y)
 |i+1,[]=>rfl
 |i+1,y::x=>by
  show 0*y+F1 (Qd i) x=_
  rw[M0 i x,Int.zero_mul]
  exact Int.zero_add _
theorem Qe:∀(x:List Nat) (i:Nat),du (0:Int) (x.map Int.ofNat) i=((du (0:Nat) x i:Nat):Int)
 |[],i=>rfl
 |y::x,0=>rfl
 |y::x,i+1=>Qe x i
noncomputable abbrev gT(x:List Nat):List Int:=1::x.map Int.ofNat
theorem M1(x:List Nat):∀a:Ln,(a.den x:Int)=F1 a.nf (gT x)
 |.v i=>((Int.zero_add _).trans ((M0 i _).trans (Qe x i))).symm
 |.n k=>(Int.mul_one _).symm.trans (by rw[Ln.nf];exact(Int.add_zero _).symm)
 |.p a b=>by rw[Ln.nf,Mn,←M1 x a,←M1 x b];rfl
 |.t k a=>by rw[Ln.nf,Mo,←M1 x a];rfl
def M2(x:List Nat)(y:List Int)(a:List Int×List Int):Int:=F1 a.1 (gT x)+F1 a.2 y
theorem IB(x:List Nat)(y:List Int)(a b:List Int×List Int):M2 x y (Mz a b)=M2 x y a+M2 x y b:=by
 unfold M2 Mz
 rw[Mn,Mn,Int.add_assoc,Int.add_assoc,Int.add_left_comm (F1 b.1 _)]
theorem J6(x:List Nat)(y:List Int)(k:Int)(a:List Int×List Int):M2 x y (Pe k a)=k*M2 x y a:=by
 unfold M2 Pe
 rw[Mo,Mo,Int.mul_add]
theorem Ff(x:List Nat)(y:List Int):∀a:Lz,a.den x y=M2 x y a.nf
 |.v i=>((Int.zero_add _).trans (M0 i y)).symm
 |.n k=>(M1 x (.n k)).trans (Int.add_zero _).symm
 |.p a b=>by rw[Lz.nf,IB,←Ff x y a,←Ff x y b];rfl
 |.t k a=>by rw[Lz.nf,J6,←Ff x y a];rfl
 |.s a b=>by rw[Lz.nf,IB,J6,←Ff x y a,←Ff x y b,Int.neg_one_mul];exact Int.sub_eq_add_neg
 |.g a=>by rw[Lz.nf,J6,←Ff x y a,Int.neg_one_mul];rfl
 |.c a=>(M1 x a).trans (Int.add_zero _).symm
noncomputable def Rn:List Int->Bool
 |[]=>true
 |a::r=>decide (0<=a)&&Rn r
noncomputable def Vc:List Int->Bool
 |[]=>true
 |a::r=>decide (a=0)&&Vc r
theorem M3:∀{a:List Int} (x:List Nat),Rn a=true->0<=F1 a (x.map Int.ofNat)
 |[],_,_=>Int.le_refl _
 |a::r,[],_=>Int.le_refl _
 |a::r,y::x,h =>
  have h:=Bool.and_eq_true_iff.mp h
  Int.add_nonneg (Int.mul_nonneg (of_decide_eq_true h.1) (Int.natCast_nonneg y)) (M3 x h.2)
theorem Ou:∀{a:List Int} (x:List Int),Vc a=true->F1 a x=0
 |[],_,_=>rfl
 |_::_,[],_=>rfl
 |a::r,y::x,h=>by
  have h:=Bool.and_eq_true_iff.mp h
  show a*y+F1 r x=0
  rw[of_decide_eq_true h.1,Ou x h.2,Int.zero_mul];rfl
noncomputable def Vd:List Lc->List Int×List Int
 |[]=>([],[])
 |c::r=>Mz (Mz c.lo.nf (Pe (-1) c.hi.nf)) (Vd r)
def chk(cs:List Lc)(g:Lc):Bool:=g.gl&&match Mz (Mz g.hi.nf (Pe (-1) g.lo.nf)) (Vd cs) with
 |(a,b)=>Rn a&&Vc b
noncomputable def cV(x:List Nat)(y:List Int)(G:Prop):List Lc->Prop
 |[]=>G
 |c::r=>c.den x y->cV x y G r
theorem aR{x:List Nat}{y:List Int}:∀{c:Lc},c.den x y->c.lo.den x y<=c.hi.den x y
 |.l _ _,h=>Int.ofNat_le.mpr h
 |.u _ _,h=>Int.ofNat_lt.mpr h
 |.e _ _,h=>Int.le_of_eq (congrArg Int.ofNat h)
 |.r _ _,h=>Int.le_of_eq (congrArg Int.ofNat h.symm)
 |.L _ _,h=>h
 |.U _ _,h=>Int.add_one_le_of_lt h
 |.E _ _,h=>Int.le_of_eq h
 |.R _ _,h=>Int.le_of_eq h.symm
 |.m k c,h=>Int.mul_le_mul_of_nonneg_left (aR (c:=c) h) (Int.natCast_nonneg k)
 |.f,h=>h.elim
theorem cW{x:List Nat}{y:List Int}:∀{g:Lc},g.gl=true->g.lo.den x y<=g.hi.den x y->g.den x y
 |.l _ _,_,k=>Int.ofNat_le.mp k
 |.u _ _,_,k=>Int.ofNat_lt.mp k
 |.L _ _,_,k=>k
 |.U _ _,_,k=>Int.lt_of_add_one_le k
 |.f,_,k=>absurd (show(1:Int)<=0 from k) (by decide)
theorem TH{x:List Nat}{y:List Int}(a b:Lz):M2 x y (Mz a.nf (Pe (-1) b.nf))=a.den x y-b.den x y:=by
 rw[IB,J6,←Ff,←Ff,Int.neg_one_mul];exact Int.sub_eq_add_neg.symm
theorem TJ{x:List Nat}{y:List Int}{G:Prop}:∀{cs:List Lc},(M2 x y (Vd cs)<=0->G)->cV x y G cs
 |[],h=>h (Int.le_refl _)
 |c::r,h=>λk=>TJ λq=>h (by
  rw[Vd,IB,TH]
  exact Int.add_nonpos (Int.sub_nonpos_of_le (aR k)) q)
theorem AA(x:List Nat)(y:List Int)(cs:List Lc)(g:Lc)(h:chk cs g=true):cV x y (g.den x y) cs:=by
 have h:=Bool.and_eq_true_iff.mp h
 have h2:=Bool.and_eq_true_iff.mp h.2
 refine TJ λk=>cW h.1 (Int.sub_nonneg.mp ?_)
 have e:0<=M2 x y (Mz (Mz g.hi.nf (Pe (-1) g.lo.nf)) (Vd cs)):=by
  exact Int.add_nonneg (M3 (1::x) h2.1) (Int.le_of_eq (Ou y h2.2).symm)
 rw[IB,TH] at e
 exact Int.le_trans e (Int.le_trans (Int.add_le_add_left k _) (Int.le_of_eq (Int.add_zero _)))
theorem J7(a b:Nat):a<=a-b+b:=Nat.sub_le_iff_le_add.mp (Nat.le_refl _)
theorem IC{a b:Nat}(h:b<=a):a-b+b=a:=Nat.sub_add_cancel h
theorem M4{a b:Nat}(h:a<=b)(k:b<=a):a=b:=Nat.le_antisymm h k
theorem nS{α:Type}{a:α}{G:Prop}(h:none=some a):G:=by cases h
theorem sN{α:Type}{a:α}{G:Prop}(h:some a=none):G:=by cases h
theorem Jf{G:Prop}(h:false=true):G:=by cases h
theorem iT{G:Prop}(h:true=false):G:=by cases h
theorem Ea{P0:Prop}{P1:Prop}{G:Prop}(h:P0/\P1)(k:P0->P1->G):G:=by
 obtain⟨w0,w1⟩:=h
 exact k w0 w1
theorem Ex{α:Type}{P0:α->Prop}{G:Prop}(h:∃a,P0 a)(k:∀a,P0 a->G):G:=by
 obtain⟨w0,w1⟩:=h
 exact k w0 w1
theorem OK{P0:Prop}{P1:Prop}{P2:Prop}{G:Prop}(h:P0/\P1/\P2)(k:P0->P1->P2->G):G:=by
 obtain⟨w0,w1,w2⟩:=h
 exact k w0 w1 w2
theorem BG{α:Type}{P0:α->Prop}{P1:α->Prop}{G:Prop}(h:∃a,P0 a/\P1 a)(k:∀a,P0 a->P1 a->G):G:=by
 obtain⟨w0,w1,w2⟩:=h
 exact k w0 w1 w2
theorem OI{α β:Type}{P0:α->β->Prop}{G:Prop}(h:∃a,∃b,P0 a b)(k:∀a,∀b,P0 a b->G):G:=by
 obtain⟨w0,w1,w2⟩:=h
 exact k w0 w1 w2
theorem Pf{P0:Prop}{P1:Prop}{P2:Prop}{P3:Prop}{G:Prop}(h:P0/\P1/\P2/\P3)(k:P0->P1->P2->P3->G):G:=by
 obtain⟨w0,w1,w2,w3⟩:=h
 exact k w0 w1 w2 w3
theorem gU{α:Type}{P0:Prop}{P1:α->Prop}{P2:α->Prop}{G:Prop}(h:P0/\∃a,P1 a/\P2 a)(k:P0->∀a,P1 a->P2 a->G):G:=by
 obtain⟨w0,w1,w2,w3⟩:=h
 exact k w0 w1 w2 w3
theorem jM{α β:Type}{P0:Prop}{P1:α->β->Prop}{G:Prop}(h:P0/\∃a,∃b,P1 a b)(k:P0->∀a,∀b,P1 a b->G):G:=by
 obtain⟨w0,w1,w2,w3⟩:=h
 exact k w0 w1 w2 w3
theorem DO{α:Type}{P0:α->Prop}{P1:α->Prop}{P2:α->Prop}{G:Prop}(h:∃a,P0 a/\P1 a/\P2 a)(k:∀a,P0 a->P1 a->P2 a->G):G:=by
 obtain⟨w0,w1,w2,w3⟩:=h
 exact k w0 w1 w2 w3
theorem M5{α β:Type}{P0:α->β->Prop}{P1:α->β->Prop}{G:Prop}(h:∃a,∃b,P0 a b/\P1 a b)(k:∀a,∀b,P0 a b->P1 a b->G):G:=by
 obtain⟨w0,w1,w2,w3⟩:=h
 exact k w0 w1 w2 w3
theorem cX{α β γ:Type}{P0:α->β->γ->Prop}{G:Prop}(h:∃a,∃b,∃c,P0 a b c)(k:∀a,∀b,∀c,P0 a b c->G):G:=by
 obtain⟨w0,w1,w2,w3⟩:=h
 exact k w0 w1 w2 w3
theorem aS{P0:Prop}{P1:Prop}{P2:Prop}{P3:Prop}{P4:Prop}{G:Prop}(h:P0/\P1/\P2/\P3/\P4)(k:P0->P1->P2->P3->P4->G):G:=by
 obtain⟨w0,w1,w2,w3,w4⟩:=h
 exact k w0 w1 w2 w3 w4
theorem gV{α:Type}{P0:Prop}{P1:Prop}{P2:α->Prop}{P3:α->Prop}{G:Prop}(h:P0/\P1/\∃a,P2 a/\P3 a)(k:P0->P1->∀a,P2 a->P3 a->G):G:=by
 obtain⟨w0,w1,w2,w3,w4⟩:=h
 exact k w0 w1 w2 w3 w4
theorem aT{α:Type}{P0:Prop}{P1:α->Prop}{P2:α->Prop}{P3:α->Prop}{G:Prop}(h:P0/\∃a,P1 a/\P2 a/\P3 a)(k:P0->∀a,P1 a->P2 a->P3 a->G):G:=by
 obtain⟨w0,w1,w2,w3,w4⟩:=h
 exact k w0 w1 w2 w3 w4
theorem gW{α:Type}{P0:α->Prop}{P1:α->Prop}{P2:α->Prop}{P3:α->Prop}{G:Prop}(h:∃a,P0 a/\P1 a/\P2 a/\P3 a)(k:∀a,P0 a->P1 a->P2 a->P3 a->G):G:=by
 obtain⟨w0,w1,w2,w3,w4⟩:=h
 exact k w0 w1 w2 w3 w4
theorem Qf{α β:Type}{P0:α->Prop}{P1:α->Prop}{P2:α->β->Prop}{G:Prop}(h:∃a,P0 a/\P1 a/\∃b,P2 a b)(k:∀a,P0 a->P1 a->∀b,P2 a b->G):G:=by
 obtain⟨w0,w1,w2,w3,w4⟩:=h
 exact k w0 w1 w2 w3 w4
theorem CJ{α β:Type}{P0:α->β->Prop}{P1:α->β->Prop}{P2:α->β->Prop}{G:Prop}(h:∃a,∃b,P0 a b/\P1 a b/\P2 a b)(k:∀a,∀b,P0 a b->P1 a b->P2 a b->G):G:=by
 obtain⟨w0,w1,w2,w3,w4⟩:=h
 exact k w0 w1 w2 w3 w4
theorem J8{α β γ:Type}{P0:α->β->γ->Prop}{P1:α->β->γ->Prop}{G:Prop}(h:∃a,∃b,∃c,P0 a b c/\P1 a b c)(k:∀a,∀b,∀c,P0 a b c->P1 a b c->G):G:=by
 obtain⟨w0,w1,w2,w3,w4⟩:=h
 exact k w0 w1 w2 w3 w4
theorem gX{α β γ δ:Type}{P0:α->β->γ->δ->Prop}{G:Prop}(h:∃a,∃b,∃c,∃d,P0 a b c d)(k:∀a,∀b,∀c,∀d,P0 a b c d->G):G:=by
 obtain⟨w0,w1,w2,w3,w4⟩:=h
 exact k w0 w1 w2 w3 w4
theorem Ro{P0:Prop}{P1:Prop}{P2:Prop}{P3:Prop}{P4:Prop}{P5:Prop}{G:Prop}(h:P0/\P1/\P2/\P3/\P4/\P5)(k:P0->P1->P2->P3->P4->P5->G):G:=by
 obtain⟨w0,w1,w2,w3,w4,w5⟩:=h
 exact k w0 w1 w2 w3 w4 w5
theorem F2{α β:Type}{P0:Prop}{P1:α->β->Prop}{P2:α->β->Prop}{P3:α->β->Prop}{G:Prop}(h:P0/\∃a,∃b,P1 a b/\P2 a b/\P3 a b)(k:P0->∀a,∀b,P1 a b->P2 a b->P3 a b->G):G:=by
 obtain⟨w0,w1,w2,w3,w4,w5⟩:=h
 exact k w0 w1 w2 w3 w4 w5
theorem DX{α β:Type}{P0:α->β->Prop}{P1:α->β->Prop}{P2:α->β->Prop}{P3:α->β->Prop}{G:Prop}(h:∃a,∃b,P0 a b/\P1 a b/\P2 a b/\P3 a b)(k:∀a,∀b,P0 a b->P1 a b->P2 a b->P3 a b->G):G:=by
 obtain⟨w0,w1,w2,w3,w4,w5⟩:=h
 exact k w0 w1 w2 w3 w4 w5
theorem F3{α β γ:Type}{P0:α->β->γ->Prop}{P1:α->β->γ->Prop}{P2:α->β->γ->Prop}{G:Prop}(h:∃a,∃b,∃c,P0 a b c/\P1 a b c/\P2 a b c)(k:∀a,∀b,∀c,P0 a b c->P1 a b c->P2 a b c->G):G:=by
 obtain⟨w0,w1,w2,w3,w4,w5⟩:=h
 exact k w0 w1 w2 w3 w4 w5
theorem M6{α β γ δ:Type}{P0:α->β->γ->δ->Prop}{P1:α->β->γ->δ->Prop}{G:Prop}(h:∃a,∃b,∃c,∃d,P0 a b c d/\P1 a b c d)(k:∀a,∀b,∀c,∀d,P0 a b c d->P1 a b c d->G):G:=by
 obtain⟨w0,w1,w2,w3,w4,w5⟩:=h
 exact k w0 w1 w2 w3 w4 w5
theorem Ve{α β γ δ ε:Type}{P0:α->β->γ->δ->ε->Prop}{G:Prop}(h:∃a,∃b,∃c,∃d,∃e,P0 a b c d e)(k:∀a,∀b,∀c,∀d,∀e,P0 a b c d e->G):G:=by
 obtain⟨w0,w1,w2,w3,w4,w5⟩:=h
 exact k w0 w1 w2 w3 w4 w5
theorem Mp{α β:Type}{P0:α->β->Prop}{P1:α->β->Prop}{P2:α->β->Prop}{P3:α->β->Prop}{P4:α->β->Prop}{G:Prop}(h:∃a,∃b,P0 a b/\P1 a b/\P2 a b/\P3 a b/\P4 a b)(k:∀a,∀b,P0 a b->P1 a b->P2 a b->P3 a b->P4 a b->G):G:=by
 obtain⟨w0,w1,w2,w3,w4,w5,w6⟩:=h
 exact k w0 w1 w2 w3 w4 w5 w6
theorem Cv{α β γ:Type}{P0:α->β->γ->Prop}{P1:α->β->γ->Prop}{P2:α->β->γ->Prop}{P3:α->β->γ->Prop}{G:Prop}(h:∃a,∃b,∃c,P0 a b c/\P1 a b c/\P2 a b c/\P3 a b c)(k:∀a,∀b,∀c,P0 a b c->P1 a b c->P2 a b c->P3 a b c->G):G:=by
 obtain⟨w0,w1,w2,w3,w4,w5,w6⟩:=h
 exact k w0 w1 w2 w3 w4 w5 w6
theorem Qg{α β γ:Type}{P0:α->β->γ->Prop}{P1:α->β->γ->Prop}{P2:α->β->γ->Prop}{P3:α->β->γ->Prop}{P4:α->β->γ->Prop}{G:Prop}(h:∃a,∃b,∃c,P0 a b c/\P1 a b c/\P2 a b c/\P3 a b c/\P4 a b c)(k:∀a,∀b,∀c,P0 a b c->P1 a b c->P2 a b c->P3 a b c->P4 a b c->G):G:=by
 obtain⟨w0,w1,w2,w3,w4,w5,w6,w7⟩:=h
 exact k w0 w1 w2 w3 w4 w5 w6 w7
theorem Vf{α β γ δ ε ζ η:Type}{P0:α->β->γ->δ->ε->ζ->η->Prop}{P1:α->β->γ->δ->ε->ζ->η->Prop}{P2:α->β->γ->δ->ε->ζ->η->Prop}{P3:α->β->γ->δ->ε->ζ->η->Prop}{P4:α->β->γ->δ->ε->ζ->η->Prop}{P5:α->β->γ->δ->ε->ζ->η->Prop}{P6:α->β->γ->δ->ε->ζ->η->Prop}{G:Prop}(h:∃a,∃b,∃c,∃d,∃e,∃f,∃g,P0 a b c d e f g/\P1 a b c d e f g/\P2 a b c d e f g/\P3 a b c d e f g/\P4 a b c d e f g/\P5 a b c d e f g/\P6 a b c d e f g)(k:∀a,∀b,∀c,∀d,∀e,∀f,∀g,P0 a b c d e f g->P1 a b c d e f g->P2 a b c d e f g->P3 a b c d e f g->P4 a b c d e f g->P5 a b c d e f g->P6 a b c d e f g->G):G:=by
 obtain⟨w0,w1,w2,w3,w4,w5,w6,w7,w8,w9,w10,w11,w12,w13⟩:=h
 exact k w0 w1 w2 w3 w4 w5 w6 w7 w8 w9 w10 w11 w12 w13
theorem LQ{α β γ δ ε ζ η θ:Type}{P0:α->β->γ->δ->ε->ζ->η->θ->Prop}{P1:α->β->γ->δ->ε->ζ->η->θ->Prop}{P2:α->β->γ->δ->ε->ζ->η->θ->Prop}{P3:α->β->γ->δ->ε->ζ->η->θ->Prop}{P4:α->β->γ->δ->ε->ζ->η->θ->Prop}{P5:α->β->γ->δ->ε->ζ->η->θ->Prop}{P6:α->β->γ->δ->ε->ζ->η->θ->Prop}{P7:α->β->γ->δ->ε->ζ->η->θ->Prop}{G:Prop}(h:∃a,∃b,∃c,∃d,∃e,∃f,∃g,∃h,P0 a b c d e f g h/\P1 a b c d e f g h/\P2 a b c d e f g h/\P3 a b c d e f g h/\P4 a b c d e f g h/\P5 a b c d e f g h/\P6 a b c d e f g h/\P7 a b c d e f g h)(k:∀a,∀b,∀c,∀d,∀e,∀f,∀g,∀h,P0 a b c d e f g h->P1 a b c d e f g h->P2 a b c d e f g h->P3 a b c d e f g h->P4 a b c d e f g h->P5 a b c d e f g h->P6 a b c d e f g h->P7 a b c d e f g h->G):G:=by
 obtain⟨w0,w1,w2,w3,w4,w5,w6,w7,w8,w9,w10,w11,w12,w13,w14,w15⟩:=h
 exact k w0 w1 w2 w3 w4 w5 w6 w7 w8 w9 w10 w11 w12 w13 w14 w15
theorem Rq{α β γ δ ε ζ:Type}{P0:α->β->γ->δ->ε->ζ->Prop}{P1:α->β->γ->δ->ε->ζ->Prop}{P2:α->β->γ->δ->ε->ζ->Prop}{P3:α->β->γ->δ->ε->ζ->Prop}{P4:α->β->γ->δ->ε->ζ->Prop}{P5:α->β->γ->δ->ε->ζ->Prop}{P6:α->β->γ->δ->ε->ζ->Prop}{P7:α->β->γ->δ->ε->ζ->Prop}{P8:α->β->γ->δ->ε->ζ->Prop}{P9:α->β->γ->δ->ε->ζ->Prop}{P10:α->β->γ->δ->ε->ζ->Prop}{P11:α->β->γ->δ->ε->ζ->Prop}{G:Prop}(h:∃a,∃b,∃c,∃d,∃e,∃f,P0 a b c d e f/\P1 a b c d e f/\P2 a b c d e f/\P3 a b c d e f/\P4 a b c d e f/\P5 a b c d e f/\P6 a b c d e f/\P7 a b c d e f/\P8 a b c d e f/\P9 a b c d e f/\P10 a b c d e f/\P11 a b c d e f)(k:∀a,∀b,∀c,∀d,∀e,∀f,P0 a b c d e f->P1 a b c d e f->P2 a b c d e f->P3 a b c d e f->P4 a b c d e f->P5 a b c d e f->P6 a b c d e f->P7 a b c d e f->P8 a b c d e f->P9 a b c d e f->P10 a b c d e f->P11 a b c d e f->G):G:=by
 obtain⟨w0,w1,w2,w3,w4,w5,w6,w7,w8,w9,w10,w11,w12,w13,w14,w15,w16,w17⟩:=h
 exact k w0 w1 w2 w3 w4 w5 w6 w7 w8 w9 w10 w11 w12 w13 w14 w15 w16 w17
set_option genInjectivity true in
set_option genCtorIdx true in
inductive D where
 |none
 |bool (b:Bool)
 |int (i:Int)
 |str (s:Str)
 |tup (ds:List D)
 |lst (ds:List D)
 |ref (a:Addr)
set_option genInjectivity true in
set_option genCtorIdx true in
inductive AO where
 |list (ds:List D)
 |dict (mP:List (Str×D))
 |inst (C dx:Addr)
 |attrs (mP:List (Str×D))
 |idict
 |pair
noncomputable abbrev KH:=Addr->Option AO
noncomputable abbrev Cy(vs:List Value)(n:Nat):Obj:={cls:=.type "tuple",data:=.seq vs.toArray n}
noncomputable abbrev Ez(vs:List Value)(n:Nat):Obj:={cls:=.type "list",data:=.seq vs.toArray n}
mutual
inductive BN(h:Heap)(H:KH):Value->D->Prop
 |none:BN h H .none .none
 |bool (b:Bool):BN h H (.bool b) (.bool b)
 |int (i:Int) (t:Tok):BN h H (.int i t) (.int i)
 |str (s:Str) (t:Tok):BN h H (.str s t) (.str s)
 |tup {a:Addr} {vs:List Value} {n:Nat} {ds:List D}:h.get? a=some (Cy vs n)->H a=Option.none->vs.length<=sizeLine->AR h H vs ds->BN h H (.ref a) (.tup ds)
 |lst {a:Addr} {vs:List Value} {n:Nat} {ds:List D}:h.get? a=some (Ez vs n)->H a=Option.none->vs.length<=sizeLine->AR h H vs ds->BN h H (.ref a) (.lst ds)
 |ref (a:Addr):BN h H (.ref a) (.ref a)
inductive AR(h:Heap)(H:KH):List Value->List D->Prop
 |nil:AR h H [] []
 |cons {v:Value} {vs:List Value} {d:D} {ds:List D}:BN h H v d->AR h H vs ds->AR h H (v::vs) (d::ds)
end
inductive EW(h:Heap)(H:KH):List DictEntry->List (Str×D)->Prop
 |nil:EW h H [] []
 |cons {hs:Int} {x:Str} {t:Tok} {v:Value} {es:List DictEntry} {d:D} {mP:List (Str×D)}:BN h H v d->EW h H es mP->EW h H (⟨hs,.str x t,v⟩::es) ((x,d)::mP)
@[elab_as_elim] theorem BN.refE{h:Heap}{H:KH}{v:Value}{a:Addr}{P:Value->Prop}(x:BN h H v (.ref a))(k:P (.ref a)):P v:=by cases x;exact k
@[elab_as_elim] theorem BN.intE{h:Heap}{H:KH}{v:Value}{i:Int}{P:Value->Prop}(x:BN h H v (.int i))(k:∀t,P (.int i t)):P v:=by cases x;exact k _
@[elab_as_elim] theorem BN.strE{h:Heap}{H:KH}{v:Value}{i:Str}{P:Value->Prop}(x:BN h H v (.str i))(k:∀t,P (.str i t)):P v:=by cases x;exact k _
@[elab_as_elim] theorem BN.boolE{h:Heap}{H:KH}{v:Value}{b:Bool}{P:Value->Prop}(x:BN h H v (.bool b))(k:P (.bool b)):P v:=by cases x;exact k
@[elab_as_elim] theorem BN.noneE{h:Heap}{H:KH}{v:Value}{P:Value->Prop}(x:BN h H v .none)(k:P .none):P v:=by cases x;exact k
@[elab_as_elim] theorem BN.tupE{h:Heap}{H:KH}{v:Value}{ds:List D}{P:Value->Prop}(x:BN h H v (.tup ds))(k:∀a vs n,h.get? a=some (Cy vs n)->H a=Option.none->vs.length<=sizeLine->AR h H vs ds->P (.ref a)):P v:=by cases x;exact k _ _ _ ‹_› ‹_› ‹_› ‹_›
@[elab_as_elim] theorem BN.lstE{h:Heap}{H:KH}{v:Value}{ds:List D}{P:Value->Prop}(x:BN h H v (.lst ds))(k:∀a vs n,h.get? a=some (Ez vs n)->H a=Option.none->vs.length<=sizeLine->AR h H vs ds->P (.ref a)):P v:=by cases x;exact k _ _ _ ‹_› ‹_› ‹_› ‹_›
@[elab_as_elim] theorem AR.nilE{h:Heap}{H:KH}{vs:List Value}{P:List Value->Prop}(x:AR h H vs [])(k:P []):P vs:=by cases x;exact k
@[elab_as_elim] theorem AR.consE{h:Heap}{H:KH}{vs:List Value}{d:D}{ds:List D}{P:List Value->Prop}(x:AR h H vs (d::ds))(k:∀v r,BN h H v d->AR h H r ds->P (v::r)):P vs:=by cases x;exact k _ _ ‹_› ‹_›
structure BE(H:KH)(h:Heap)(H':KH)(h':Heap):Prop where
 keep:∀a o,h.get? a=some o->H a=none->h'.get? a=some o/\H' a=none
theorem BE.refl(H:KH)(h:Heap):BE H h H h:=⟨λ_ _ e q=>⟨e,q⟩⟩
theorem BE.trans{H H0a H0b:KH}{h h0b h0c:Heap}(x:BE H h H0a h0b)(y:BE H0a h0b H0b h0c):BE H h H0b h0c :=
 ⟨λa o e q=>let ⟨e',q'⟩:=x.keep a o e q;y.keep a o e' q'⟩
noncomputable def T5(h:Heap)(H:KH)(h':Heap)(H':KH):Prop:=∀a (o:Obj) xs n,o.data= .seq xs n->h.get? a=some o->H a=none->h'.get? a=some o/\H' a=none
theorem BN.map{h h':Heap}{H H':KH}(T:T5 h H h' H'){v:Value}{d:D}(x:BN h H v d):BN h' H' v d :=
 BN.rec (motive_1:=λv d _=>BN h' H' v d) (motive_2:=λvs ds _=>AR h' H' vs ds) .none .bool .int .str (λe q l _ r=>.tup (T _ _ _ _ rfl e q).1 (T _ _ _ _ rfl e q).2 l r) (λe q l _ r=>.lst (T _ _ _ _ rfl e q).1 (T _ _ _ _ rfl e q).2 l r) .ref .nil (λ_ _ x r=>.cons x r) x
theorem AR.map{h h':Heap}{H H':KH}(T:T5 h H h' H'){vs:List Value}{ds:List D}(x:AR h H vs ds):AR h' H' vs ds:=by
 refine AR.rec (motive_1:=λv d _=>BN h' H' v d) (motive_2:=λvs ds _=>AR h' H' vs ds) .none .bool .int .str (λe q l _ r=>.tup (T _ _ _ _ rfl e q).1 (T _ _ _ _ rfl e q).2 l r) (λe q l _ r=>.lst (T _ _ _ _ rfl e q).1 (T _ _ _ _ rfl e q).2 l r) .ref .nil (λ_ _ x r=>.cons x r) x
theorem BN.step{h h':Heap}{H H':KH}(S:BE H h H' h'){v d}(x:BN h H v d):BN h' H' v d:=x.map λa o _ _ _ e q=>S.keep a o e q
theorem AR.step{h h':Heap}{H H':KH}(S:BE H h H' h'){vs ds}(x:AR h H vs ds):AR h' H' vs ds:=x.map λa o _ _ _ e q=>S.keep a o e q
theorem EW.step{h h':Heap}{H H':KH}(S:BE H h H' h'){es mP}(x:EW h H es mP):EW h' H' es mP:=by
 induction x with
 |nil=>exact .nil
 |cons x _ ih=>exact .cons (x.step S) ih
theorem BN.handed{h:Heap}{H:KH}{v:Value}{d:D}(x:BN h H v d):handedIn v=true:=by cases x<;>rfl
theorem AR.ind{h:Heap}{H:KH}{P:List Value->List D->Prop}(h0:P [] [])(h1:∀{v vs d ds},BN h H v d->AR h H vs ds->P vs ds->P (v::vs) (d::ds)){vs:List Value}{ds:List D}(x:AR h H vs ds):P vs ds :=
 AR.rec (motive_1:=λ_ _ _=>True) (motive_2:=λvs ds _=>P vs ds) trivial (λ_=>trivial) (λ_ _=>trivial) (λ_ _=>trivial) (λ_ _ _ _ _=>trivial) (λ_ _ _ _ _=>trivial) (λ_=>trivial) h0 (λx r _ ih=>h1 x r ih) x
theorem AR.length{h:Heap}{H:KH}{vs:List Value}{ds:List D}(x:AR h H vs ds):vs.length=ds.length :=
 x.ind (P:=λvs ds=>vs.length=ds.length) rfl λ_ _ ih=>congrArg (· + 1) ih
theorem AR.append{h:Heap}{H:KH}{vs ws:List Value}{ds es:List D}(x:AR h H vs ds)(k:AR h H ws es):AR h H (vs++ws) (ds++es) :=
 x.ind (P:=λvs ds=>AR h H (vs++ws) (ds++es)) k λx _ ih=>.cons x ih
theorem AR.get{h:Heap}{H:KH}{vs:List Value}{ds:List D}{k:Nat}{d:D}(x:AR h H vs ds):ds[k]? = some d->∃v,vs[k]? = some v/\BN h H v d :=
 x.ind (P:=λvs ds=>∀k,ds[k]? = some d->∃v,vs[k]? = some v/\BN h H v d) (λ_=>nS) (λx _ ih k=>Nat.casesOn k (λe=>⟨_,rfl,Option.some.inj e▸x⟩) λk=>ih k) k
theorem AR.set{h:Heap}{H:KH}{vs:List Value}{ds:List D}{k:Nat}{v:Value}{d:D}(x:AR h H vs ds)(y:BN h H v d):AR h H (vs.set k v) (ds.set k d) :=
 x.ind (P:=λvs ds=>∀k,AR h H (vs.set k v) (ds.set k d)) (λ_=>.nil) (λx r ih k=>Nat.casesOn k (.cons y r) λk=>.cons x (ih k)) k
theorem AR.take{h:Heap}{H:KH}{vs:List Value}{ds:List D}(k:Nat)(x:AR h H vs ds):AR h H (vs.take k) (ds.take k) :=
 x.ind (P:=λvs ds=>∀k,AR h H (vs.take k) (ds.take k)) (λk=>Nat.casesOn k .nil λ_=>.nil) (λx r ih k=>Nat.casesOn k .nil λk=>.cons x (ih k)) k
theorem AR.drop{h:Heap}{H:KH}{vs:List Value}{ds:List D}(k:Nat)(x:AR h H vs ds):AR h H (vs.drop k) (ds.drop k) :=
 x.ind (P:=λvs ds=>∀k,AR h H (vs.drop k) (ds.drop k)) (λk=>Nat.casesOn k .nil λ_=>.nil) (λx r ih k=>Nat.casesOn k (.cons x r) λk=>ih k) k
theorem AR.reverse{h:Heap}{H:KH}{vs:List Value}{ds:List D}(x:AR h H vs ds):AR h H vs.reverse ds.reverse :=
 x.ind (P:=λvs ds=>AR h H vs.reverse ds.reverse) .nil λx _ ih=>by rw[List.reverse_cons,List.reverse_cons];exact ih.append (.cons x .nil)
inductive Fe(h:Heap)(H:KH):List (Str×Value)->List (Str×D)->Prop
 |nil:Fe h H [] []
 |cons {x:Str} {v:Value} {mQ:List (Str×Value)} {d:D} {mP:List (Str×D)}:BN h H v d->Fe h H mQ mP->Fe h H ((x,v)::mQ) ((x,d)::mP)
theorem Fe.step{h h':Heap}{H H':KH}(S:BE H h H' h'){mQ mP}(x:Fe h H mQ mP):Fe h' H' mQ mP:=by
 induction x with
 |nil=>exact .nil
 |cons a _ ih=>exact .cons (a.step S) ih
noncomputable def C6:List Str:=["len","tuple","max","min","sum","abs","sorted","range","list","enumerate","zip","super"]
noncomputable def Gv:List Str:=["put_behind","from_values","least","greatest","next_from","has","has_domains","values","up_to","from_on","without","meet","negation","struck","said_of","Store","Circuit","Inverse",
 "_law_tape","_law_draw","_law_rows","_law_is_ring","_law_answers","_law_says","_law_keeps","_law_within","_law_hold","_law_entries_right","_law_asked_right","_law_made","_law_told_right"]
structure Base where
 prog:Program
 w:World
 K:Frag
 h0a:Heap
 mg:Str->Option Value
 mb:Str->Option Value
 hK:K.In h0a
 hg:h0a.Ns mainGlobals mg
 hb:h0a.Ns builtinsNs mb
 lim:h0a.NoLimit
 bi:∀x:Str,x≠"__name__"->mb x=bootBuiltins x
 nb:∀x∈C6,nsIn K mainGlobals x=some none
 fns:∀f∈Gv,∃a,nsIn K mainGlobals f=some (some (.ref a))/\keepIn K (.ref a)=true
noncomputable def T6(B:Base)(h:Heap)(H:KH)(a:Addr):AO->Prop
 |.list ds=>∃vs n,h.get? a=some (Ez vs n)/\vs.length<=sizeLine/\AR h H vs ds
 |.dict mP=>∃mQ,h.DictOf (strKind B.prog B.w) a mQ/\mQ.length<=1000/\Fe h H mQ mP
 |.inst C dx=>h.get? a=some (instObj C dx)
 |.attrs mP=>∃es n,h.get? a=some (dictOf es n)/\es.length<=100/\EW h H es mP
 |.idict=>∃mQ,h.DictOf (intKind B.prog B.w) a mQ/\∀kv∈mQ,0<=kv.1/\kv.1<100
 |.pair=>∃v w,h.get? a=some (Cy [v,w] 0)
structure BP(B:Base)(H:KH)(h:Heap):Prop where
 base:∀b o,B.h0a.get? b=some o->h.get? b=some o/\H b=none
 know:∀a A,H a=some A->(∃o,h.get? a=some o)/\T6 B h H a A
noncomputable def KH.set(H:KH)(b:Addr)(A:AO):KH:=λa=>if a=b then some A else H a
noncomputable def KH.erase(H:KH)(b:Addr):KH:=λa=>if a=b then none else H a
theorem KH.set_self(H:KH)(b:Addr)(A:AO):(H.set b A) b=some A:=if_pos rfl
theorem KH.set_ne(H:KH){a b:Addr}(A:AO)(h:a≠b):(H.set b A) a=H a:=if_neg h
theorem KH.set_set(H:KH)(b:Addr)(A A':AO):(H.set b A).set b A'=H.set b A':=by funext a;unfold KH.set;split<;>rfl
theorem KH.erase_self(H:KH)(b:Addr):(H.erase b) b=none:=if_pos rfl
theorem KH.erase_ne(H:KH){a b:Addr}(h:a≠b):(H.erase b) a=H a:=if_neg h
theorem KH.erase_set(H:KH)(b:Addr)(A:AO)(h:H b=none):(H.set b A).erase b=H:=by funext a;unfold KH.set KH.erase;split<;>simp_all
theorem KH.set_same(H:KH)(b:Addr)(A:AO)(h:H b=some A):H.set b A=H:=by funext a;unfold KH.set;split<;>simp_all
theorem T6.move{B:Base}{h h':Heap}{H H':KH}{a:Addr}{A:AO}(S:BE H h H' h')(e:∀o,h.get? a=some o->h'.get? a=some o)(x:T6 B h H a A):T6 B h' H' a A:=by
 cases A with
 |list ds=>refine CJ x λvs n q l r=>?_;exact⟨vs,n,e _ q,l,r.step S⟩
 |dict mP=>refine DO x λmQ q l r=>?_;refine BG (Heap.dictOf_iff.mp q) λo ho hd=>?_;exact⟨mQ,Heap.dictOf_iff.mpr ⟨o,e _ ho,hd⟩,l,r.step S⟩
 |inst C dx=>exact e _ x
 |attrs mP=>refine CJ x λes n q l r=>?_;exact⟨es,n,e _ q,l,r.step S⟩
 |idict=>refine BG x λmQ q l=>?_;refine BG (Heap.dictOf_iff.mp q) λo ho hd=>?_;exact⟨mQ,Heap.dictOf_iff.mpr ⟨o,e _ ho,hd⟩,l⟩
 |pair=>refine OI x λv w q=>?_;exact⟨v,w,e _ q⟩
theorem BE.put{H:KH}{h h':Heap}{b:Addr}{A:AO}(hx:Heap.ExtBut b h h')(hb:H b≠none\/h.get? b=none):BE H h (H.set b A) h' :=
 ⟨λa o e q=>by
  have hne:a≠b:=by rintro rfl;rcases hb with z|z;exact z q;rw[e] at z;cases z
  exact⟨hx a o hne e,(H.set_ne A hne).trans q⟩⟩
theorem BP.put{B:Base}{H:KH}{h h':Heap}{b:Addr}{A:AO}(R:BP B H h)(hx:Heap.ExtBut b h h')(hb:H b≠none\/h.get? b=none)(h1:∃o,h'.get? b=some o)(h2:T6 B h' (H.set b A) b A) :
  BP B (H.set b A) h':=by
 have S:BE H h (H.set b A) h':=BE.put hx hb
 refine⟨λc o e=>S.keep c o (R.base c o e).1 (R.base c o e).2,λa A' e=>?_⟩
 by_cases hq:a=b
 ·subst hq;rw[KH.set_self] at e;cases e;exact⟨h1,h2⟩
 ·rw[KH.set_ne _ _ hq] at e
  obtain⟨⟨o,ho⟩,r⟩:=R.know a A' e
  exact⟨⟨o,hx a o hq ho⟩,r.move S λo e=>hx a o hq e⟩
theorem BE.ext{H:KH}{h h':Heap}(hx:∀a o,h.get? a=some o->h'.get? a=some o):BE H h H h':=⟨λa o e q=>⟨hx a o e,q⟩⟩
theorem BP.ext{B:Base}{H:KH}{h h':Heap}(R:BP B H h)(hx:∀a o,h.get? a=some o->h'.get? a=some o):BP B H h' :=
 ⟨λc o e=>⟨hx c o (R.base c o e).1,(R.base c o e).2⟩,λa A e=>let ⟨⟨o,ho⟩,r⟩:=R.know a A e;⟨⟨o,hx a o ho⟩,r.move (BE.ext hx) λo e=>hx a o e⟩⟩
theorem BE.extBut{H:KH}{h h':Heap}{b:Addr}(hx:Heap.ExtBut b h h')(hb:h.get? b=none):BE H h H h':=BE.ext λa o e=>hx a o (by rintro rfl;rw[hb] at e;exact nS e) e
theorem BP.extBut{B:Base}{H:KH}{h h':Heap}{b:Addr}(R:BP B H h)(hx:Heap.ExtBut b h h')(hb:h.get? b=none):BP B H h':=R.ext λa o e=>hx a o (by rintro rfl;rw[hb] at e;exact nS e) e
theorem BP.free{B:Base}{H:KH}{h:Heap}(R:BP B H h):H h.objs.size=none:=by
 cases e:H h.objs.size with
 |none=>rfl
 |some A=>obtain⟨⟨o,ho⟩,-⟩:=R.know _ _ e;exact absurd (Heap.lt_size ho) (Nat.lt_irrefl _)
theorem Bq{h:Heap}:h.get? h.objs.size=none:=by
 cases e:h.get? h.objs.size with
 |none=>rfl
 |some o=>exact absurd (Heap.lt_size e) (Nat.lt_irrefl _)
theorem CE{h:Heap}(o:Obj):∀a o',h.get? a=some o'->(h.push o).get? a=some o':=λ_ _ e=>Heap.get?_push_of_some _ e
theorem BP.erase{B:Base}{H:KH}{h:Heap}(R:BP B H h)(b:Addr)(hb:B.h0a.get? b=none):BP B (H.erase b) h/\BE H h (H.erase b) h:=by
 have S:BE H h (H.erase b) h:=⟨λa o e q=>⟨e,by unfold KH.erase;split<;>first|rfl|exact q⟩⟩
 refine⟨⟨λc o e=>S.keep c o (R.base c o e).1 (R.base c o e).2,λa A e=>?_⟩,S⟩
 by_cases hq:a=b
 ·subst hq;rw[KH.erase_self] at e;exact nS e
 ·rw[KH.erase_ne _ hq] at e;exact⟨(R.know a A e).1,(R.know a A e).2.move S λ_ e=>e⟩
theorem BP.out{B:Base}{H:KH}{h:Heap}{b:Addr}{A:AO}(R:BP B H h)(e:H b=some A):B.h0a.get? b=none:=by
 cases q:B.h0a.get? b with
 |none=>rfl
 |some o=>rw[(R.base b o q).2] at e;exact nS e
structure Rm(n:Nat)(A:Around):Prop where
 hd:A.handled=none
 dp:A.depth+n<900
 un:A.units+100*n<9000
 fr:∃l,A.frames=some l
theorem TK{u n k:Nat}(hk:k<=100)(h:u+100*(n+1)<9000):u+k+100*n<9000:=by exact AA [_,_,_] [] [.u (.p Aa (.t 100 (.p Af Ae))) (.n 9000),.l Ab Av] (.u (.p (.p Aa Ab) (.t 100 Af)) (.n 9000)) rfl h hk
theorem Rm.in1{n:Nat}{A:Around}(r:Rm (n+1) A):Rm n A.in1:=⟨r.hd,Nat.lt_of_succ_lt r.dp,TK (k:=1) (by decide) r.un,r.fr⟩
theorem Rm.deeper{n:Nat}{A:Around}{env:Env}(r:Rm (n+1) A):Rm n (A.deeper env) :=
 ⟨r.hd,by show A.depth+1+n<900;rw[Nat.add_right_comm];exact r.dp,TK (k:=3) (by decide) r.un,let ⟨l,e⟩:=r.fr;⟨env::l,by show A.frames.map _=_;rw[e];rfl⟩⟩
theorem Rm.less{n m:Nat}{A:Around}(r:Rm n A)(h:m<=n):Rm m A:=⟨r.hd,Nat.lt_of_le_of_lt (Nat.add_le_add_left h _) r.dp,Nat.lt_of_le_of_lt (Nat.add_le_add_left (Nat.mul_le_mul_left 100 h) _) r.un,r.fr⟩
theorem Rm.depth{n:Nat}{A:Around}(r:Rm n A):A.depth<recursionLimit:=Nat.lt_of_le_of_lt (Nat.le_add_right _ _) (Nat.lt_trans r.dp (by decide:900<1000))
theorem Rm.units{n:Nat}{A:Around}(r:Rm n A):A.units+200<cLine:=Nat.lt_of_lt_of_le (Nat.add_lt_add_right (Nat.lt_of_le_of_lt (Nat.le_add_right _ _) r.un) 200) (by rw[cLine_is];decide)
noncomputable def Nx(H:KH)(s:Shared)(H':KH)(s':Shared):Prop:=(∃h tk,s'={s with heap:=h,toks:=tk})/\BE H s.heap H' s'.heap
theorem Nx.refl(H:KH)(s:Shared):Nx H s H s:=⟨⟨s.heap,s.toks,rfl⟩,BE.refl _ _⟩
theorem Nx.trans{H H0a H0b:KH}{s sb se:Shared}(x:Nx H s H0a sb)(y:Nx H0a sb H0b se):Nx H s H0b se:=by
 obtain⟨⟨h1,t1,rfl⟩,S⟩:=x
 obtain⟨⟨h2,t2,rfl⟩,S'⟩:=y
 exact⟨⟨h2,t2,rfl⟩,S.trans S'⟩
theorem Nx.tok{H:KH}{s:Shared}(tk:Nat):Nx H s H {s with toks:=tk}:=⟨⟨s.heap,tk,rfl⟩,BE.refl _ _⟩
theorem Nx.of{H H':KH}{s:Shared}{h:Heap}{tk:Nat}(S:BE H s.heap H' h):Nx H s H' {s with heap:=h,toks:=tk}:=⟨⟨h,tk,rfl⟩,S⟩
noncomputable abbrev B9:Value->Shared->Prop:=λ_ _=>False
inductive PV(B:Base)(H:KH)(s:Shared)(K:D->KH->Prop)(v:Value)(s':Shared):Prop
 |mk (d:D) (H':KH) (x:BN s'.heap H' v d) (R:BP B H' s'.heap) (n:Nx H s H' s') (k:K d H')
theorem PV.now{B:Base}{H:KH}{s:Shared}{K:D->KH->Prop}{v:Value}{d:D}(x:BN s.heap H v d)(R:BP B H s.heap)(k:K d H):PV B H s K v s:=⟨d,H,x,R,Nx.refl _ _,k⟩
theorem PV.after{B:Base}{H H0a:KH}{s sb s':Shared}{K:D->KH->Prop}{v:Value}(n:Nx H s H0a sb)(p:PV B H0a sb K v s'):PV B H s K v s' :=
 let ⟨d,H',x,R,n',k⟩:=p;⟨d,H',x,R,n.trans n',k⟩
variable {h h':Heap} {H H0a H':KH} {b a I C t:Addr} {env:Env} {s sb s' s0:Shared} {i j n m nr y:Nat} {x name:Str} {k:Bool->Prop} {d d0 d1:D} {pos np apos:Pos} {Q E:Value->Shared->Prop} {v:Value} {B:Base} {ds:List D} {vs:List Value} {e:Expr} {K:D->KH->Prop} {op:CmpOp} {es:List Expr} {A:Around} {mP:List (Str×D)} {ns:List Int} {p:Int×Int} {ps:List (Int×Int)} {l:List (Addr×AO)} {sc is bk:List Nat} {many:Int}
noncomputable def Cd(h:Heap)(a:Addr):Prop:=∀o,h.get? a=some o->(∀xs n,o.data≠.seq xs n)
theorem TL(hb:Cd h b)(hx:Heap.ExtBut b h h'):T5 h H h' H:=λa o xs n z e q=>⟨hx a o (by rintro rfl;exact hb _ e _ _ z) e,q⟩
theorem BN.but(hb:Cd h b)(hx:Heap.ExtBut b h h'){v d}(x:BN h H v d):BN h' H v d:=x.map (TL hb hx)
theorem AR.but(hb:Cd h b)(hx:Heap.ExtBut b h h'){vs ds}(x:AR h H vs ds):AR h' H vs ds:=x.map (TL hb hx)
structure iF(env:Env):Prop where
 kind:env.scope.kind= .function
 glob:env.globals=mainGlobals
 blt:env.builtins=builtinsNs
 nodup:(env.scope.names.map (·.1)).Nodup
 inj:∀x y c,env.cells.lookup x=some c->env.cells.lookup y=some c->x=y
noncomputable def Qh:NameKind->Bool
 |.local| .cell| .free=>true
 |_=>false
noncomputable def At(env:Env)(m:Str->Option Value)(h:Heap)(x:Str)(k:NameKind)(v:Value):Prop:=match k with
 |.local=>m x=some v
 |.cell| .free=>∃c,env.cells.lookup x=some c/\h.IsCell c (some v)
 |_=>False
structure BQ(B:Base)(env:Env)(ρ:List (Option D))(H:KH)(h:Heap):Prop where
 ok:iF env
 len:ρ.length=env.scope.names.length
 hL:H env.locals=none
 bL:B.h0a.get? env.locals=none
 cells:∀x k,(x,k)∈env.scope.names->(k= .cell\/k= .free)->∃c v,env.cells.lookup x=some c/\h.IsCell c v/\H c=none/\(k= .cell->B.h0a.get? c=none)
 vals:∃m,h.Ns env.locals m/\∀(i:Nat) x k (d:D),env.scope.names[i]? = some (x,k)->ρ[i]? = some (some d)->Qh k=true->∃v,At env m h x k v/\BN h H v d
noncomputable def I3(env:Env)(a:Addr):Prop:=a=env.locals\/∃x,env.kindOf x=some .cell/\env.cells.lookup x=some a
structure LL(env:Env)(H:KH)(h:Heap)(H':KH)(h':Heap):Prop where
 keep:∀a o,h.get? a=some o->H a=none->¬I3 env a->h'.get? a=some o/\H' a=none
theorem LL.refl(env:Env)(H:KH)(h:Heap):LL env H h H h:=⟨λ_ _ e q _=>⟨e,q⟩⟩
theorem LL.trans{H0b:KH}{h0b h0c:Heap}(x:LL env H h H0a h0b)(y:LL env H0a h0b H0b h0c):LL env H h H0b h0c :=
 ⟨λa o e q f=>let ⟨e',q'⟩:=x.keep a o e q f;y.keep a o e' q' f⟩
theorem BE.toF(x:BE H h H' h'):LL env H h H' h':=⟨λa o e q _=>x.keep a o e q⟩
noncomputable def ID(env:Env)(H:KH)(s:Shared)(H':KH)(s':Shared):Prop:=(∃h tk,s'={s with heap:=h,toks:=tk})/\LL env H s.heap H' s'.heap
theorem ID.refl(env:Env)(H:KH)(s:Shared):ID env H s H s:=⟨⟨s.heap,s.toks,rfl⟩,LL.refl ..⟩
theorem ID.trans{H0b:KH}{se:Shared}(x:ID env H s H0a sb)(y:ID env H0a sb H0b se):ID env H s H0b se:=by
 obtain⟨⟨h1,t1,rfl⟩,S⟩:=x
 obtain⟨⟨h2,t2,rfl⟩,S'⟩:=y
 exact⟨⟨h2,t2,rfl⟩,S.trans S'⟩
theorem Nx.toF(x:Nx H s H' s'):ID env H s H' s':=⟨x.1,x.2.toF⟩
theorem Cg{l:List (Str×NameKind)}(hn:(l.map (·.1)).Nodup){k:NameKind}(h:l[i]? = some (x,k)):l.lookup x=some k:=by
 induction l generalizing i with
 |nil=>simp at h
 |cons p r ih =>
  obtain⟨y,k'⟩:=p
  rw[List.map_cons,List.nodup_cons] at hn
  cases i with
  |zero=>simp at h;obtain⟨rfl,rfl⟩:=h;simp
  |succ i =>
   have h':r[i]? = some (x,k):=by simpa using h
   have hne:(x==y)=false:=by
    apply beq_eq_false_iff_ne.mpr
    rintro rfl
    exact hn.1 (List.mem_map.mpr ⟨(x,k),List.mem_of_getElem? h',rfl⟩)
   rw[List.lookup_cons,hne];exact ih hn.2 h'
theorem J9{l:List (Str×NameKind)}(hn:(l.map (·.1)).Nodup){k k':NameKind}(h:l[i]? = some (x,k))(h':l[j]? = some (x,k')):i=j:=by
 induction l generalizing i j with
 |nil=>simp at h
 |cons p r ih =>
  rw[List.map_cons,List.nodup_cons] at hn
  cases i with
  |zero =>
   cases j with
   |zero=>rfl
   |succ j =>
    simp at h;subst h
    exact(hn.1 (List.mem_map.mpr ⟨(x,k'),List.mem_of_getElem? (by simpa using h'),rfl⟩)).elim
  |succ i =>
   cases j with
   |zero =>
    simp at h';subst h'
    exact(hn.1 (List.mem_map.mpr ⟨(x,k),List.mem_of_getElem? (by simpa using h),rfl⟩)).elim
   |succ j=>exact congrArg (· + 1) (ih hn.2 (by simpa using h) (by simpa using h'))
theorem IsCell.at{c:Addr}{v:Option Value}(x:h.IsCell c v)(e:∀o,h.get? c=some o->h'.get? c=some o):h'.IsCell c v:=let ⟨o,ho,r⟩:=x;⟨o,e _ ho,r⟩
section
variable {B:Base} {env:Env} {ρ:List (Option D)} {H H':KH} {h h':Heap}
theorem BQ.step(F:BQ B env ρ H h)(S:BE H h H' h'):BQ B env ρ H' h':=by
 obtain⟨ok,len,hL,bL,cells,m,hn,vals⟩:=F
 refine J8 (id hn) λoL esL epL hoL rL=>?_
 have hn':h'.Ns env.locals m:=⟨oL,esL,epL,(S.keep _ _ hoL hL).1,rL⟩
 refine⟨ok,len,(S.keep _ _ hoL hL).2,bL,λx k hm hk=>?_,m,hn',λi x k d hi hρ hv=>?_⟩
 ·refine DX (cells x k hm hk) λc v a b e z=>?_
  refine BG (id b) λo ho hd=>?_
  exact⟨c,v,a,⟨o,(S.keep _ _ ho e).1,hd⟩,(S.keep _ _ ho e).2,z⟩
 ·refine BG (vals i x k d hi hρ hv) λv a q=>?_
  refine⟨v,?_,q.step S⟩
  have hc:(k= .cell\/k= .free)->(∃c,env.cells.lookup x=some c/\h.IsCell c (some v))->∃c,env.cells.lookup x=some c/\h'.IsCell c (some v):=by
   rintro hk ⟨c,a1,a2⟩
   refine DX (cells x k (List.mem_of_getElem? hi) hk) λc' v' b1 b2 b3 _=>?_
   obtain rfl:=Option.some.inj (a1.symm.trans b1)
   exact⟨c,a1,IsCell.at a2 λo e=>(S.keep _ _ e b3).1⟩
  cases k with
  |«local»=>exact a
  |cell=>exact hc (.inl rfl) a
  |free=>exact hc (.inr rfl) a
  |_=>exact a
theorem BQ.less{ρ':List (Option D)}(F:BQ B env ρ H h)(hl:ρ'.length=ρ.length)(hs:∀(i:Nat) (d:D),ρ'[i]? = some (some d)->ρ[i]? = some (some d)):BQ B env ρ' H h :=
 ⟨F.ok,hl.trans F.len,F.hL,F.bL,F.cells,let ⟨m,hn,v⟩:=F.vals;⟨m,hn,λi x k d hi hρ=>v i x k d hi (hs i d hρ)⟩⟩
end
section
variable {B:Base} {env:Env} {ρ:List (Option D)} {H H':KH} {M:Model} {A:Around} {E:Value->Shared->Prop} {s:Shared}
theorem cY{k:NameKind}(F:BQ B env ρ H s.heap)(hi:env.scope.names[i]? = some (x,k))(hk:Qh k=true)(hρ:ρ[i]? = some (some d))
  (hd:(x==("__debug__":Str))=false) (hc:(x==("__classdict__":Str))=false) (h:∀v,BN s.heap H v d->Q v s):wpAny M A (eval (.Name x pos) env) Q E s:=by
 obtain⟨ok,len,hL,bL,cells,m,hn,vals⟩:=F
 refine BG (vals i x k d hi hρ hk) λv a q=>?_
 have hl:=Cg ok.nodup hi
 refine wpAny_Name ?_ hd
 cases k with
 |«local»=>exact wpAny_loadName_local ok.kind hl hn a (h v q)
 |cell=>refine BG a λc a1 a2=>?_;exact wpAny_loadName_cell ok.kind hl a1 a2 (h v q)
 |free=>refine BG a λc a1 a2=>?_;exact wpAny_loadName_free ok.kind hl a1 a2 (h v q) hc
 |_=>cases hk
theorem Eg{m:Str->Option Value}(x:h.Ns a m):Cd h a:=by
 refine F3 x λo es ep ho hd _=>?_
 intro o' ho' xs n e
 obtain rfl:=Option.some.inj (ho.symm.trans ho');rw[hd] at e;cases e
theorem LR{c:Addr}{v:Option Value}(x:h.IsCell c v):Cd h c:=by
 refine BG x λo ho hd=>?_
 intro o' ho' xs n e
 obtain rfl:=Option.some.inj (ho.symm.trans ho');rw[hd] at e;cases e
theorem BP.but(R:BP B H h)(hb:H b=none)(h0:B.h0a.get? b=none)(hs:Cd h b)(hx:Heap.ExtBut b h h'):BP B H h':=by
 refine⟨λc o e=>⟨hx c o (by rintro rfl;rw[h0] at e;exact nS e) (R.base c o e).1,(R.base c o e).2⟩,λa A e=>?_⟩
 obtain⟨⟨o,ho⟩,r⟩:=R.know a A e
 have hab:a≠b:=by rintro rfl;rw[hb] at e;exact nS e
 refine⟨⟨o,hx a o hab ho⟩,?_⟩
 have mv:∀o,h.get? a=some o->h'.get? a=some o:=λo e=>hx a o hab e
 have kv:∀{mQ mP},Fe h H mQ mP->Fe h' H mQ mP:=λy=>by
  induction y with
  |nil=>exact .nil
  |cons a _ ih=>exact .cons (a.but hs hx) ih
 have de:∀{mQ mP},EW h H mQ mP->EW h' H mQ mP:=λy=>by
  induction y with
  |nil=>exact .nil
  |cons a _ ih=>exact .cons (a.but hs hx) ih
 cases A with
 |list ds=>refine CJ r λvs n q l z=>?_;exact⟨vs,n,mv _ q,l,z.but hs hx⟩
 |dict mP=>refine DO r λmQ q l z=>?_;refine BG (Heap.dictOf_iff.mp q) λo ho hd=>?_;exact⟨mQ,Heap.dictOf_iff.mpr ⟨o,mv _ ho,hd⟩,l,kv z⟩
 |inst C dx=>exact mv _ r
 |attrs mP=>refine CJ r λes n q l z=>?_;exact⟨es,n,mv _ q,l,de z⟩
 |idict=>refine BG r λmQ q l=>?_;refine BG (Heap.dictOf_iff.mp q) λo ho hd=>?_;exact⟨mQ,Heap.dictOf_iff.mpr ⟨o,mv _ ho,hd⟩,l⟩
 |pair=>refine OI r λv w q=>?_;exact⟨v,w,mv _ q⟩
theorem Pg{k:NameKind}{Q:Unit->Shared->Prop}(F:BQ B env ρ H s.heap)(R:BP B H s.heap)(hi:env.scope.names[i]? = some (x,k))(hk:k= .local\/k= .cell)(hd:BN s.heap H v d)
  (h:∀s',BQ B env (ρ.set i (some d)) H s'.heap->BP B H s'.heap->ID env H s H s'->(∀{v d},BN s.heap H v d->BN s'.heap H v d)->(k= .local->∀a o,a≠env.locals->s.heap.get? a=some o->s'.heap.get? a=some o)->Q () s'):wpAny M A (bindName env x v) Q E s:=by
 obtain⟨ok,len,hL,bL,cells,m,hn,vals⟩:=F
 have hl:=Cg ok.nodup hi
 refine wpAny_bindName ?_
 have hlt:i<ρ.length:=by rw[len];exact(List.getElem?_eq_some_iff.mp hi).1
 rcases hk with rfl|rfl
 ·refine wpAny_storeName_local hl hn (λh' hn' hs=>?_) (by show(env.scope.kind == .class||(env.scope.kind == .module&&_))=false;rw[ok.kind];rfl)
  have sq:=Eg hn
  have mv:∀{v d},BN s.heap H v d->BN h' H v d:=λq=>q.but sq hs.extBut
  refine h _ ⟨ok,by rw[List.length_set];exact len,hL,bL,λy k' hm hk'=>?_,_,hn',λj y k' d' hj hρ hv=>?_⟩ (R.but hL bL sq hs.extBut) ⟨⟨_,_,rfl⟩,⟨λa o e q f=>⟨hs.extBut a o (λz=>f (.inl z)) e,q⟩⟩⟩ mv λ_ a o ha e=>hs.extBut a o ha e
  ·refine DX (cells y k' hm hk') λc v' a b e z=>?_
   have hc:c≠env.locals:=by
    rintro rfl
    refine F3 hn λo1 _ _ e1 d1 _=>?_
    refine BG b λo2 e2 d2=>?_
    obtain rfl:=Option.some.inj (e1.symm.trans e2);rw[d1] at d2;cases d2
   exact⟨c,v',a,IsCell.at b λo e=>hs.extBut _ o hc e,e,z⟩
  ·by_cases hji:j=i
   ·subst hji
    rw[hi] at hj;cases hj
    rw[List.getElem?_set_self hlt] at hρ;cases hρ
    exact⟨v,by simp[At],mv hd⟩
   ·rw[List.getElem?_set_ne (Ne.symm hji)] at hρ
    refine BG (vals j y k' d' hj hρ hv) λv' a q=>?_
    have hyx:y≠x:=by rintro rfl;exact hji (J9 ok.nodup hj hi)
    refine⟨v',?_,mv q⟩
    have hcell:(∃c,env.cells.lookup y=some c/\s.heap.IsCell c (some v'))->∃c,env.cells.lookup y=some c/\h'.IsCell c (some v'):=by
     rintro⟨c,a1,a2⟩
     have hc:c≠env.locals:=by
      rintro rfl
      refine F3 hn λo1 _ _ e1 d1 _=>?_
      refine BG a2 λo2 e2 d2=>?_
      obtain rfl:=Option.some.inj (e1.symm.trans e2);rw[d1] at d2;cases d2
     exact⟨c,a1,IsCell.at a2 λo e=>hs.extBut _ o hc e⟩
    cases k' with
    |«local»=>simpa[At,hyx] using a
    |cell=>exact hcell a
    |free=>exact hcell a
    |_=>exact a
 ·refine DX (cells x .cell (List.mem_of_getElem? hi) (.inl rfl)) λc ve a b e z=>?_
  refine wpAny_storeName_cell ok.kind hl a b λh' hv' hs=>?_
  have sq:=LR b
  have mv:∀{v d},BN s.heap H v d->BN h' H v d:=λq=>q.but sq hs.extBut
  have hcL:env.locals≠c:=by
   rintro rfl
   refine F3 hn λo1 _ _ e1 d1 _=>?_
   refine BG b λo2 e2 d2=>?_
   obtain rfl:=Option.some.inj (e1.symm.trans e2);rw[d1] at d2;cases d2
  refine J8 (id hn) λoL esL epL hoL rL=>?_
  refine h _ ⟨ok,by rw[List.length_set];exact len,hL,bL,λy k' hm hk'=>?_,m,⟨oL,esL,epL,hs.extBut _ _ hcL hoL,rL⟩,λj y k' d' hj hρ hv=>?_⟩ (R.but e (z rfl) sq hs.extBut)
   ⟨⟨_,s.toks,rfl⟩,⟨λa' o e' q f=>⟨hs.extBut a' o (λw=>f (.inr ⟨x,hl,w▸a⟩)) e',q⟩⟩⟩ mv (λz=>by cases z)
  ·refine DX (cells y k' hm hk') λc' v' a' b' e' z'=>?_
   by_cases hcc:c'=c
   ·subst hcc;exact⟨c',_,a',hv',e',z'⟩
   ·exact⟨c',v',a',IsCell.at b' λo e=>hs.extBut _ o hcc e,e',z'⟩
  ·by_cases hji:j=i
   ·subst hji
    rw[hi] at hj;cases hj
    rw[List.getElem?_set_self hlt] at hρ;cases hρ
    exact⟨v,⟨c,a,hv'⟩,mv hd⟩
   ·rw[List.getElem?_set_ne (Ne.symm hji)] at hρ
    refine BG (vals j y k' d' hj hρ hv) λv' a' q=>?_
    have hyx:y≠x:=by rintro rfl;exact hji (J9 ok.nodup hj hi)
    refine⟨v',?_,mv q⟩
    have hcell:(∃c,env.cells.lookup y=some c/\s.heap.IsCell c (some v'))->∃c,env.cells.lookup y=some c/\h'.IsCell c (some v'):=by
     rintro⟨c',a1,a2⟩
     have hc:c'≠c:=by rintro rfl;exact hyx (ok.inj _ _ _ a1 a)
     exact⟨c',a1,IsCell.at a2 λo e=>hs.extBut _ o hc e⟩
    cases k' with
    |«local»=>exact a'
    |cell=>exact hcell a'
    |free=>exact hcell a'
    |_=>exact a'
end
noncomputable abbrev H0:KH:=λ_=>none
theorem BN.bare{v d}(x:BN h H v d):BN h H0 v d:=x.map λa o _ _ _ e _=>⟨e,rfl⟩
theorem AR.bare{vs ds}(x:AR h H vs ds):AR h H0 vs ds:=x.map λa o _ _ _ e _=>⟨e,rfl⟩
noncomputable def rd(H:KH):D->D
 |.ref a=>match H a with
  |some (.list ds)=>.lst ds
  |_=>.ref a
 |d=>d
theorem HM(R:BP B H h)(x:BN h H v d):BN h H0 v (rd H d):=by
 cases x with
 |ref a =>
  simp only[rd]
  split
  ·rename_i ds e
   refine F2 (R.know _ _ e) λ_ vs n ho l r=>?_
   exact .lst ho rfl l r.bare
  ·exact .ref a
 |none=>exact .none
 |bool b=>exact .bool b
 |int i t=>exact .int i t
 |str s t=>exact .str s t
 |tup e q l r=>exact .tup e rfl l r.bare
 |lst e q l r=>exact .lst e rfl l r.bare
mutual
noncomputable def td:D->Dat
 |.none=>.none
 |.bool b=>.bool b
 |.int i=>.int i
 |.str x=>.str x
 |.tup ds=>.tuple (aU ds)
 |.lst ds=>.list (aU ds)
 |.ref a=>.bytes (Array.replicate a 0)
noncomputable def aU:List D->List Dat
 |[]=>[]
 |d::ds=>td d::aU ds
end
mutual
noncomputable def TM:Dat->D
 |.none=>.none
 |.bool b=>.bool b
 |.int i=>.int i
 |.str x=>.str x
 |.tuple ds=>.tup (M7 ds)
 |.list ds=>.lst (M7 ds)
 |.bytes b=>.ref b.size
noncomputable def M7:List Dat->List D
 |[]=>[]
 |d::ds=>TM d::M7 ds
end
theorem Qi(d:D):TM (td d)=d :=
 D.rec (motive_1:=λd=>TM (td d)=d) (motive_2:=λds=>M7 (aU ds)=ds) rfl (λ_=>rfl) (λ_=>rfl) (λ_=>rfl) (λ_ ih=>congrArg D.tup ih) (λ_ ih=>congrArg D.lst ih) (λ_=>congrArg D.ref Array.size_replicate) rfl
  (λd ds h1 h2=>(congrArg (·::M7 (aU ds)) h1).trans (congrArg (d::·) h2)) d
abbrev pd(d:D):PyData:=kqdP (td d)
abbrev aV(ds:List D):List PyData:=kqdPs (aU ds)
def CG(n:Nat)(d:D):Bool:=kqdOk n (td d)
def Bz(n:Nat)(ds:List D):Bool:=(aU ds).all (kqdOk n)
theorem Jg(h:Bz n (d::ds)=true):CG n d=true/\Bz n ds=true:=Bool.and_eq_true_iff.mp h
section
variable {h:Heap}
def iU(h:Heap)(v:Value)(d:D):Prop:=∀n,CG n d=true->∃as,Reads h v (pd d) as
def gY(h:Heap)(vs:List Value)(ds:List D):Prop:=∀n,Bz n ds=true->∃as,ReadsAll h vs (aV ds) as
theorem cZ(e:h.get? a=some (Cy vs m))(ih:gY h vs ds):iU h (.ref a) (.tup ds):=λn =>
 Nat.casesOn n (λhk=>Jf hk) λn hk=>Ex (ih n hk) λas q=>⟨as,reads_tuple_at e rfl rfl q⟩
theorem ca(e:h.get? a=some (Ez vs m))(ih:gY h vs ds):iU h (.ref a) (.lst ds):=λn =>
 Nat.casesOn n (λhk=>Jf hk) λn hk=>Ex (ih n hk) λas q=>⟨_,reads_list_at e rfl rfl q⟩
theorem ZF(x:iU h v d)(r:gY h vs ds):gY h (v::vs) (d::ds):=λn hk =>
 Ea (Jg hk) λh1 h2=>Ex (x n h1) λas q=>Ex (r n h2) λbs p=>⟨_,ReadsAll.cons q p⟩
theorem KB(n:Nat)(x:BN h H0 v d):CG n d=true->∃as,Reads h v (pd d) as :=
 BN.rec (motive_1:=λv d _=>iU h v d) (motive_2:=λvs ds _=>gY h vs ds) (λ_ _=>⟨_,Reads.none⟩) (λb n=>Nat.casesOn n (λhk=>Jf hk) λ_ hk=>Jf hk) (λi t _ _=>⟨_,Reads.int i t⟩) (λi t _ _=>⟨_,Reads.str i t⟩)
  (λe _ _ _ ih=>cZ e ih) (λe _ _ _ ih=>ca e ih) (λa n=>Nat.casesOn n (λhk=>Jf hk) λ_ hk=>Jf hk) (λ_ _=>⟨_,ReadsAll.nil⟩) (λ_ _ x r=>ZF x r) x n
end
theorem Rr(n:Nat)(d:D)(h:CG n d=true):(pd d).canLay0=true/\(pd d).depth<=n:=kqd_lay n (td d) h
theorem ZG(n:Nat)(ds:List D)(h:Bz n ds=true):PyData.canLayAll0 (aV ds)=true/\PyData.depthAll (aV ds)<=n :=
 Ea (kqd_lay (n+1) (.tuple (aU ds)) h) λa b=>⟨a,Nat.le_of_succ_le_succ b⟩
theorem cb(n k:Nat)(d e:D)(h:CG n d=true)(h':CG k e=true):PyData.eqv (pd d) (pd e)=true↔d=e :=
 (kqd_eqv n (td d) (td e) k h h').trans ⟨λq=>(Qi d).symm.trans ((congrArg TM q).trans (Qi e)),λq=>congrArg td q⟩
open Classical in
noncomputable def OJ(a b:D):Bool:=decide (a=b)
open Classical in
noncomputable def inB(a:D)(ds:List D):Bool:=decide (a∈ds)
open Classical in
@[simp] theorem CF(a b:D):(OJ a b=true)↔a=b:=by unfold OJ;exact decide_eq_true_iff
open Classical in
@[simp] theorem I4(a b:D):(OJ a b=false)↔a≠b:=by unfold OJ;exact decide_eq_false_iff_not
open Classical in
@[simp] theorem KC(a:D)(ds:List D):(inB a ds=true)↔a∈ds:=by unfold inB;exact decide_eq_true_iff
open Classical in
@[simp] theorem dv(a:D)(ds:List D):(inB a ds=false)↔a∉ds:=by unfold inB;exact decide_eq_false_iff_not
theorem DY{a b:Bool}(h:a=true↔b=true):a=b:=by cases a<;>cases b<;>simp_all
theorem Ph{k:Nat}{e:D}(h:CG n d=true)(h':CG k e=true):PyData.eqv (pd d) (pd e)=OJ d e:=DY ((cb n k d e h h').trans (CF d e).symm)
theorem ZH{k:Nat}(h':CG k d=true):Bz n ds=true->((aV ds).any λy=>PyData.eqv y (pd d))=inB d ds:=by
 induction ds with
 |nil=>exact λ_=>(DY ⟨λh=>Jf h,λh=>nomatch (KC _ _).mp h⟩)
 |cons e ds ih =>
  intro h
  refine(congr (congrArg or (Ph (Jg h).1 h')) (ih (Jg h).2)).trans (DY ?_)
  rw[Bool.or_eq_true,CF,KC,KC,List.mem_cons]
  exact or_congr ⟨Eq.symm,Eq.symm⟩ Iff.rfl
noncomputable def DC(d:D)(K:Int->Prop):Prop:=match d with
 |.int i=>K i
 |_=>False
theorem Gw{K:Int->Prop}(h:DC d K):∃i,d= .int i/\K i:=by
 cases d<;>first|exact h.elim|exact⟨_,rfl,h⟩
noncomputable def TN(d:D)(K:Bool->Prop):Prop:=match d with
 |.bool i=>K i
 |_=>False
theorem M8{K:Bool->Prop}(h:TN d K):∃i,d= .bool i/\K i:=by
 cases d<;>first|exact h.elim|exact⟨_,rfl,h⟩
noncomputable def ZI(d:D)(K:List D->Prop):Prop:=match d with
 |.tup ds=>K ds
 |_=>False
theorem Pi{K:List D->Prop}(h:ZI d K):∃i,d= .tup i/\K i:=by
 cases d<;>first|exact h.elim|exact⟨_,rfl,h⟩
noncomputable def ce(d:D)(K:List D->Prop):Prop:=match d with
 |.lst ds=>K ds
 |.tup ds=>K ds
 |_=>False
theorem TP{K:List D->Prop}(h:ce d K):∃ds,(d= .lst ds\/d= .tup ds)/\K ds:=by
 cases d<;>first|exact h.elim|exact⟨_,.inl rfl,h⟩|exact⟨_,.inr rfl,h⟩
theorem Gx{i:Int}(x:BN h H v (.int i)):∃t,v= .int i t:=by
 refine x.intE λ_=>?_;exact⟨_,rfl⟩
theorem KD{i:Bool}(x:BN h H v (.bool i)):v= .bool i:=by
 refine x.boolE ?_;rfl
theorem Qj(x:BN h H v .none):v= .none:=by
 refine x.noneE ?_;rfl
theorem Pj(x:BN h H v (.tup ds)):∃a vs n,v= .ref a/\h.get? a=some (Cy vs n)/\H a=none/\vs.length<=sizeLine/\AR h H vs ds:=by
 refine x.tupE λ_ _ _ e q l r=>?_
 exact⟨_,_,_,rfl,e,q,l,r⟩
def jb(a b:D)(K:Bool->Prop):Prop:=match b with
 |.none=>match a with
  |.none=>K true
  |.tup _=>K false
  |_=>False
 |.bool y=>TN a λx=>K (x==y)
 |_=>False
section
variable {B:Base} {H:KH} {A:Around} {s:Shared} {va vb:Value} {a b:D} {K:Bool->Prop}
noncomputable abbrev AY:Nat:=6
noncomputable def jl:CmpOp->Bool
 |.Eq| .NotEq=>true
 |_=>false
theorem cf{Q:Prop}(ha:BN s.heap H0 va a)(hb:BN s.heap H0 vb b)(k:jb a b K)(z:∀{c:Bool},K c->plainIs va vb=true->(va==vb)=c->Q):Q:=by
 cases b<;>first|exact k.elim|skip
 ·obtain rfl:=Qj hb
  cases a<;>first|exact k.elim|skip
  ·obtain rfl:=Qj ha
   exact z k rfl rfl
  ·refine J8 (Pj ha) λa vs n mN _=>?_;subst mN
   exact z k rfl rfl
 ·refine BG (M8 k) λx e k'=>?_
  subst e
  obtain rfl:=KD ha
  obtain rfl:=KD hb
  exact z k' rfl ((show ∀x y:Bool,(Value.bool x==Value.bool y)=(x==y) from by decide) _ _)
@[irreducible] def CA(op:CmpOp)(a b:D)(K:Bool->Prop):Prop :=
 match op with
 |.Lt=>DC a λi=>DC b λj=>K (decide (i<j))
 |.LtE=>DC a λi=>DC b λj=>K (decide (i<=j))
 |.Gt=>DC a λi=>DC b λj=>K (decide (j<i))
 |.GtE=>DC a λi=>DC b λj=>K (decide (j<=i))
 |.Eq=>CG AY a=true/\CG AY b=true/\K (OJ a b)
 |.NotEq=>CG AY a=true/\CG AY b=true/\K (!OJ a b)
 |.In=>ce b λds=>CG AY a=true/\Bz AY ds=true/\K (inB a ds)
 |.NotIn=>ce b λds=>CG AY a=true/\Bz AY ds=true/\K (!inB a ds)
 |.Is=>jb a b K
 |.IsNot=>TN a λx=>TN b λy=>K (!(x==y))
theorem Mq{f:Int->Int->Bool}(ha:BN s.heap H0 va a)(hb:BN s.heap H0 vb b)(k:DC a λi=>DC b λj=>K (f i j))(h:∀c tk,K c->Q (.bool c) {s with toks:=tk})
  (z:∀i j t u,Q (.bool (f i j)) s->wpAny (model B.prog B.w) A (compareOp op (.int i t) (.int j u)) Q E s):wpAny (model B.prog B.w) A (compareOp op va vb) Q E s:=by
 refine BG (Gw k) λi e k'=>?_
 refine BG (Gw k') λj e' k'=>?_
 subst e e'
 refine Ex (Gx ha) λt mN=>?_;subst mN
 refine Ex (Gx hb) λu mN=>?_;subst mN
 exact z i j t u (h _ s.toks k')
theorem Vg{Q:Prop}(hu:A.units+190<cLine)(ha:BN s.heap H0 va a)(hb:BN s.heap H0 vb b)(k1:CG AY a=true)(k2:CG AY b=true)
  (z:∀{as bs},Reads s.heap va (pd a) as->Reads s.heap vb (pd b) bs->SeqAt.shaped (pd a)=true->SeqAt.shaped (pd b)=true->A.units+64<cLine->Q):Q:=by
 have sh:∀{d:D},CG AY d=true->SeqAt.shaped (pd d)=true:=λ{d} e=>by
  unfold SeqAt.shaped;rw[(Rr _ d e).1,Bool.true_and];exact decide_eq_true (Nat.le_trans (Rr _ d e).2 (by decide))
 refine Ex (KB _ ha k1) λas ra=>?_
 refine Ex (KB _ hb k2) λbs rb=>?_
 exact z ra rb (sh k1) (sh k2) (Nat.lt_of_le_of_lt (Nat.add_le_add_left (by decide) _) hu)
theorem Pk{Q:Prop}(hu:A.units+190<cLine)(ha:BN s.heap H0 va a)(hb:BN s.heap H0 vb b)(k1:CG AY a=true)(k2:Bz AY ds=true)(hq:CG (AY+1) b=Bz AY ds)
  (z:∀{as bs},Reads s.heap va (pd a) as->Reads s.heap vb (pd b) bs->PyData.canLayAll0 (aV ds)=true->(pd a).canLay0=true->A.units+1+min (PyData.depthAll (aV ds)) (pd a).depth<cLine->((aV ds).any λy=>PyData.eqv y (pd a))=inB a ds->Q):Q:=by
 refine Ex (KB _ ha k1) λas ra=>?_
 refine Ex (KB (n:=AY+1) hb (hq.trans k2)) λbs rb=>?_
 have l1:=Rr _ _ k1
 exact z ra rb (ZG _ _ k2).1 l1.1 (by have:=Nat.min_le_right (PyData.depthAll (aV ds)) (pd a).depth;have:=l1.2;have e6:AY=6:=rfl;exact AA [_,_,_,_,_] [] [.u (.p Aa (.n 190)) Aq,.l Af A2,.e A2 (.n 6),.l Ab Af] (.u (.p (.p Aa Ae) Ab) Aq) rfl hu l1.2 e6 (Nat.min_le_right _ _)) (ZH k1 k2)
theorem TQ(hu:A.units+190<cLine)(ha:BN s.heap H0 va a)(hb:BN s.heap H0 vb b)(k:CA op a b K)(h:∀c tk,K c->Q (.bool c) {s with toks:=tk}) :
  wpAny (model B.prog B.w) A (compareOp op va vb) Q E s:=by
 unfold CA at k
 cases op with
 |Lt=>exact Mq ha hb k h λi j t u q=>wpAny_lt_int q
 |LtE=>exact Mq ha hb k h λi j t u q=>PySem.P.le_int q
 |Gt=>exact Mq ha hb k h λi j t u q=>PySem.P.gt_int q
 |GtE=>exact Mq ha hb k h λi j t u q=>PySem.P.ge_int q
 |Eq=>exact Vg hu ha hb k.1 k.2.1 λra rb s1 s2 u=>eq_dataH ra rb s1 s2 u (by rw[Ph k.1 k.2.1];exact h _ s.toks k.2.2)
 |NotEq=>exact Vg hu ha hb k.1 k.2.1 λra rb s1 s2 u=>ne_dataH ra rb s1 s2 u (by rw[Ph k.1 k.2.1];exact h _ s.toks k.2.2)
 |In =>
  obtain⟨ds,rfl|rfl,k1,k2,k3⟩:=TP k
  ·exact Pk hu ha hb k1 k2 rfl λra rb l1 l2 u e=>SeqAt.in_list_reads rb ra l1 l2 u (by rw[e];exact h _ s.toks k3)
  ·exact Pk hu ha hb k1 k2 rfl λra rb l1 l2 u e=>SeqAt.in_tuple_reads rb ra l1 l2 u (by rw[e];exact h _ s.toks k3)
 |NotIn =>
  obtain⟨ds,rfl|rfl,k1,k2,k3⟩:=TP k
  ·exact Pk hu ha hb k1 k2 rfl λra rb l1 l2 u e=>SeqAt.notIn_list_reads rb ra l1 l2 u (by rw[e];exact h _ s.toks k3)
  ·exact Pk hu ha hb k1 k2 rfl λra rb l1 l2 u e=>SeqAt.notIn_tuple_reads rb ra l1 l2 u (by rw[e];exact h _ s.toks k3)
 |Is=>exact cf ha hb k λc p e=>wpAny_is_plain p (by rw[e];exact h _ s.toks c)
 |IsNot =>
  refine BG (M8 k) λx e k'=>?_
  refine BG (M8 k') λy e' k'=>?_
  subst e e'
  obtain rfl:=KD ha
  obtain rfl:=KD hb
  exact wpAny_isNot_plain rfl (by rw[show ∀x y:Bool,(Value.bool x==Value.bool y)=(x==y) from by decide];exact h _ s.toks k')
theorem LS(rm:Rm nr A)(ha:BN s.heap H0 va a)(hb:BN s.heap H0 vb b)(k:CA op a b K)(h:∀c tk,K c->Q (.bool c) {s with toks:=tk}) :
  wpAny (model B.prog B.w) A (compareOp op va vb) Q E s:=TQ (Nat.lt_of_le_of_lt (by exact AA [_] [] [] (.l (.p Aa (.n 190)) (.p Aa (.n 200))) rfl) rm.units) ha hb k h
end
section
variable {B:Base} {H:KH} {A:Around} {s:Shared} {va vb:Value} {a b:D} {K:D->KH->Prop}
theorem TS(o:Obj)(tk:Nat):Nx H s H {s with heap:=s.heap.push o,toks:=tk}:=⟨⟨_,_,rfl⟩,BE.ext (CE o)⟩
def ZJ(op:Operator)(a b:D)(H:KH)(K:D->KH->Prop):Prop :=
 match op with
 |.Add=>match a with
  |.tup xs=>ZI b λys=>xs.length+ys.length<=1000000/\K (.tup (xs++ys)) H
  |a=>DC a λi=>DC b λj=>K (.int (i+j)) H
 |.Sub=>DC a λi=>DC b λj=>K (.int (i-j)) H
 |.Mult=>DC a λi=>DC b λj=>(i.natAbs<2^30/\j.natAbs<2^30)/\K (.int (i*j)) H
 |.Mod=>DC a λi=>DC b λj=>(0<j/\j<1000000)/\K (.int (i%j)) H
 |.FloorDiv=>DC a λi=>DC b λj=>(0<j/\j<1000000)/\K (.int (i/j)) H
 |.Pow=>DC a λi=>DC b λj=>(0<=j/\j<=1000/\i.natAbs<1000)/\K (.int (i^j.toNat)) H
 |_=>False
theorem I5{op:Operator}{P:Int->Int->Prop}(ha:BN s.heap H va a)(hb:BN s.heap H vb b)(k:DC a λi=>DC b λj=>P i j)
  (z:∀i j t u,P i j->wpAny (model B.prog B.w) A (binaryOp op (.int i t) (.int j u)) (PV B H s K) B9 s):wpAny (model B.prog B.w) A (binaryOp op va vb) (PV B H s K) B9 s:=by
 refine BG (Gw k) λi e k'=>?_
 refine BG (Gw k') λj e' k'=>?_
 subst e e'
 refine Ex (Gx ha) λt mN=>?_;subst mN
 refine Ex (Gx hb) λu mN=>?_;subst mN
 exact z i j t u k'
theorem ZK{xs ys:List D}(R:BP B H s.heap)(ha:BN s.heap H va (.tup xs))(hb:BN s.heap H vb (.tup ys))(k1:xs.length+ys.length<=1000000)(k:K (.tup (xs++ys)) H):wpAny (model B.prog B.w) A (binaryOp .Add va vb) (PV B H s K) B9 s:=by
 refine Qg (Pj ha) λa1 vs n mN e1 q1 l1 r1=>?_;subst mN
 refine Qg (Pj hb) λa2 ws m mN e2 q2 l2 r2=>?_;subst mN
 by_cases hv:vs=[]
 ·have hx:xs=[]:=by have:=r1.length;subst hv;exact List.eq_nil_of_length_eq_zero this.symm
  subst hx
  exact concat_meets ⟨_,e1,rfl⟩ ⟨_,e2,rfl⟩ noFill_tuple_add seq_tuple_add PySem.F.slot_tuple_add PySem.F.entry_tuple_add (PySem.F.args_tuple_add_2 _ _)
   (tuple_addW0 _ _ vs.toArray ws.toArray _ _ none none #[] #[] (by simp[hv])) ⟨e1,e2,PV.now (.tup e2 q2 l2 r2) R k⟩
 ·by_cases hw:ws=[]
  ·have hy:ys=[]:=by have:=r2.length;subst hw;exact List.eq_nil_of_length_eq_zero this.symm
   subst hy
   rw[List.append_nil] at k
   exact concat_meets ⟨_,e1,rfl⟩ ⟨_,e2,rfl⟩ noFill_tuple_add seq_tuple_add PySem.F.slot_tuple_add PySem.F.entry_tuple_add (PySem.F.args_tuple_add_2 _ _)
    (tuple_addW1 _ _ vs.toArray ws.toArray _ _ none none #[] #[] (by simpa using hv) (by simp[hw])) ⟨e1,e2,PV.now (.tup e1 q1 l1 r1) R k⟩
  ·have hz:vs.length+ws.length<=sizeLine:=by rw[r1.length,r2.length,sizeLine_eq];exact Nat.le_trans k1 (by decide)
   refine concat_meets ⟨_,e1,rfl⟩ ⟨_,e2,rfl⟩ noFill_tuple_add seq_tuple_add PySem.F.slot_tuple_add PySem.F.entry_tuple_add (PySem.F.args_tuple_add_2 _ _)
    (tuple_addW2 _ _ vs.toArray ws.toArray _ _ none none #[] #[] (by simpa using hv) (by simpa using hw) (by rw[List.size_toArray,List.size_toArray];exact hz)) ⟨e1,e2,?_⟩
   rw[show vs.toArray++ws.toArray=(vs++ws).toArray by simp]
   have S:BE H s.heap H (s.heap.push (Cy (vs++ws) 0)):=BE.ext (CE _)
   exact⟨_,H,.tup (Heap.get?_push_size _ rfl) R.free (by rw[List.length_append];exact hz) ((r1.append r2).step S),R.ext (CE _),TS _ _,k⟩
theorem cg{op:Operator}(rm:Rm nr A)(R:BP B H s.heap)(ha:BN s.heap H va a)(hb:BN s.heap H vb b)(k:ZJ op a b H K):wpAny (model B.prog B.w) A (binaryOp op va vb) (PV B H s K) B9 s:=by
 unfold ZJ at k
 cases op with
 |Sub=>exact I5 ha hb k λi j t u k=>PySem.P.sub_int ⟨_,H,.int _ _,R,Nx.tok _,k⟩
 |Mult=>exact I5 ha hb k λi j t u k=>PySem.P.mul_int ⟨_,H,.int _ _,R,Nx.tok _,k.2⟩ (by have:=k.1.1;have:=k.1.2;first|exact IntMulOk.of_small (by omega) (by omega)|mul_fits)
 |Mod=>exact I5 ha hb k λi j t u k=>mod_int' (Int.ne_of_gt k.1.1) ⟨_,H,.int _ _,R,Nx.tok _,by rw[Int.fmod_eq_emod_of_nonneg _ (Int.le_of_lt k.1.1)];exact k.2⟩
 |FloorDiv=>exact I5 ha hb k λi j t u k=>floordiv_int (Int.ne_of_gt k.1.1) ⟨_,H,.int _ _,R,Nx.tok _,by rw[Int.fdiv_eq_ediv_of_nonneg _ (Int.le_of_lt k.1.1)];exact k.2⟩ (.inl (PyProof.noPylong_small (by have:=k.1.1;have:=k.1.2;exact(Int.le_total 0 _).elim (λmH=>AA [_] [_] [.U Ac Ap,.E Ag Ac] (.u Aa (.n 1073741824)) rfl k.1.2 (Int.natAbs_of_nonneg mH)) (λmH=>AA [_] [_] [.U Ak Ac,.E Ag (.g Ac)] (.u Aa (.n 1073741824)) rfl k.1.1 (Int.ofNat_natAbs_of_nonpos mH)))))
 |Pow=>exact I5 ha hb k λi j t u k=>pow_int_small k.1.1 (by have:=k.1.2.1;exact AA [] [_] [.L Ac A7] (.L Ac Ap) rfl k.1.2.1) (by have:=k.1.2.2;exact AA [_] [] [.u Aa Aj] (.u Aa (.n 18446744073709551616)) rfl k.1.2.2) ⟨_,H,.int _ _,R,Nx.tok _,k.2⟩
 |Add =>
  cases a<;>first
   |exact I5 ha hb k λi j t u k=>wpAny_add_int ⟨_,H,.int _ _,R,Nx.tok _,k⟩
   |skip
  refine DO (Pi k) λys mN k1 k2=>?_;subst mN
  exact ZK R ha hb k1 k2
 |_=>exact k.elim
end
noncomputable def BC(H:KH):D->Option (Bool×List D)
 |.tup ds=>some (false,ds)
 |.lst ds=>some (true,ds)
 |.ref a=>match H a with
  |some (.list ds)=>some (true,ds)
  |_=>none
 |_=>none
abbrev ZM(b:Bool)(vs:List Value)(n:Nat):Obj:=if b then Ez vs n else Cy vs n
theorem E9{b:Bool}(R:BP B H h)(x:BN h H v d)(e:BC H d=some (b,ds)) :
  ∃a vs n,v= .ref a/\h.get? a=some (ZM b vs n)/\vs.length<=sizeLine/\AR h H vs ds:=by
 cases x with
 |ref a =>
  simp only[BC] at e
  split at e
  ·rename_i ds' q
   cases e
   refine F2 (R.know _ _ q) λ_ vs n ho l r=>?_
   exact⟨a,vs,n,rfl,ho,l,r⟩
  ·exact nS e
 |tup e' q l r=>cases e;exact⟨_,_,_,rfl,e',l,r⟩
 |lst e' q l r=>cases e;exact⟨_,_,_,rfl,e',l,r⟩
 |_=>cases e
noncomputable def T7(ds:List D)(k:Int):Option D:=if 0<=k then ds[k.toNat]? else if -(ds.length:Int)<=k then ds[(k+ds.length).toNat]? else none
theorem ch{k:Int}(h:T7 ds k=some d)(hz:ds.length<=sizeLine) : -(2^63)<=k/\k<2^63/\∃j,seqIndex? k ds.length=some j/\ds[j]? = some d:=by
 rw[sizeLine_eq] at hz
 unfold T7 at h
 split at h
 ·rename_i h0
  have hlt:=(List.getElem?_eq_some_iff.mp h).1
  refine⟨by exact AA [] [_] [.L Ak Ac] (.L (.g A8) Ac) rfl h0,by exact AA [_,_] [_] [.u Ab Aa,.l Aa Au,.L Ac Al] (.U Ac A8) rfl hlt hz (Int.self_le_toNat _),k.toNat,?_,h⟩
  unfold seqIndex?
  simp only[show ¬k<0 by exact Int.not_lt.mpr (AA [] [_] [.L Ak Ac] (.L Ak Ac) rfl h0),if_false]
  rw[if_pos (by simp;exact⟨AA [] [_] [.L Ak Ac] (.L Ak Ac) rfl h0,AA [_,_] [_] [.u Ab Aa,.L Ac Al] (.U Ac Ag) rfl hlt (Int.self_le_toNat _)⟩)]
 ·split at h
  ·rename_i h0 h1
   have hlt:=(List.getElem?_eq_some_iff.mp h).1
   refine⟨by exact AA [_] [_] [.L (.g Ag) Ac,.l Aa Au] (.L (.g A8) Ac) rfl h1 hz,by exact AA [] [_] [.U Ac Ak] (.U Ac A8) rfl (Int.not_le.mp h0),(k+ds.length).toNat,?_,h⟩
   unfold seqIndex?
   simp only[show k<0 by exact AA [] [_] [.U Ac Ak] (.U Ac Ak) rfl (Int.not_le.mp h0),if_true]
   rw[if_pos (by simp;exact⟨AA [_] [_] [.L (.g Ag) Ac] (.L Ak (.p Ac Ag)) rfl h1,AA [_] [_] [.U Ac Ak] (.U (.p Ac Ag) Ag) rfl (Int.not_le.mp h0)⟩)]
  ·exact nS h
section
variable {B:Base} {H:KH} {A:Around} {s:Shared} {v w:Value} {d e:D} {K:D->KH->Prop}
theorem Vh(h:n<=sizeLine):(n:Int)<2^63:=by rw[sizeLine_eq] at h;exact AA [_] [] [.l Aa Au] (.U Ag A8) rfl h
inductive MR(d i:D)(H:KH)(K:D->KH->Prop):Prop
 |seq {b:Bool} {ds:List D} {k:Int} {r:D} (q:BC H d=some (b,ds)) (e:i= .int k) (hr:T7 ds k=some r) (k:K r H)
 |dict {a:Addr} {mP:List (Str×D)} {x:Str} {r:D} (ed:d= .ref a) (q:H a=some (.dict mP)) (e:i= .str x) (hr:mP.lookup x=some r) (k:K r H)
theorem UA{r:D}:∀{mQ mP},Fe h H mQ mP->mP.lookup x=some r->∃v,valueAt mQ x=some v/\BN h H v r:=by
 intro mQ mP y
 induction y with
 |nil=>intro h;cases h
 |@cons y v mQ d mP a _ ih =>
  intro h
  rw[List.lookup_cons] at h
  by_cases hxy:(x==y)=true
  ·rw[hxy] at h;cases h
   exact⟨v,by unfold valueAt;simp[(beq_iff_eq.mp hxy)],a⟩
  ·have hxy':(x==y)=false:=by simpa using hxy
   rw[hxy'] at h
   refine BG (ih h) λv' e1 e2=>?_
   refine⟨v',?_,e2⟩
   unfold valueAt at e1 ⊢
   rw[List.find?_cons,decide_eq_false (show ¬(y,v).1=x from λz=>hxy (by rw[←z];exact beq_self_eq_true _))]
   exact e1
theorem ci{i:Int}(h0:0<=i)(hj:seqIndex? i n=some j):j=i.toNat:=by
 unfold seqIndex? at hj
 simp only at hj
 rw[if_neg (Int.not_lt.mpr h0)] at hj
 split at hj<;>simp at hj;exact hj.symm
theorem cj{i:Int}{r:D}(hr:T7 ds i=some r)(h0:¬0<=i) : -(ds.length:Int)<=i:=by
 unfold T7 at hr
 rw[if_neg h0] at hr
 split at hr
 ·assumption
 ·exact nS hr
theorem ZN{i:Int}(h0:¬0<=i)(hj:seqIndex? i n=some j):j=(i+n).toNat:=by
 unfold seqIndex? at hj
 simp only at hj
 rw[if_pos (Int.not_le.mp h0)] at hj
 split at hj<;>simp at hj;exact Nat.le_antisymm (AA [_,_] [] [.r Ab Aa] (.l Aa Ab) rfl hj) (AA [_,_] [] [.e Ab Aa] (.l Ab Aa) rfl hj)
theorem ZO(R:BP B H s.heap)(hv:BN s.heap H v d)(hw:BN s.heap H w e)(k:MR d e H K):wpAny (model B.prog B.w) A (getItem v w) (PV B H s K) E s:=by
 cases k with
 |@seq b ds i r q e hr k =>
  subst e
  refine Cv (E9 R hv q) λa vs n mN ho l rs=>?_;subst mN
  refine hw.intE λ_=>?_
  refine gV (ch hr (by rw[←rs.length];exact l)) λh1 h2 j hj hd=>?_
  refine BG (rs.get hd) λv' hv' hd'=>?_
  have C5:PV B H s K v' s:=PV.now hd' R k
  cases b with
  |false =>
   exact PyProof.Rows.getItem_tuple (items:=vs.toArray) ⟨_,ho,rfl,n,rfl⟩ h1 h2 (by rw[List.size_toArray,rs.length];exact hj) (by simpa using hv') C5
  |true =>
   have hl:s.heap.IsList a vs.toArray:=⟨_,ho,rfl,n,rfl⟩
   by_cases h0:0<=i
   ·refine wpAny_getItem_list hl h0 h2 (x:=v') ?_ C5
    rw[←ci h0 hj];simpa using hv'
   ·refine wpAny_getItem_list_neg hl (Int.not_le.mp h0) (by rw[List.size_toArray,rs.length];exact cj hr h0) h1 (x:=v') ?_ C5
    rw[List.size_toArray,rs.length,←ZN h0 hj];simpa using hv'
 |dict ed q e hr k =>
  subst ed e
  refine hv.refE ?_;refine hw.strE λ_=>?_
  refine aT (R.know _ _ q) λ_ mQ hm _ y=>?_
  refine BG (UA y hr) λv' e1 e2=>?_
  exact wpAny_getItem_of (strKind_is B.prog B.w _ _) hm.mapOf e1 ⟨_,H,e2,R,Nx.tok _,k⟩
inductive XR(d:D)(H:KH)(K:D->KH->Prop):Prop
 |mk {b:Bool} {ds:List D} (q:BC H d=some (b,ds)) (k:ds.length<=sizeLine->K (.int ds.length) H)
theorem ck(R:BP B H s.heap)(hv:BN s.heap H v d)(k:XR d H K):wpAny (model B.prog B.w) A (call (.builtin "len") [v]) (PV B H s K) E s:=by
 obtain⟨q,k⟩:=k
 rename_i b ds
 refine Cv (E9 R hv q) λa vs n mN ho l rs=>?_;subst mN
 have hk:=k (by rw[←rs.length];exact l)
 rw[←rs.length] at hk
 cases b with
 |false=>exact PySem.P.len_tuple (items:=vs.toArray) ho (by rw[List.size_toArray];exact Int.not_le.mpr (Vh l)) ⟨_,H,by rw[List.size_toArray];exact .int _ _,R,Nx.tok _,hk⟩
 |true=>exact call_len_list (items:=vs.toArray) ⟨_,ho,rfl,n,rfl⟩ (by rw[List.size_toArray];exact Vh l) ⟨_,H,by rw[List.size_toArray];exact .int _ _,R,Nx.tok _,hk⟩
theorem L0(R:BP B H s.heap)(hv:AR s.heap H vs ds)(hz:vs.length<=sizeLine)(k:K (.tup ds) H):wpAny (model B.prog B.w) A (newTuple vs) (PV B H s K) E s:=by
 refine wpAny_newObj_type ⟨.tup ds,H,.tup (Heap.get?_push_size _ rfl) R.free hz (hv.step (BE.ext (CE _))),R.ext (CE _),TS _ _,k⟩ (by show vs.toArray.size<=sizeLine;rw[List.size_toArray];exact hz)
structure Qa(B:Base)(H:KH)(s:Shared)(ds:List D)(v:Value)(s':Shared):Prop where
 st:∃h tk,s'={s with heap:=h,toks:=tk}
 ext:∀b o,s.heap.get? b=some o->s'.heap.get? b=some o
 at_:∃a vs n,v= .ref a/\s'.heap.get? a=some (Ez vs n)/\s.heap.get? a=none/\vs.length<=sizeLine/\AR s.heap H vs ds
theorem By(R:BP B H h)(e:h.get? a=none):H a=none/\B.h0a.get? a=none:=by
 constructor
 ·cases q:H a with
  |none=>rfl
  |some A=>obtain⟨⟨o,ho⟩,-⟩:=R.know _ _ q;rw[e] at ho;exact nS ho
 ·cases q:B.h0a.get? a with
  |none=>rfl
  |some o=>rw[(R.base a o q).1] at e;exact sN e
theorem Qa.frozen(R:BP B H s.heap)(N:Qa B H s ds v s')(k:K (.lst ds) H):PV B H s K v s':=by
 obtain⟨st,ext,a,vs,n,rfl,ho,hf,l,r⟩:=N
 refine OI st λh tk mN=>?_;subst mN
 exact⟨.lst ds,H,.lst ho (By R hf).1 l (r.step (BE.ext ext)),R.ext ext,⟨⟨h,tk,rfl⟩,BE.ext ext⟩,k⟩
theorem Qa.booked(R:BP B H s.heap)(N:Qa B H s ds v s')(k:∀a,H a=none->K (.ref a) (H.set a (.list ds))):PV B H s K v s':=by
 obtain⟨st,ext,a,vs,n,rfl,ho,hf,l,r⟩:=N
 refine OI st λh tk mN=>?_;subst mN
 have hx:Heap.ExtBut a s.heap h:=λb o _ e=>ext b o e
 have S:BE H s.heap (H.set a (.list ds)) h:=BE.put hx (.inr hf)
 exact⟨.ref a,H.set a (.list ds),.ref a,R.put hx (.inr hf) ⟨_,ho⟩ ⟨vs,n,ho,l,r.step S⟩,⟨⟨h,tk,rfl⟩,S⟩,k a (By R hf).1⟩
theorem M9(hv:AR s.heap H vs ds)(hz:vs.length<=sizeLine):wpAny (model B.prog B.w) A (newList vs) (Qa B H s ds) E s:=by
 refine wpAny_newObj_type ⟨⟨_,s.toks,rfl⟩,CE _,_,vs,0,rfl,Heap.get?_push_size _ rfl,Bq,hz,hv⟩ (by show vs.toArray.size<=sizeLine;rw[List.size_toArray];exact hz)
theorem I6{tk:Nat}{es:List D}{r:Value}(R:BP B H s.heap)(e:H a=some (.list ds))(hs:s'={s with heap:=h,toks:=tk})(hx:Heap.ExtBut a s.heap h)
  (ho:h.get? a=some (Ez vs n)) (l:vs.length<=sizeLine) (rs:AR s.heap H vs es) (hr:BN s.heap H r d) (k:K d (H.set a (.list es))):PV B H s K r s':=by
 subst hs
 have S:BE H s.heap (H.set a (.list es)) h:=BE.put hx (.inl (by rw[e];simp))
 exact⟨d,_,hr.step S,R.put hx (.inl (by rw[e];simp)) ⟨_,ho⟩ ⟨vs,n,ho,l,rs.step S⟩,⟨⟨h,tk,rfl⟩,S⟩,k⟩
inductive JL(a:Addr)(d:D)(H:KH)(K:D->KH->Prop):Prop
 |mk {ds:List D} (e:H a=some (.list ds)) (hz:ds.length<1000000) (k:K .none (H.set a (.list (ds++[d]))))
theorem LT(R:BP B H s.heap)(hw:BN s.heap H w d)(k:JL a d H K):wpAny (model B.prog B.w) A (call (.builtin "list.append") [.ref a,w]) (PV B H s K) E s:=by
 obtain⟨e,hz,k⟩:=k
 refine F2 (R.know _ _ e) λ_ vs n ho l rs=>?_
 refine wpAny_list_append_plain (items:=vs.toArray) ⟨n,ho⟩ (λh' hp hs=>?_) (by rw[List.size_toArray];exact l)
 refine Ex hp λn' ho'=>?_
 exact I6 (vs:=vs++[w]) (n:=n') (tk:=s.toks) R e rfl hs.extBut (by rw[ho'];simp) (by rw[List.length_append,rs.length,sizeLine_eq];exact Nat.le_trans hz (by decide)) (rs.append (.cons hw .nil)) .none k
theorem JP:∀l:List Value,l.eraseIdx (l.length-1)=l.dropLast
 |[]=>rfl
 |[_]=>rfl
 |x::y::r=>by
  have ih:=JP (y::r)
  simp only[List.length_cons,Nat.add_sub_cancel] at ih ⊢
  rw[List.eraseIdx_cons_succ,ih];rfl
inductive XS(a:Addr)(H:KH)(K:D->KH->Prop):Prop
 |mk {ds:List D} {d:D} (e:H a=some (.list ds)) (hd:ds.getLast? = some d) (k:K d (H.set a (.list ds.dropLast)))
theorem AR.last(x:AR h H vs ds)(e:ds.getLast? = some d):∃v,vs[vs.length-1]? = some v/\BN h H v d:=by
 rw[List.getLast?_eq_getElem?] at e
 rw[x.length];exact x.get e
theorem AR.dropLast(x:AR h H vs ds):AR h H vs.dropLast ds.dropLast:=by
 rw[List.dropLast_eq_take,List.dropLast_eq_take,x.length];exact x.take _
theorem Rs(h:vs[vs.length-1]? = some v):(vs.toArray.eraseIdxIfInBounds (vs.toArray.size-1))=vs.dropLast.toArray:=by
 have hlt:=(List.getElem?_eq_some_iff.mp h).1
 unfold Array.eraseIdxIfInBounds
 rw[dif_pos (by rw[List.size_toArray];exact hlt)]
 rw[←JP]
 simp
theorem cm(R:BP B H s.heap)(k:XS a H K):wpAny (model B.prog B.w) A (call (.builtin "list.pop") [.ref a]) (PV B H s K) E s:=by
 obtain⟨e,hd,k⟩:=k
 refine F2 (R.know _ _ e) λ_ vs n ho l rs=>?_
 refine BG (rs.last hd) λv' hv' hd'=>?_
 refine call_meets PySem.F.slot_list_pop ⟨_,ho,rfl⟩ PySem.F.entry_list_pop (PySem.F.args_list_pop_1 _) (PySem.MeetsSeq.list_pop_last a vs.toArray n v' (by rw[List.size_toArray];simpa using hv') (by rw[List.size_toArray];exact l)) ⟨ho,?_⟩
 refine I6 (vs:=vs.dropLast) (n:=if vs.dropLast.length=vs.length then n else n+1) (tk:=s.toks) R e rfl (Heap.SameBut.update ..).extBut ?_ (by rw[List.length_dropLast];exact Nat.le_trans (Nat.sub_le _ _) l) rs.dropLast hd' k
 rw[Heap.get?_update_self (Obj.mapSeq λxs=>xs.eraseIdxIfInBounds (vs.toArray.size-1)) ho rfl]
 show some (Obj.mapSeq _ _)=_
 simp only[Obj.mapSeq,Rs hv']
 simp
end
noncomputable def upto(a b:Int):List D:=(List.range (b-a).toNat).map λ(i:Nat)=>.int (a+(i:Int))
@[simp] theorem DS(a b:Int):(upto a b).length=(b-a).toNat:=by simp[upto]
theorem NA(a b:Int)(i:Nat)(h:i<(b-a).toNat):(upto a b)[i]? = some (.int (a+i)):=by simp[upto,h]
theorem Vi(a b:Int):Builtin.Range.rangeSize a b 1=(((b-a).toNat:Nat):Int):=by
 rw[rangeSize_one];split
 ·rename_i hc;exact Int.le_antisymm (AA [_] [_,_] [.L (.s Ac Ad) Ag] (.L (.s Ac Ad) Ag) rfl (Int.self_le_toNat _)) ((Int.le_total 0 _).elim (λmH=>AA [_] [_,_] [.E Ag (.s Ac Ad)] (.L Ag (.s Ac Ad)) rfl (Int.toNat_of_nonneg mH)) (λmH=>AA [_] [_,_] [.U Ad Ac,.e Aa Am] (.L Ag (.s Ac Ad)) rfl hc (Int.toNat_of_nonpos mH)))
 ·rename_i hc;exact Int.le_antisymm (AA [_] [] [] (.L Ak Ag) rfl) ((Int.le_total 0 _).elim (λmH=>AA [_] [_,_] [.E Ag (.s Ac Ad),.L Ac Ad] (.L Ag Ak) rfl (Int.toNat_of_nonneg mH) (Int.not_lt.mp hc)) (λmH=>AA [_] [] [.e Aa Am] (.L Ag Ak) rfl (Int.toNat_of_nonpos mH)))
theorem I8:∀{vs:List Value} {ds:List D},vs.length=ds.length->(∀(i:Nat) (v:Value) (d:D),vs[i]? = some v->ds[i]? = some d->BN h H v d)->AR h H vs ds
 |[],[],_,_=>.nil
 |v::vs,d::ds,hl,hi=>.cons (hi 0 v d rfl rfl) (I8 (by simpa using hl) λi v' d' a b=>hi (i+1) v' d' (by simpa using a) (by simpa using b))
 |[],_::_,hl,_=>by simp at hl
 |_::_,[],hl,_=>by simp at hl
theorem Qk{a b:Int}(h1 : -1000000<=a)(h2:a<=1000000)(h3 : -1000000<=b)(h4:b<=1000000):Builtin.Range.small a b 1=true:=by
 exact small_one (by exact AA [] [_] [.L (.g Ap) Ac] (.L (.g A9) Ac) rfl h1) (by exact AA [] [_] [.L Ac Ap] (.U Ac A9) rfl h2) (by exact AA [] [_] [.L (.g Ap) Ac] (.L (.g A9) Ac) rfl h3) (by exact AA [] [_] [.L Ac Ap] (.U Ac A9) rfl h4)
section
variable {B:Base} {H:KH} {A:Around} {s:Shared} {v w:Value} {d e:D} {K:D->KH->Prop}
noncomputable abbrev BA(a:Int):Prop:=-1000000<=a/\a<=1000000
theorem Rt{a b:Int}{acc:Array Value}(hn:n=(b-a).toNat)(x:ItemsOf (λi v=>∃t,v= .int (a+i*1) t) acc n):AR h H acc.toList (upto a b):=by
 refine I8 (by rw[DS,←hn,Array.length_toList];exact x.1) λi v d hv hd=>?_
 have hlt:i<(b-a).toNat:=by have:=(List.getElem?_eq_some_iff.mp hd).1;rwa [DS] at this
 rw[NA a b i hlt] at hd;obtain rfl:=Option.some.inj hd
 have hv':acc[i]? = some v:=by simpa using hv
 refine Ex (x.2 i v hv') λt mN=>?_;subst mN
 rw[Int.mul_one];exact .int _ _
theorem OL{r:Addr}{a b:Int}{t u z:Tok}(rm:Rm nr A)(hr:IsRange s.heap r a b 1 t u z)(ha:BA a)(hb:BA b):wpAny (model B.prog B.w) A (call (.type "list") [.ref r]) (Qa B H s (upto a b)) E s:=by
 have hs:=Qk ha.1 ha.2 hb.1 hb.2
 refine call_list_range rm.hd hr hs (Vi a b) (by have:=ha.1;have:=hb.2;exact(Int.le_total 0 _).elim (λmH=>AA [_] [_,_] [.L Ac Ap,.L (.g Ap) Ad,.E Ag (.s Ac Ad)] (.l Aa Au) rfl hb.2 ha.1 (Int.toNat_of_nonneg mH)) (λmH=>AA [_] [] [.e Aa Am] (.l Aa Au) rfl (Int.toNat_of_nonpos mH))) λh' tk mO c' hk hS hacc=>?_
 refine⟨⟨h',tk,rfl⟩,hk,_,mO.toList,c',rfl,by simpa using hS,Bq,?_,Rt rfl hacc⟩
 rw[Array.length_toList,hacc.1,sizeLine_eq];have:=ha.1;have:=hb.2;exact(Int.le_total 0 _).elim (λmH=>AA [_] [_,_] [.L Ac Ap,.L (.g Ap) Ad,.E Ag (.s Ac Ad)] (.l Aa Au) rfl hb.2 ha.1 (Int.toNat_of_nonneg mH)) (λmH=>AA [_] [] [.e Aa Am] (.l Aa Au) rfl (Int.toNat_of_nonpos mH))
theorem UB{n:Int}{t:Tok}(h:∀r h' tk t u z,(∀a o,s.heap.get? a=some o->h'.get? a=some o)->IsRange h' r 0 n 1 t u z->Q (.ref r) {s with heap:=h',toks:=tk}) :
  wpAny (model B.prog B.w) A (call (.type "range") [.int n t]) Q E s:=call_range_1 (h _ _ _ _ _ _ (CE _) (Heap.get?_push_size _ rfl))
theorem UC{m n:Int}{t u:Tok}(h:∀r h' tk t u z,(∀a o,s.heap.get? a=some o->h'.get? a=some o)->IsRange h' r m n 1 t u z->Q (.ref r) {s with heap:=h',toks:=tk}) :
  wpAny (model B.prog B.w) A (call (.type "range") [.int m t,.int n u]) Q E s:=call_range_2 (h _ _ _ _ _ _ (CE _) (Heap.get?_push_size _ rfl))
theorem Ql{prog:Program}{w:World}{fp wr:List Addr}{P:Nat->Value->Prop}{St:Nat->Heap->Prop}(W:Walks prog w A I fp wr n P St)(m:Nat)(P0a:Nat->Value->Prop) :
  Walks prog w A I fp wr (m+n) (λi v=>(i<m/\P0a i v)\/(m<=i/\P (i-m) v)) (λi h=>m<=i/\St (i-m) h) where
 sub:=W.sub
 frame:=λi h h' st hk=>⟨st.1,W.frame _ _ _ st.2 hk⟩
 item:=λi s Q E hi st hQ=>W.item (i-m) s Q E (by have:=st.1;exact AA [_,_,_,_] [] [.u Ab (.p Af Aq),.e (.p Aa Af) Ab] (.u Aa Aq) rfl hi (IC (AA [_,_] [] [.l Ab Aa] (.l Ab Aa) rfl st.1))) st.2 λv h' tk hP hst hk=>hQ v h' tk (.inr ⟨st.1,hP⟩) ⟨by have:=st.1;exact AA [_,_] [] [.l Aa Ab] (.l Aa (.p Ab Ae)) rfl st.1,by have:=st.1;rw[show i+1-m=i-m+1 by exact M4 (AA [_,_,_,_] [] [.e (.p Aa Af) (.p Ab Ae),.l Ab (.p Aq Af)] (.l Aa (.p Aq Ae)) rfl (IC (AA [_,_] [] [.l Ab Aa] (.l Ab (.p Aa Ae)) rfl st.1)) (J7 _ _)) (AA [_,_,_,_] [] [.e (.p Aq Af) Ab,.l (.p Ab Ae) (.p Aa Af)] (.l (.p Aq Ae) Aa) rfl (IC (AA [_,_] [] [.l Ab Aa] (.l Ab Aa) rfl st.1)) (J7 _ _))];exact hst⟩ hk
 done:=λs Q E st hQ=>W.done s Q E (by rw[show m+n-m=n by exact M4 (AA [_,_,_] [] [.e (.p Aa Ab) (.p Ab Af)] (.l Aa Af) rfl (IC (AA [_,_] [] [] (.l Aa (.p Aa Ab)) rfl))) (AA [_,_,_] [] [.l (.p Ab Af) (.p Aa Ab)] (.l Af Aa) rfl (J7 _ _))] at st;exact st.2) hQ
 self:=λi s Q E st hQ=>W.self (i-m) s Q E st.2 hQ
theorem Jh(r S:Addr)(a b:Int)(t u z:Tok)(n:Nat)(xs:List Value)(c0a:Nat)(hsmall:Builtin.Range.small a b 1=true)
  (hn:Builtin.Range.rangeSize a b 1=n) (hlen:n<=2^22) (hxs:xs.length<=2^22) :
  Meets (Builtin.«list.extend» ⟨[.ref S,.ref r],[]⟩) (λA R s=>A.handled=none/\IsRange s.heap r a b 1 t u z/\s.heap.get? S=some (Ez xs c0a) /\
   ∀h' tk (mO:List Value) c',(∀b o,b≠S->s.heap.get? b=some o->h'.get? b=some o)->h'.get? S=some (Ez (xs++mO) c')->mO.length=n->(∀(i:Nat) v,mO[i]? = some v->∃t,v= .int (a+i*1) t)->R (.ok (.ret .none)) {s with heap:=h',toks:=tk}):=by
 intro prog w A R s ⟨hh,hr,hS,hR⟩
 have hSr:S≠r:=λe=>by rw[e,hr] at hS;simp at hS
 have hSlt:S<s.heap.objs.size:=Heap.lt_size hS
 have hSI:S≠s.heap.objs.size:=Nat.ne_of_lt hSlt
 have hSf:S∉[s.heap.objs.size]:=λhm=>hSI (List.mem_singleton.mp hm)
 have W:=(Ql (Walks.range (prog:=prog) (w:=w) (A:=A.in1) hh s.heap.objs.size a 1 n) xs.length (λi v=>xs[i]? = some v)).toS
 have key:∀(h:Heap) (c0b tk:Nat),IsRangeIter h s.heap.objs.size (a+((0:Nat):Int)*1) ((n:Int)-((0:Nat):Int)) 1->(∀b o,b≠S->s.heap.get? b=some o->h.get? b=some o) ->
   h.get? S=some (Ez xs c0b)->codeAny (model prog w) A (.builtin "list.extend.loop" ⟨[.ref S,.ref s.heap.objs.size,.none],[]⟩) R {s with heap:=h,toks:=tk}:=by
  intro h c0b tk hit hk hS1
  refine codeAny_extend_loopS W (by rw[sizeLine_eq];exact AA [_,_] [] [.l Aa A6,.l Ab A6] (.l (.p Aa Ab) Au) rfl hxs hlen) S hSf .none _ xs.length _ xs.toArray c0b rfl (Nat.le_add_right _ _) ⟨Nat.le_refl _,by simpa using hit⟩ hS1 ⟨by simp,λi v hv=>.inl ?_⟩ λs' mO c' hm hS' hacc=>?_
  ·have hv':xs[i]? = some v:=by simpa using hv
   exact⟨(List.getElem?_eq_some_iff.mp hv').1,hv'⟩
  ·rw[Moved.eq_with hm]
   have hpre:mO.toList=xs++mO.toList.drop xs.length:=by
    have hlen:mO.toList.length=xs.length+n:=by rw[Array.length_toList];exact hacc.1
    rw[←List.take_append_drop xs.length mO.toList]
    congr 1
    ·apply List.ext_getElem?
     intro i
     by_cases hi:i<xs.length
     ·rw[List.getElem?_take_of_lt hi]
      have hi':i<mO.toList.length:=by exact AA [_,_,_,_] [] [.u Aa Af,.r Ab (.p Af Aq)] (.u Aa Ab) rfl hi hlen
      rw[List.getElem?_eq_getElem hi']
      rcases hacc.2 i mO.toList[i] (by simp[show i<mO.size by rw[←Array.length_toList];exact AA [_,_] [] [.u Aa Ab] (.u Aa Ab) rfl hi']) with⟨_,q⟩|⟨q,_⟩
      ·exact q.symm
      ·exact(AA [_,_] [] [.u Ab Aa,.l Aa Ab] .f rfl hi q).elim
     ·rw[List.getElem?_eq_none (by rw[List.length_take];exact AA [_,_,_] [] [.l Aa Ab,.l Ab Af] (.l Aa Af) rfl (Nat.min_le_left _ _) (Nat.le_of_not_lt hi)),List.getElem?_eq_none (by exact AA [_,_] [] [.l Aa Ab] (.l Aa Ab) rfl (Nat.le_of_not_lt hi))]
    ·simp
   refine hR s'.heap s'.toks (mO.toList.drop xs.length) c' (λb o hb e=>hm.heap b o (λhmem=>?_) (hk b o hb e)) (by rw[hS',←hpre]) (by rw[List.length_drop,Array.length_toList,hacc.1];exact M4 (AA [_,_,_] [] [.e (.p Aa Ab) (.p Ab Af)] (.l Aa Af) rfl (IC (AA [_,_] [] [] (.l Aa (.p Aa Ab)) rfl))) (AA [_,_,_] [] [.l (.p Ab Af) (.p Aa Ab)] (.l Af Aa) rfl (J7 _ _))) λi v hv=>?_
   ·rcases List.mem_cons.mp hmem with e'|hmem
    ·exact hb e'
    ·exact absurd (Heap.lt_size e) (by rw[List.mem_singleton.mp hmem];exact Nat.lt_irrefl _)
   ·rw[List.getElem?_drop] at hv
    have hv':mO[xs.length+i]? = some v:=by simpa using hv
    rcases hacc.2 _ v hv' with⟨q,_⟩|⟨_,q⟩
    ·exact(AA [_,_] [] [.u (.p Aa Ab) Aa] .f rfl q).elim
    ·rw[show xs.length+i-xs.length=i by exact M4 (AA [_,_,_] [] [.e (.p Aa Ab) (.p Ab Af)] (.l Aa Af) rfl (IC (AA [_,_] [] [] (.l Aa (.p Aa Ab)) rfl))) (AA [_,_,_] [] [.l (.p Ab Af) (.p Aa Ab)] (.l Af Aa) rfl (J7 _ _))] at q;exact q
 show wpAny _ _ (Builtin.List.listExtendWith (.ref S) (.ref r) .none) _ _ s
 unfold Builtin.List.listExtendWith
 refine wpAny_bind (wpAny_typeOf (T:="range") ⟨_,hr,rfl⟩ ?_)
 have h1:Builtin.List.listSameRef (.ref S) (.ref r)=false:=by simp[Builtin.List.listSameRef,hSr]
 have h2:(Value.type "range"==Value.type "list")=false:=by decide
 have h3:(Value.type "range"==Value.type "tuple")=false:=by decide
 simp only[h1,h2,h3,Bool.or_false,Bool.false_eq_true,if_false]
 refine wpAny_bind (wpAny_pyIter_range hr hsmall ?_)
 refine wpAny_bind (wpAny_holding (wpAny_hint_range (n:=n) (Heap.get?_push_of_some _ hr) hn (by exact AA [_] [] [.l Aa A6] (.l Aa Au) rfl hlen) ?_))
 have hit1:IsRangeIter (s.heap.push {cls:=.type "range_iterator",data:=.fields #[rawInt a,rawInt (Builtin.Range.rangeSize a b 1),rawInt 1]}) s.heap.objs.size (a+((0:Nat):Int)*1) ((n:Int)-((0:Nat):Int)) 1:=by
  show IsRangeIter _ _ _ _ _;rw[hn];simpa using Heap.get?_push_size _ rfl
 have hS1:=Heap.get?_push_of_some {cls:=.type "range_iterator",data:=.fields #[rawInt a,rawInt (Builtin.Range.rangeSize a b 1),rawInt 1]} hS
 refine wpAny_ite_split (λ_=>?_) (λ_=>wpAny_pure ⟨plainId_quiet PySem.F.plain_extend_loop _,key _ c0a _ hit1 (λb o _ e=>Heap.get?_push_of_some _ e) hS1⟩)
 refine wpAny_bind (wpAny_rule ?_)
 refine wpAny_bind ?_
 show wpAny _ _ (updateSeq S (·.push .none)>>=λ_=>updateSeq S (·.pop)) _ _ _
 refine wpAny_bind (wpAny_updateSeq (hz:=by rw[List.size_toArray,sizeLine_eq];exact AA [_] [] [.l Aa A6] (.l Aa Au) rfl hxs) (_hz':=by simp[sizeLine_eq];exact AA [_] [] [.l Aa A6] (.l Aa Au) rfl hxs) hS1 rfl ?_)
 have hS2:=Heap.get?_update_self (Obj.mapSeq (·.push Value.none)) hS1 rfl
 refine wpAny_updateSeq (hz:=by simp[sizeLine_eq];exact AA [_] [] [.l Aa A6] (.l Aa (.n 16777215)) rfl hxs) (_hz':=by simp[sizeLine_eq];exact AA [_] [] [.l Aa A6] (.l Aa (.n 16777217)) rfl hxs) hS2 rfl ?_
 have hS3:=Heap.get?_update_self (Obj.mapSeq (·.pop)) hS2 rfl
 refine wpAny_pure ⟨plainId_quiet PySem.F.plain_extend_loop _,key _ (if((xs.toArray.push Value.none).pop).size==(xs.toArray.push Value.none).size then (if(xs.toArray.push Value.none).size==xs.toArray.size then c0a else c0a+1) else (if(xs.toArray.push Value.none).size==xs.toArray.size then c0a else c0a+1)+1) _ ?_ (λb o hb e=>?_) ?_⟩
 ·exact(Heap.get?_update_other _ _ hSI).trans ((Heap.get?_update_other _ _ hSI).trans hit1)
 ·exact(Heap.get?_update_other _ _ (Ne.symm hb)).trans ((Heap.get?_update_other _ _ (Ne.symm hb)).trans (Heap.get?_push_of_some _ e))
 ·rw[hS3];simp[Obj.mapSeq]
end
section
variable {B:Base} {H:KH} {A:Around} {s:Shared} {v w:Value} {d e:D} {K:D->KH->Prop}
inductive LM(a:Addr)(d:D)(H:KH)(K:D->KH->Prop):Prop
 |mk {ds es:List D} (e:H a=some (.list ds)) (ed:d= .lst es) (hz:ds.length+es.length<1000000) (k:K .none (H.set a (.list (ds++es))))
theorem UD(R:BP B H s.heap)(hw:BN s.heap H w d)(k:LM a d H K):wpAny (model B.prog B.w) A (call (.builtin "list.extend") [.ref a,w]) (PV B H s K) E s:=by
 obtain⟨e,ed,hz,k⟩:=k
 rename_i ds es
 subst ed
 refine F2 (R.know _ _ e) λ_ vs n ho l rs=>?_
 refine hw.lstE λb ws m ho' hH l' rs'=>?_
 have hz:vs.length+ws.length<=sizeLine:=by rw[sizeLine_eq,rs.length,rs'.length];exact Nat.le_trans (Nat.le_of_lt hz) (by decide)
 have hab:a≠b:=by rintro rfl;rw[e] at hH;exact sN hH
 refine call_meets PySem.F.slot_list_extend ⟨_,ho,rfl⟩ PySem.F.entry_list_extend (PySem.F.args_list_extend_2 _ _)
  (AutoSeq1.list_extend_list_list_0 a vs.toArray n b ws.toArray m (by simp[Builtin.List.listTooLong];exact λ_=>hz) (by rw[List.size_toArray];exact l) (by rw[List.size_toArray,List.size_toArray];exact Nat.le_succ_of_le hz)) ⟨ho,ho',?_⟩
 refine I6 (vs:=vs++ws) (n:=if(vs.toArray++ws.toArray).size==vs.toArray.size then n else n+1) (tk:=s.toks) R e rfl (Heap.SameBut.update ..).extBut ?_ (by rw[List.length_append];exact hz) (rs.append rs') .none k
 rw[Heap.get?_update_self (Obj.mapSeq λx=>x++ws.toArray) ho rfl];simp[Obj.mapSeq]
inductive Di(a:Addr)(i j:Int)(H:KH)(K:D->KH->Prop):Prop
 |mk {ds:List D} (e:H a=some (.list ds)) (k1:ds.length<1000000) (k2:BA i) (k3:BA j) (k:K .none (H.set a (.list (ds++upto i j))))
theorem MU{r:Addr}{i j:Int}{t u z:Tok}(rm:Rm nr A)(R:BP B H s.heap)(hr:IsRange s.heap r i j 1 t u z)(k:Di a i j H K):wpAny (model B.prog B.w) A (call (.builtin "list.extend") [.ref a,.ref r]) (PV B H s K) E s:=by
 obtain⟨e,k1,⟨k2,k2'⟩,⟨k3,k3'⟩,k4⟩:=k
 refine F2 (R.know _ _ e) λ_ vs n ho l rs=>?_
 have h1:=rs.length
 refine call_meets PySem.F.slot_list_extend ⟨_,ho,rfl⟩ PySem.F.entry_list_extend (PySem.F.args_list_extend_2 _ _)
  (Jh r a i j t u z _ vs n (small_one (by exact AA [] [_] [.L (.g Ap) Ac] (.L (.g A9) Ac) rfl k2) (by exact AA [] [_] [.L Ac Ap] (.U Ac A9) rfl k2') (by exact AA [] [_] [.L (.g Ap) Ac] (.L (.g A9) Ac) rfl k3) (by exact AA [] [_] [.L Ac Ap] (.U Ac A9) rfl k3')) (Vi i j) (by exact(Int.le_total 0 _).elim (λmH=>AA [_] [_,_] [.L Ac Ap,.L (.g Ap) Ad,.E Ag (.s Ac Ad)] (.l Aa A6) rfl k3' k2 (Int.toNat_of_nonneg mH)) (λmH=>AA [_] [] [.e Aa Am] (.l Aa A6) rfl (Int.toNat_of_nonpos mH))) (by exact AA [_,_] [] [.e Aa Ab,.u Ab Ao] (.l Aa A6) rfl h1 k1)) ⟨rm.hd,hr,ho,λh' tk mO c' hk hS hl hi=>?_⟩
 have hx:Heap.ExtBut a s.heap h':=λb o hb e=>hk b o hb e
 refine I6 (vs:=vs++mO) (n:=c') (tk:=tk) R e rfl hx hS (by rw[List.length_append,hl,sizeLine_eq];exact(Int.le_total 0 _).elim (λmH=>AA [_,_,_] [_,_] [.e Aa Af,.u Af Ao,.L Ac Ap,.L (.g Ap) Ad,.E Al (.s Ac Ad)] (.l (.p Aa Ab) Au) rfl h1 k1 k3' k2 (Int.toNat_of_nonneg mH)) (λmH=>AA [_,_,_] [] [.e Aa Af,.u Af Ao,.e Ab Am] (.l (.p Aa Ab) Au) rfl h1 k1 (Int.toNat_of_nonpos mH))) (rs.append (I8 (by rw[hl,DS]) λp v d hv hd=>?_)) .none k4
 have hlt:p<(j-i).toNat:=by have:=(List.getElem?_eq_some_iff.mp hd).1;rwa [DS] at this
 rw[NA i j p hlt] at hd;obtain rfl:=Option.some.inj hd
 refine Ex (hi p v hv) λt mN=>?_;subst mN
 rw[Int.mul_one];exact .int _ _
inductive Ly(d:D)(H:KH)(K:D->KH->Prop):Prop
 |mk {b:Bool} {ds:List D} (q:BC H d=some (b,ds)) (k:K (.tup ds) H)
theorem Vj(R:BP B H s.heap)(hv:BN s.heap H v d)(k:Ly d H K):wpAny (model B.prog B.w) A (call (.type "tuple") [v]) (PV B H s K) E s:=by
 obtain⟨q,k⟩:=k
 rename_i b ds
 cases b with
 |false =>
  cases hv with
  |tup e' q' l r=>cases q;exact call_tuple_same ⟨_,e',rfl,_,rfl⟩ (PV.now (.tup e' q' l r) R k)
  |ref a=>simp only[BC] at q;split at q<;>cases q
  |_=>cases q
 |true =>
  refine Cv (E9 R hv q) λa vs n mN ho l rs=>?_;subst mN
  refine call_tuple_list (items:=vs.toArray) ⟨_,ho,rfl,n,rfl⟩ (λh' hk=>?_) (by rw[List.size_toArray];exact l)
  have hx:∀b o,s.heap.get? b=some o->(h'.push (Cy vs 0)).get? b=some o:=λb o e=>Heap.get?_push_of_some _ (hk b o e)
  have R':=R.ext hk
  exact⟨.tup ds,H,.tup (Heap.get?_push_size _ rfl) R'.free l (rs.step (BE.ext hx)),R.ext hx,⟨⟨_,s.toks,rfl⟩,BE.ext hx⟩,k⟩
theorem JQ{sl a:Addr}{vl vu:Value}{lo hi:Option Nat}{b:Bool}(R:BP B H s.heap)(hv:BN s.heap H v d)(q:BC H d=some (true,ds))(hs:s.heap.IsSliceOf sl vl vu .none)
  (pl:IsPart vl (lo.map Int.ofNat)) (pu:IsPart vu (hi.map Int.ofNat)) (hone:lo=none\/hi=none) :
  wpAny (model B.prog B.w) A (getItem v (.ref sl)) (Qa B H s (match lo,hi with|some i,_=>ds.drop i|_,some j=>ds.take j|_,_=>ds)) E s:=by
 refine Cv (E9 R hv q) λa vs n mN ho l rs=>?_;subst mN
 refine wpAny_getItem_list_slice (items:=vs.toArray) ⟨_,ho,rfl,n,rfl⟩ hs pl pu .none (by simp) ?_ (by rw[List.size_toArray];exact l)
 refine⟨⟨_,s.toks,rfl⟩,CE _,_,(slicePick vs.toArray (lo.map Int.ofNat) (hi.map Int.ofNat) none).toList,0,rfl,by rw[Heap.get?_push_size _ rfl],Bq,?_,?_⟩
 ·rw[Array.length_toList];exact Nat.le_trans (slicePick_size_le _ _ _ _) (by rw[List.size_toArray];exact l)
 ·cases lo with
  |some i =>
   obtain rfl:hi=none:=hone.resolve_left (by simp)
   show AR _ _ (slicePick vs.toArray (some (i:Int)) none none).toList (ds.drop i)
   rw[slicePick_from'];exact rs.drop i
  |none =>
   cases hi with
   |some j =>
    show AR _ _ (slicePick vs.toArray none (some (j:Int)) none).toList (ds.take j)
    rw[slicePick_upto'];exact rs.take j
   |none =>
    show AR _ _ (slicePick vs.toArray none none none).toList ds
    rw[slicePick_all];exact rs
inductive TF(a:Addr)(i d:D)(H:KH)(K:KH->Prop):Prop
 |list {ds:List D} {j:Int} (e:H a=some (.list ds)) (ei:i= .int j) (k1 : -(ds.length:Int)<=j) (k2:j<ds.length) (k:K (H.set a (.list (ds.set (if 0<=j then j.toNat else (j+ds.length).toNat) d))))
 |dict {mP:List (Str×D)} {x:Str} (e:H a=some (.dict mP)) (ei:i= .str x) (k1:(mP.lookup x).isSome=true) (k:K (H.set a (.dict (mP.map λkv=>if kv.1=x then (kv.1,d) else kv))))
 |idict {j:Int} (e:H a=some .idict) (ei:i= .int j) (k1:0<=j) (k2:j<100) (k:K H)
inductive PU(B:Base)(H:KH)(s:Shared)(K:KH->Prop)(s':Shared):Prop
 |mk (H':KH) (R:BP B H' s'.heap) (n:Nx H s H' s') (k:K H')
theorem Ru{K:KH->Prop}{tk:Nat}{es:List D}(R:BP B H s.heap)(e:H a=some (.list ds))(hs:s'={s with heap:=h,toks:=tk})(hx:Heap.ExtBut a s.heap h)
  (ho:h.get? a=some (Ez vs n)) (l:vs.length<=sizeLine) (rs:AR s.heap H vs es) (k:K (H.set a (.list es))):PU B H s K s':=by
 subst hs
 have S:BE H s.heap (H.set a (.list es)) h:=BE.put hx (.inl (by rw[e];simp))
 exact⟨H.set a (.list es),R.put (A:=.list es) hx (.inl (by rw[e];simp)) ⟨_,ho⟩ ⟨vs,n,ho,l,rs.step S⟩,⟨⟨h,tk,rfl⟩,S⟩,k⟩
theorem UE:∀{mQ:List (Str×Value)} {mP:List (Str×D)},Fe h H mQ mP->(mP.lookup x).isSome=true->BN h H v d->Fe h H (stored mQ x v) (mP.map λkv=>if kv.1=x then (kv.1,d) else kv):=by
 intro mQ mP y hx hd
 have hany:mQ.any (λkv=>kv.1=x)=true:=by
  induction y with
  |nil=>cases hx
  |@cons y v' mQ d' mP a _ ih =>
   rw[List.lookup_cons] at hx
   rw[List.any_cons]
   by_cases hxy:(x==y)=true
   ·rw[beq_iff_eq.mp hxy];simp
   ·have:(x==y)=false:=by simpa using hxy
    rw[this] at hx
    rw[ih hx,Bool.or_true]
 unfold stored
 rw[if_pos hany]
 clear hany hx
 induction y with
 |nil=>exact .nil
 |@cons y v' mQ d' mP a _ ih =>
  rw[List.map_cons,List.map_cons]
  by_cases hxy:y=x
  ·rw[if_pos hxy,if_pos hxy];exact .cons hd ih
  ·rw[if_neg hxy,if_neg hxy];exact .cons a ih
theorem OM{mQ:List (Str×Value)}(y:Fe h H mQ mP)(hx:(mP.lookup x).isSome=true):(stored mQ x v).length=mQ.length:=by
 have hany:mQ.any (λkv=>kv.1=x)=true:=by
  induction y with
  |nil=>cases hx
  |@cons y v' mQ d' mP a _ ih =>
   rw[List.lookup_cons] at hx
   rw[List.any_cons]
   by_cases hxy:(x==y)=true
   ·rw[beq_iff_eq.mp hxy];simp
   ·have:(x==y)=false:=by simpa using hxy
    rw[this] at hx
    rw[ih hx,Bool.or_true]
 unfold stored
 rw[if_pos hany,List.length_map]
theorem Vk(m:Nat):∀l:List Int,l.Nodup->(∀k∈l,0<=k/\k<(m:Int))->l.length<=m:=by
 induction m with
 |zero =>
  intro l _ h
  cases l with
  |nil=>exact Nat.le_refl _
  |cons x r=>have:=h x (.head _);exact(AA [] [_] [.U Ac (.c Am),.L Ak Ac] .f rfl this.2 this.1).elim
 |succ m ih =>
  intro l hn h
  have:=ih (l.filter (· != (m:Int))) (hn.filter _) λk hk=>by
   refine Ea (List.mem_filter.mp hk) λa b=>?_
   have:=h k a
   simp at b
   exact⟨AA [] [_] [.L Ak Ac] (.L Ak Ac) rfl this.1,(Int.lt_or_gt_of_ne b).elim (λmH=>AA [_] [_] [.U Ac Ag] (.U Ac Ag) rfl mH) (λmH=>(AA [_] [_] [.U Ag Ac,.U Ac (.c (.p Aa Ae))] .f rfl mH this.2).elim)⟩
  have e:l.length<=(l.filter (· != (m:Int))).length+1:=by
   clear this ih
   induction l with
   |nil=>simp
   |cons x r ihl =>
    rw[List.nodup_cons] at hn
    have h':∀k∈r,0<=k/\k<((m+1:Nat):Int):=λk hk=>h k (.tail _ hk)
    by_cases hx:x=(m:Int)
    ·subst hx
     have:r.filter (· != (m:Int))=r:=by
      rw[List.filter_eq_self];intro a ha;simp;rintro rfl;exact hn.1 ha
     rw[List.filter_cons_of_neg (by simp),this];simp
    ·rw[List.filter_cons_of_pos (by simpa using hx)]
     have:=ihl hn.2 h'
     simp only[List.length_cons];exact AA [_,_] [] [.l Aa (.p Ab Ae)] (.l (.p Aa Ae) (.p (.p Ab Ae) Ae)) rfl this
  exact AA [_,_,_] [] [.l Aa (.p Af Ae),.l Af Ab] (.l Aa (.p Ab Ae)) rfl e this
theorem cn{K:KH->Prop}{i:D}{vi:Value}(R:BP B H s.heap)(hi:BN s.heap H vi i)(hv:BN s.heap H v d)(k:TF a i d H K):wpAny (model B.prog B.w) A (setItem (.ref a) vi v) (λ_=>PU B H s K) E s:=by
 cases k with
 |@list ds j e ei k1 k2 k =>
  subst ei
  refine hi.intE λ_=>?_
  refine F2 (R.know _ _ e) λ_ vs n ho l rs=>?_
  have hl:=rs.length
  have l':=l;rw[sizeLine_eq] at l'
  have h63:j<2^63:=by exact AA [_,_] [_] [.U Ac Ag,.r Ab Aa,.l Ab Au] (.U Ac A8) rfl k2 hl l'
  have C5:∀p:Nat,PU B H s (λH'=>H'=H.set a (.list (ds.set p d))) {s with heap:=s.heap.update a (Obj.mapSeq (·.setIfInBounds p v))}:=λp=>by
   have hu:=Heap.get?_update_self (Obj.mapSeq (·.setIfInBounds p v)) ho rfl
   refine Ru (vs:=vs.set p v) (n:=n) (tk:=s.toks) R e rfl (Heap.SameBut.update ..).extBut ?_ (by rw[List.length_set];exact l) (rs.set hv) rfl
   rw[hu]
   have hx:vs.toArray.setIfInBounds p v=(vs.set p v).toArray:=by apply Array.toList_inj.mp;simp
   show some (Obj.mapSeq _ _)=_
   simp only[Obj.mapSeq,hx];simp
  have fin':∀p:Nat,K (H.set a (.list (ds.set p d)))->PU B H s K {s with heap:=s.heap.update a (Obj.mapSeq (·.setIfInBounds p v))}:=λp kp=>by
   obtain⟨H',a1,a2,rfl⟩:=(C5 p)
   exact⟨_,a1,a2,kp⟩
  by_cases h0:0<=j
  ·rw[if_pos h0] at k
   exact ki_setAt (items:=vs.toArray) ho h0 h63 (by rw[List.size_toArray];exact AA [_,_] [_] [.U Ac Al,.r Aa Ab] (.U Ac Ag) rfl k2 hl) (fin' _ k)
  ·rw[if_neg h0] at k
   refine ki_setBack (items:=vs.toArray) ho (by exact AA [] [_] [.U Ac Ak] (.U Ac Ak) rfl (Int.not_le.mp h0)) (by rw[List.size_toArray];exact AA [_,_] [_] [.L (.g Al) Ac,.r Aa Ab] (.L (.g Ag) Ac) rfl k1 hl) (by exact AA [_,_] [_] [.L (.g Ag) Ac,.r Ab Aa,.l Ab Au] (.L (.g A8) Ac) rfl k1 hl l') ?_
   have:(j+(vs.toArray.size:Int)).toNat=(j+ds.length).toNat:=by rw[List.size_toArray,hl]
   rw[this]
   exact fin' _ k
 |@dict mP x e ei k1 k =>
  subst ei
  refine hi.strE λ_=>?_
  refine aT (R.know _ _ e) λ_ mQ hm l y=>?_
  refine wpAny_setItem_pairs (strKind_is B.prog B.w _ _) hm (λh' hm' hs=>?_) (by rw[sizeLine_eq];exact AA [_] [] [.l Aa Aj] (.l Aa Au) rfl l)
  have S:BE H s.heap (H.set a (.dict (mP.map λkv=>if kv.1=x then (kv.1,d) else kv))) h':=BE.put hs.extBut (.inl (by rw[e];simp))
  have y':=UE y k1 hv
  refine⟨H.set a (.dict _),R.put (A:=.dict _) hs.extBut (.inl (by rw[e];simp)) ?_ ⟨_,hm',?_,y'.step S⟩,⟨⟨h',s.toks+1,rfl⟩,S⟩,k⟩
  ·refine BG (Heap.dictOf_iff.mp hm') λo ho _=>?_;exact⟨o,ho⟩
  ·rw[OM y k1];exact l
 |@idict j e ei k1 k2 k =>
  subst ei
  refine hi.intE λ_=>?_
  refine gU (R.know _ _ e) λ_ mQ hm l=>?_
  have hlen:mQ.length<=100:=by
   have hn:(mQ.map (·.1)).Nodup:=let ⟨_,_,_,_,_,_,_,_,z⟩:=hm;z
   have:=Vk 100 (mQ.map (·.1)) hn λk hk=>by refine BG (List.mem_map.mp hk) λp hp mN=>?_;subst mN;have:=l p hp;exact⟨AA [] [_] [.L Ak Ac] (.L Ak Ac) rfl this.1,AA [] [_] [.U Ac (.n 100)] (.U Ac (.c Av)) rfl this.2⟩
   rwa [List.length_map] at this
  refine wpAny_setItem_pairs (intKind_is B.prog B.w _ _) hm (λh' hm' hs=>?_) (by rw[sizeLine_eq];exact AA [_] [] [.l Aa Av] (.l Aa Au) rfl hlen)
  have S:BE H s.heap (H.set a .idict) h':=BE.put hs.extBut (.inl (by rw[e];simp))
  rw[←KH.set_same H a .idict e] at k
  refine⟨H.set a .idict,R.put (A:=.idict) hs.extBut (.inl (by rw[e];simp)) ?_ ⟨_,hm',?_⟩,⟨⟨h',s.toks+1,rfl⟩,S⟩,k⟩
  ·refine BG (Heap.dictOf_iff.mp hm') λo ho _=>?_;exact⟨o,ho⟩
  ·intro kv hkv
   unfold stored at hkv
   split at hkv
   ·refine BG (List.mem_map.mp hkv) λp hp mN=>?_;subst mN
    split
    ·exact l p hp
    ·exact l p hp
   ·rcases List.mem_append.mp hkv with z|z
    ·exact l _ z
    ·rw[List.mem_singleton.mp z];exact⟨k1,k2⟩
end
section
open PySem PySem.W PySem.Calls PyProof.Rows Builtin Builtin.ObjectAttr
noncomputable def BS(K:Frag)(C:Addr)(name:Str):Bool:=plainGet K C name&&hasDictIn K C&&(findIn K (.ref C) name==some none)
noncomputable def AU(K:Frag)(C:Addr)(name:Str)(f:Addr):Bool:=plainGet K C name&&(findIn K (.ref C) name==some (some (.ref f)))&&isFn K (.ref f)
noncomputable def B0(K:Frag)(C:Addr)(name:Str):Bool:=(findIn K (.ref C) "__setattr__"==some (some (.builtin "object.__setattr__")))&&plainOver K C&&(takerIn K C name==some none)&&hasDictIn K C
theorem IE:∀{es:List DictEntry} {mP:List (Str×D)},EW h H es mP->(∀d,mP.lookup name=some d->∃v,getL name es=some (some v)/\BN h H v d)/\(mP.lookup name=none->getL name es=some none):=by
 intro es mP x
 induction x with
 |nil=>exact⟨λd e=>(by cases e),λ_=>rfl⟩
 |@cons hs y t v es d mP a _ ih =>
  have hk:∀z,(Value.str y t).isStr z=(y==z):=λz=>rfl
  constructor
  ·intro d' e
   rw[List.lookup_cons] at e
   by_cases hxy:(name==y)=true
   ·rw[hxy] at e;cases e
    refine⟨v,?_,a⟩
    unfold getL
    rw[List.find?_cons]
    simp[hk,beq_iff_eq.mp hxy]
   ·have hn:(name==y)=false:=by simpa using hxy
    rw[hn] at e
    refine BG (ih.1 d' e) λv' e1 e2=>?_
    refine⟨v',?_,e2⟩
    unfold getL at e1 ⊢
    have hy:(y==name)=false:=by rw[beq_eq_false_iff_ne];exact λz=>hxy (by rw[z];exact beq_self_eq_true _)
    rw[List.find?_cons]
    simp only[hk,hy,List.any_cons]
    have:DictEntry.refKey ⟨hs,.str y t,v⟩=false:=rfl
    simpa only[this,Bool.false_or] using e1
  ·intro e
   rw[List.lookup_cons] at e
   by_cases hxy:(name==y)=true
   ·rw[hxy] at e;exact sN e
   ·have hn:(name==y)=false:=by simpa using hxy
    rw[hn] at e
    have e1:=ih.2 e
    unfold getL at e1 ⊢
    have hy:(y==name)=false:=by rw[beq_eq_false_iff_ne];exact λz=>hxy (by rw[z];exact beq_self_eq_true _)
    rw[List.find?_cons]
    simp only[hk,hy,List.any_cons]
    have:DictEntry.refKey ⟨hs,.str y t,v⟩=false:=rfl
    simpa only[this,Bool.false_or] using e1
noncomputable def L1(name:Str)(d:D):List (Str×D)->List (Str×D)
 |[]=>[(name,d)]
 |kv::r=>if kv.1=name then (name,d)::r else kv::L1 name d r
theorem ZP{hsh:Int}{t:Tok}(hd:BN h H v d):∀{es:List DictEntry} {mP:List (Str×D)},EW h H es mP->EW h H (putL name hsh (.str name t) v es) (L1 name d mP):=by
 intro es mP x
 induction x with
 |nil=>exact .cons hd .nil
 |@cons hs y t' v' es d' mP a r ih =>
  show EW h H (if(y==name)=true then _ else _) (if y=name then _ else _)
  by_cases hy:y=name
  ·subst hy
   rw[if_pos (beq_self_eq_true _),if_pos rfl];exact .cons hd r
  ·rw[if_neg (by rw[beq_iff_eq];exact hy),if_neg hy];exact .cons a ih
theorem IF(name:Str)(hsh:Int)(key v:Value):∀es:List DictEntry,(putL name hsh key v es).length<=es.length+1
 |[]=>Nat.le_refl _
 |e::r=>by
  unfold putL
  split
  ·simp
  ·have:=IF name hsh key v r;simp only[List.length_cons];exact AA [_,_] [] [.l Aa (.p Ab Ae)] (.l (.p Aa Ae) (.p (.p Ab Ae) Ae)) rfl this
section
variable {B:Base} {H:KH} {A:Around} {s:Shared} {v w:Value} {d e:D} {K:D->KH->Prop}
theorem gZ{a b c:Bool}(h:(a&&b&&c)=true):a=true/\b=true/\c=true:=by cases a<;>cases b<;>cases c<;>simp_all
theorem Pl{x dx:Addr}(R:BP B H h)(e1:H x=some (.inst C dx))(e2:H dx=some (.attrs mP)):∃es n,es.length<=100/\h.get? dx=some (dictOf es n)/\h.get? x=some (instObj C dx)/\InstAt h x (instObj C dx) C (some (dictOf es n))/\EW h H es mP:=by
 refine Ea (R.know _ _ e1) λ_ r1=>?_
 refine F2 (R.know _ _ e2) λ_ es n ho l r2=>?_
 exact⟨es,n,l,ho,r1,⟨r1,rfl,rfl,ho⟩,r2⟩
inductive Ri(d:D)(name:Str)(H:KH)(K:Frag)(k:D->KH->Prop):Prop
 |mk {x C dx:Addr} {mP:List (Str×D)} {r:D} (ed:d= .ref x) (e1:H x=some (.inst C dx)) (e2:H dx=some (.attrs mP)) (hr:mP.lookup name=some r) (k1:BS K C name=true) (k:k r H)
theorem ZQ{expr:Bool}(R:BP B H s.heap)(hv:BN s.heap H v d)(k:Ri d name H B.K K):wpAny (model B.prog B.w) A (getAttr v name expr) (PV B H s K) E s:=by
 obtain @⟨x,C,dx,mP,r,ed,e1,e2,hr,k1,k⟩:=k
 subst ed
 refine hv.refE ?_
 refine Mp (Pl R e1 e2) λes n l ho hx I y=>?_
 refine BG ((IE y).1 r hr) λv' e3 hd=>?_
 refine OK (gZ k1) λa1 a2 a3=>?_
 have X:B.K.In s.heap:=B.hK.keeps λb o e=>(R.base b o e).1
 exact get_value X I (plainGet_of a1).1 (findObj_own a2 (beq_iff_eq.mp a3) rfl e3) hd.handed ⟨r,H,hd,R,Nx.tok _,k⟩
inductive iG(d:D)(name:Str)(H:KH)(K:Frag)(k:Addr->D->Prop):Prop
 |mk {x C dx f:Addr} {mP:List (Str×D)} (ed:d= .ref x) (e1:H x=some (.inst C dx)) (e2:H dx=some (.attrs mP)) (k0:mP.lookup name=none) (k1:AU K C name f=true) (k:k f (.ref x))
theorem ZR{pl:Sem Bool}{k':Addr->D->Prop}{Q:Value×List Value->Shared->Prop}(R:BP B H s.heap)(hv:BN s.heap H v d)(k:iG d name H B.K k')
  (h:∀f d',k' f d'->BN s.heap H v d'->isFn B.K (.ref f)=true->Q (.ref f,[v]) s):wpAny (model B.prog B.w) A (getMethod v name pl) Q E s:=by
 obtain @⟨x,C,dx,f,mP,ed,e1,e2,k0,k1,k⟩:=k
 subst ed
 revert h
 refine hv.refE λh=>?_
 refine Mp (Pl R e1 e2) λes n l ho hx I y=>?_
 refine OK (gZ k1) λa1 a2 a3=>?_
 have X:B.K.In s.heap:=B.hK.keeps λb o e=>(R.base b o e).1
 refine method_fn X I (plainGet_of a1).1 (plainGet_of a1).2 (beq_iff_eq.mp a2) (beq_iff_eq.mp a3) ?_ (h f _ k (.ref _) a3)
 show(lookIn name (dictOf es n)).map _=_
 rw[lookIn_dict,(IE y).2 k0];rfl
theorem UF{x dx:Addr}{es:List DictEntry}{tk:Tok}{b:Bool}{Q:Fin->Shared->Prop}{cd:ClassData}(X:B.K.In s.heap)(hx:s.heap.get? x=some (instObj C dx))(ho:s.heap.get? dx=some (dictOf es n))
  (hc:clsIn B.K C=some cd) (hd':cd.hasDict=true) (hl:(getL name es).isSome=true) (hz:es.length<=100)
  (h:Q (.done (.ret .none)) {s with heap:=s.heap.update dx (Obj.putName name (PyData.keyHash B.w.params name) (.str name s.toks) v),toks:=s.toks+1}) :
  wpAny (model B.prog B.w) A (storeInOwnDict (.ref x) (.ref C) (.str name tk) name v b) Q E s:=by
 refine wpAny_bind (wpAny_pure (wpAny_bind (wpAny_bind (wpAny_loadPart hx (wpAny_bind ((looks_clsIn X hc).here ?_))))))
 rw[hd']
 refine wpAny_pure (a:=some dx) (wpAny_bind (wpAny_pure (wpAny_bind ?_)))
 unfold nsSet
 refine wpAny_bind (wpAny_bind (wpAny_askSetting (wpAny_pure (wpAny_bind (wpAny_mkText (wpAny_bind (wpAny_loadPart ho ?_)))))))
 have c:(!es.toArray.any (·.key.isStr name)&&es.toArray.any (·.refKey))=false:=by
  rw[←Array.any_toList,←Array.any_toList]
  unfold getL at hl
  split at hl
  ·rename_i en he
   rw[List.any_eq_true.mpr ⟨en,List.mem_of_find?_eq_some he,List.find?_some he⟩];rfl
  ·split at hl
   ·cases hl
   ·rename_i z;rw[Bool.not_eq_true] at z;rw[show es.toArray.toList=es from rfl,z,Bool.and_false]
 dsimp only
 rw[aRefKeyMayBeTheName_at,c]
 show wpAny _ _ (updatePart dx _ (Obj.putName name (PyData.keyHash B.w.params name) (.str name s.toks) v)) _ _ _
 have hp:Obj.putName name (PyData.keyHash B.w.params name) (.str name s.toks) v (dictOf es n)=dictOf (putL name (PyData.keyHash B.w.params name) (.str name s.toks) v es) (putN name es n):=putName_dict ..
 have hu:=Heap.get?_update_self (Obj.putName name (PyData.keyHash B.w.params name) (.str name s.toks) v) ho (by rw[hp];rfl)
 rw[hp] at hu
 refine wpAny_updatePart ho ?_
 refine wpAny_bind (wpAny_lookBehind hu (pastItsLine_dict (by rw[List.size_toArray,sizeLine_eq];have:=IF name (PyData.keyHash B.w.params name) (.str name s.toks) v es;exact AA [_,_] [] [.l Aa (.p Ab Ae),.l Ab Av] (.l Aa (.p Au Ae)) rfl this hz)) ?_)
 exact wpAny_pure h
inductive Fd(d:D)(name:Str)(e:D)(H:KH)(K:Frag)(k:KH->Prop):Prop
 |mk {x C dx:Addr} {mP:List (Str×D)} (ed:d= .ref x) (e1:H x=some (.inst C dx)) (e2:H dx=some (.attrs mP)) (k1:B0 K C name=true) (k2:mP.length<50) (k:k (H.set dx (.attrs (L1 name e mP))))
theorem EW.length{es:List DictEntry}(x:EW h H es mP):es.length=mP.length:=by
 induction x with
 |nil=>rfl
 |cons _ _ ih=>rw[List.length_cons,List.length_cons,ih]
theorem jN{a b c d:Bool}(h:(a&&b&&c&&d)=true):a=true/\b=true/\c=true/\d=true:=by cases a<;>cases b<;>cases c<;>cases d<;>simp_all
theorem Rv{k':KH->Prop}(R:BP B H s.heap)(hv:BN s.heap H v d)(hw:BN s.heap H w e)(k:Fd d name e H B.K k'):wpAny (model B.prog B.w) A (setAttr v name w) (λ_=>PU B H s k') E s:=by
 obtain @⟨x,C,dx,mP,ed,e1,e2,k1,k2,k⟩:=k
 subst ed
 refine hv.refE ?_
 refine Mp (Pl R e1 e2) λes n l ho hx I y=>?_
 refine Pf (jN k1) λa1 a2 a3 a4=>?_
 have X:B.K.In s.heap:=B.hK.keeps λb o e=>(R.base b o e).1
 refine set_plain X I (beq_iff_eq.mp a1) ?_
 refine osa_open (s:={s with toks:=s.toks+1}) X I a2 (beq_iff_eq.mp a3) λb=>?_
 refine BG (any_some a4) λcd hc hd'=>?_
 have hsome:(getL name es).isSome=true:=by
  have q:=IE (name:=name) y
  cases z:mP.lookup name with
  |none=>rw[q.2 z];rfl
  |some d'=>refine BG (q.1 d' z) λv' e3 _=>?_;rw[e3];rfl
 refine UF (B:=B) (s:={s with toks:=s.toks+1}) X hx ho hc hd' hsome l ?_
 have hxb:Heap.ExtBut dx s.heap (s.heap.update dx (Obj.putName name (PyData.keyHash B.w.params name) (.str name (s.toks+1)) w)):=(Heap.SameBut.update ..).extBut
 have S:BE H s.heap (H.set dx (.attrs (L1 name e mP))) _:=BE.put hxb (.inl (by rw[e2];simp))
 have hp:Obj.putName name (PyData.keyHash B.w.params name) (.str name (s.toks+1)) w (dictOf es n)=dictOf (putL name (PyData.keyHash B.w.params name) (.str name (s.toks+1)) w es) (putN name es n):=putName_dict ..
 have hu:=Heap.get?_update_self (Obj.putName name (PyData.keyHash B.w.params name) (.str name (s.toks+1)) w) ho (by rw[hp];rfl)
 rw[hp] at hu
 refine⟨_,R.put (A:=.attrs _) hxb (.inl (by rw[e2];simp)) ⟨_,hu⟩ ⟨_,_,hu,?_,(ZP hw y).step S⟩,⟨⟨_,s.toks+1+1,rfl⟩,S⟩,k⟩
 have t1:=IF name (PyData.keyHash B.w.params name) (.str name (s.toks+1)) w es
 have:=y.length
 exact AA [_,_,_] [] [.l Aa (.p Af Ae),.e Af Ab,.u Ab A0] (.l Aa Av) rfl t1 this k2
end
end
noncomputable def AC(ns:List Int):List D:=ns.map .int
theorem KE(x:AR h H vs (AC ns)):IntsAre vs ns:=by
 induction ns generalizing vs with
 |nil=>exact AR.nilE x .nil
 |cons i ns ih =>
  refine AR.consE (P:=λvs=>IntsAre vs (i::ns)) (d:=.int i) (ds:=AC ns) x ?_
  intro v r a b
  refine BN.intE (P:=λv=>IntsAre (v::r) (i::ns)) a ?_
  intro t
  exact .cons _ _ (ih b)
theorem Vl(x:IntsAre vs ns):AR h H vs (AC ns):=by
 induction x with
 |nil=>exact .nil
 |cons _ _ _ ih=>exact .cons (.int _ _) ih
theorem Ji{i:Int}:∀{ns:List Int} (m:Nat) (hlt:m<ns.idxOf i) {hm:m<ns.length},(ns[m]==i)=false
 |[],_,_,hm=>absurd hm (Nat.not_lt_zero _)
 |x::r,m,hlt,hm=>by
  rw[List.idxOf_cons] at hlt
  cases hx:x==i with
  |true=>rw[hx] at hlt;simp at hlt
  |false =>
   rw[hx] at hlt
   cases m with
   |zero=>exact hx
   |succ m=>exact Ji m (by simpa using hlt)
theorem GK(ns:List Int)(j:Nat)(h:j<ns.length):ns.getD j 0=ns[j]:=by simp[List.getD,h]
section
variable {B:Base} {H:KH} {A:Around} {s:Shared} {v w:Value} {d e:D} {K:D->KH->Prop}
theorem PV.int{i:Int}{t:Tok}{tk:Nat}(R:BP B H s.heap)(hs:s'={s with heap:=h,toks:=tk})(hx:∀a o,s.heap.get? a=some o->h.get? a=some o)(k:K (.int i) H):PV B H s K (.int i t) s':=by
 subst hs
 exact⟨.int i,H,.int _ _,R.ext hx,⟨⟨h,tk,rfl⟩,BE.ext hx⟩,k⟩
theorem co{i:Int}{t:Tok}(R:BP B H s.heap)(k:K (.int i.natAbs) H):wpAny (model B.prog B.w) A (call (.builtin "abs") [.int i t]) (PV B H s K) E s:=by
 refine call_abs_int λu tk=>?_
 have:(if i<0 then -i else i)=(i.natAbs:Int):=by split<;>omega
 rw[this]
 exact PV.int R rfl (λ_ _ e=>e) k
theorem ZS{i j:Int}{t u:Tok}(rm:Rm nr A)(R:BP B H s.heap)(k:K (.int (max i j)) H):wpAny (model B.prog B.w) A (call (.builtin "max") [.int i t,.int j u]) (PV B H s K) E s:=by
 refine max_two_ints rm.hd λh' tk hx=>?_
 by_cases hij:j>i
 ·rw[if_pos hij];exact PV.int R rfl hx (by rw[Int.max_eq_right (by exact AA [] [_,_] [.U Ac Ad] (.L Ac Ad) rfl hij)] at k;exact k)
 ·rw[if_neg hij];exact PV.int R rfl hx (by rw[Int.max_eq_left (by exact AA [] [_,_] [.L Ac Ad] (.L Ac Ad) rfl (Int.not_lt.mp hij))] at k;exact k)
theorem ZT{i j:Int}{t u:Tok}(rm:Rm nr A)(R:BP B H s.heap)(k:K (.int (min i j)) H):wpAny (model B.prog B.w) A (call (.builtin "min") [.int i t,.int j u]) (PV B H s K) E s:=by
 refine min_two_ints rm.hd λh' tk hx=>?_
 by_cases hij:j<i
 ·rw[if_pos hij];exact PV.int R rfl hx (by rw[Int.min_eq_right (by exact AA [] [_,_] [.U Ac Ad] (.L Ac Ad) rfl hij)] at k;exact k)
 ·rw[if_neg hij];exact PV.int R rfl hx (by rw[Int.min_eq_left (by exact AA [] [_,_] [.L Ac Ad] (.L Ac Ad) rfl (Int.not_lt.mp hij))] at k;exact k)
theorem NB{o:Obj}{a:Addr}(e:h.get? b=some o){p:Obj}(hk:∀c o,c∉[h.objs.size]->(h.push p).get? c=some o->h'.get? c=some o):h'.get? b=some o :=
 hk b o (by rw[List.mem_singleton];exact Nat.ne_of_lt (Heap.lt_size e)) (Heap.get?_push_of_some _ e)
theorem L2(ns:List Int):∀n≤ns.length,preSum (λi=>ns.getD i 0) n=(ns.take n).sum
 |0,_=>by simp[preSum]
 |n+1,h=>by
  have ih:=L2 ns n (by exact AA [_,_] [] [.l (.p Aa Ae) Ab] (.l Aa Ab) rfl h)
  have e:ns.take (n+1)=ns.take n++[ns.getD n 0]:=by
   rw[List.take_add_one,List.getElem?_eq_getElem (by omega)];simp[List.getD,List.getElem?_eq_getElem (show n<ns.length by omega)]
  rw[e,List.sum_append];show preSum _ n+ns.getD n 0=_;rw[ih];simp
theorem ZU(rm:Rm nr A)(R:BP B H s.heap)(hv:BN s.heap H v (.tup (AC ns)))(hne:ns≠[])(k:∀m,m∈ns->(∀a∈ns,a<=m)->K (.int m) H):wpAny (model B.prog B.w) A (call (.builtin "max") [v]) (PV B H s K) E s:=by
 refine hv.tupE λa vs n ho hH l rs=>?_
 have hi:=KE rs
 have hlen:=hi.length
 have hT:s.heap.IsTuple a vs.toArray:=⟨_,ho,rfl,n,rfl⟩
 have hal:=Heap.lt_size ho
 have hval:∀(i:Nat) (v:Value),vs.toArray[i]? = some v->∃t,v=Value.int (ns.getD i 0) t:=λi v e=>by
  obtain⟨v',e1,e2⟩:=rs.get (k:=i) (d:=.int (ns.getD i 0)) (by
   have hlt:i<ns.length:=by have:=(Array.getElem?_eq_some_iff.mp e).1;simp at this;exact AA [_,_,_] [] [.u Aa Af,.e Af Ab] (.u Aa Ab) rfl this hlen
   simp[AC,hlt,List.getD])
  have:vs[i]? = some v:=by simpa using e
  obtain rfl:=Option.some.inj (this.symm.trans e1);refine e2.intE λ_=>?_;exact⟨_,rfl⟩
 have hpos:0<ns.length:=List.length_pos_iff.mpr hne
 refine call_max_walk (wpAny_pyIter_tuple hT ?_)
 refine⟨_,[s.heap.objs.size,a],[_],_,_,_,_,rfl,Walks.tuple (A:=A.in1) rm.hd _ a (Nat.ne_of_lt hal) vs.toArray,⟨⟨_,Heap.get?_push_size _ rfl,rfl,rfl⟩,hT.push _⟩,λc hc=>?_,by simp;exact AA [_,_] [] [.u Am Ab,.r Aa Ab] (.u Am Aa) rfl hpos hlen,CmpOf.ints_gt (λi=>ns.getD i 0) hval,λv' h' tk hP hk=>?_⟩
 ·show c<(s.heap.push _).objs.size
  rw[Heap.size_push]
  rcases List.mem_cons.mp hc with rfl|hc
  ·exact Nat.lt_succ_self _
  ·rw[List.mem_singleton.mp hc];exact Nat.lt_succ_of_lt hal
 ·refine Ex (hval _ _ hP) λt mN=>?_;subst mN
  have q:=argBest_gt (λi=>ns.getD i 0) (vs.toArray.size-1)
  have hsz:vs.toArray.size=ns.length:=by simp[hlen]
  rw[hsz] at q ⊢
  refine PV.int R rfl (λb o e=>NB (a:=a) e hk) (k _ ?_ λx hx=>?_)
  ·have:argBest (λi j=>decide (ns.getD i 0>ns.getD j 0)) (ns.length-1)<ns.length:=by have:=q.1;exact AA [_,_,_] [] [.l Aa Af,.e (.p Af Ae) Ab] (.u Aa Ab) rfl q.1 (IC (AA [_] [] [.u Am Aa] (.l Ae Aa) rfl hpos))
   rw[GK _ _ this];exact List.getElem_mem this
  ·obtain⟨j,hj,rfl⟩:=List.mem_iff_getElem.mp hx
   have:=q.2 j (by exact AA [_,_,_] [] [.u Aa Af,.l Af (.p Ab Ae)] (.l Aa Ab) rfl hj (J7 _ _))
   rwa [GK _ _ hj] at this
theorem ZV(rm:Rm nr A)(R:BP B H s.heap)(hv:BN s.heap H v (.tup (AC ns)))(k:K (.int ns.sum) H):wpAny (model B.prog B.w) A (call (.builtin "sum") [v]) (PV B H s K) E s:=by
 refine hv.tupE λa vs n ho hH l rs=>?_
 have hi:=KE rs
 have hlen:=hi.length
 have hT:s.heap.IsTuple a vs.toArray:=⟨_,ho,rfl,n,rfl⟩
 have hal:=Heap.lt_size ho
 have hval:∀(i:Nat) (v:Value),vs.toArray[i]? = some v->∃t,v=Value.int (ns.getD i 0) t:=λi v e=>by
  obtain⟨v',e1,e2⟩:=rs.get (k:=i) (d:=.int (ns.getD i 0)) (by
   have hlt:i<ns.length:=by have:=(Array.getElem?_eq_some_iff.mp e).1;simp at this;exact AA [_,_,_] [] [.u Aa Af,.e Af Ab] (.u Aa Ab) rfl this hlen
   simp[AC,hlt,List.getD])
  have:vs[i]? = some v:=by simpa using e
  obtain rfl:=Option.some.inj (this.symm.trans e1);refine e2.intE λ_=>?_;exact⟨_,rfl⟩
 refine call_sum_walkAnyS (wpAny_pyIter_tuple hT ?_)
 refine⟨_,[s.heap.objs.size,a],[_],_,_,_,_,(λi=>ns.getD i 0),rfl,(Walks.tuple (A:=A.in1) rm.hd _ a (Nat.ne_of_lt hal) vs.toArray).toS,⟨⟨_,Heap.get?_push_size _ rfl,rfl,rfl⟩,hT.push _⟩,λc hc=>?_,hval,λs' t' hm=>?_⟩
 ·show c<(s.heap.push _).objs.size
  rw[Heap.size_push]
  rcases List.mem_cons.mp hc with rfl|hc
  ·exact Nat.lt_succ_self _
  ·rw[List.mem_singleton.mp hc];exact Nat.lt_succ_of_lt hal
 ·have hsz:vs.toArray.size=ns.length:=by simp[hlen]
  rw[hsz,L2 ns _ (Nat.le_refl _),List.take_length]
  have e:=Moved.eq_with hm
  rw[e]
  exact PV.int R rfl (λb o e=>NB (a:=a) e λc o hc q=>hm.heap c o hc q) k
theorem UG(R:BP B H s.heap)(hv:BN s.heap H v (.lst (AC ns)))(h64:ns.length<64)(k:∀ns':List Int,ns'.Perm ns->ns'.Pairwise (·<=·)->K (.lst (AC ns')) H):wpAny (model B.prog B.w) A (call (.builtin "sorted") [v]) (PV B H s K) E s:=by
 refine hv.lstE λa vs n ho hH l rs=>?_
 have hi:=KE rs
 refine sorted_ints (vs:=vs) ⟨_,ho,rfl,n,rfl⟩ hi (by rw[hi.length];exact h64) λout ns' a1 a2 a3=>?_
 refine Ex (sortedAll_at s.heap vs out) λe he=>?_
 have hx:∀b o,s.heap.get? b=some o->(sortedAll s.heap vs out).get? b=some o:=λ_ _=>sortedAll_old
 refine Qa.frozen (ds:=AC ns') R ⟨⟨_,s.toks,rfl⟩,hx,_,out.toList,e,rfl,by rw[he],?_,?_,Vl a1⟩ (k ns' a2 a3)
 ·cases q:s.heap.get? (s.heap.objs.size+1) with
  |none=>rfl
  |some o=>exact absurd (Heap.lt_size q) (Nat.not_lt.mpr (Nat.le_succ _))
 ·rw[a1.length,a2.length_eq,sizeLine_eq];exact AA [_] [] [.u Aa (.n 64)] (.l Aa Au) rfl h64
theorem ON{i:Int}{t:Tok}{b:Bool}(R:BP B H s.heap)(hv:BN s.heap H v d)(q:BC H d=some (true,AC ns))(hm:i∈ns)(k:K (.int (ns.idxOf i:Nat)) H):wpAny (model B.prog B.w) A (call (.builtin "list.index") [v,.int i t]) (PV B H s K) E s:=by
 refine Cv (E9 R hv q) λa vs n mN ho l rs=>?_;subst mN
 have hi:=KE rs
 have hlen:=hi.length
 have hj:ns.idxOf i<ns.length:=List.idxOf_lt_length_iff.mpr hm
 rw[sizeLine_eq] at l
 have at_:∀(j:Nat) (v:Value),vs[j]? = some v->∃t,v=Value.int (ns.getD j 0) t:=λj v e=>by
  obtain⟨v',e1,e2⟩:=rs.get (k:=j) (d:=.int (ns.getD j 0)) (by
   have hlt:j<ns.length:=by have:=(List.getElem?_eq_some_iff.mp e).1;exact AA [_,_,_] [] [.u Aa Af,.e Af Ab] (.u Aa Ab) rfl this hlen
   simp[AC,hlt,List.getD])
  obtain rfl:=Option.some.inj (e.symm.trans e1);refine e2.intE λ_=>?_;exact⟨_,rfl⟩
 let ev:Value->Bool:=λv=>match v with| .int x _=>x==i|_=>false
 refine call_meets PySem.F.slot_list_index ⟨_,ho,rfl⟩ PySem.F.entry_list_index (PySem.F.args_list_index_2 _ _) (PySem.MeetsSeq.list_index a vs.toArray n (.int i t) ev (λy hy=>?_) (ns.idxOf i) (by simp;exact AA [_,_,_] [] [.u Aa Af,.r Ab Af] (.u Aa Ab) rfl hj hlen) (by exact AA [_,_,_] [] [.u Aa Af,.r Ab Af,.l Ab Au] (.U Ag (.s A8 Ah)) rfl hj hlen l) ?_ λm hm' hlt=>?_) ⟨ho,PV.int R rfl (λ_ _ e=>e) k⟩
 ·obtain⟨j,hj',e⟩:=Array.mem_iff_getElem.mp hy
  refine Ex (at_ j y (by simp at hj';rw[List.getElem?_eq_getElem hj'];simpa using e)) λt' mN=>?_;subst mN
  exact PySem.MeetsSeq.EqGives.int _ _ _ _
 ·refine Ex (at_ (ns.idxOf i) (vs[ns.idxOf i]'(by omega)) (List.getElem?_eq_getElem _)) λt' e=>?_
  have:vs.toArray[ns.idxOf i]'(by simp;omega)=vs[ns.idxOf i]'(by omega):=by simp
  rw[this,e]
  show(ns.getD (ns.idxOf i) 0==i)=true
  rw[GK _ _ hj,List.getElem_idxOf];simp
 ·have hm'':m<vs.length:=by simpa using hm'
  refine Ex (at_ m (vs[m]'hm'') (List.getElem?_eq_getElem _)) λt' e=>?_
  have:vs.toArray[m]'hm'=vs[m]'hm'':=by simp
  rw[this,e]
  show(ns.getD m 0==i)=false
  rw[GK _ _ (by exact AA [_,_,_] [] [.u Aa Af,.u Af Ab] (.u Aa Ab) rfl hlt hj)]
  exact Ji m hlt
end
theorem AR.one(x:AR h H vs [d]):∃v,vs=[v]/\BN h H v d:=by
 cases x with|cons a r=>cases r;exact⟨_,rfl,a⟩
theorem AR.two{e:D}(x:AR h H vs [d,e]):∃v w,vs=[v,w]/\BN h H v d/\BN h H w e:=by
 cases x with|cons a r=>cases r with|cons b r=>cases r;exact⟨_,_,rfl,a,b⟩
noncomputable def BU(p q:Int×Int):Bool:=if p.1=q.1 then decide (p.2<q.2) else decide (p.1<q.1)
noncomputable def BW(p:Int×Int):D:=.tup [.int p.1,.int p.2]
noncomputable def C9{α:Type}(lt:Nat->Nat->Bool):KasT α->α
 |.ret a=>a
 |.ask i j k=>C9 lt (k (lt i j))
noncomputable def ZW{α:Type}(n:Nat):KasT α->Bool
 |.ret _=>true
 |.ask i j k=>decide (i<n)&&decide (j<n)&&ZW n (k true)&&ZW n (k false)
theorem Qm{α:Type}{cmp:Nat->Nat->(Bool->Shared->Prop)->Shared->Prop}{lt:Nat->Nat->Bool}(hc:∀i j,i<n->j<n->∀(C:Bool->Shared->Prop) (s:Shared),s.heap=h->(∀tk,C (lt i j) {s with toks:=tk})->cmp i j C s){G:α->Shared->Prop} :
  ∀(t:KasT α) (s:Shared),ZW n t=true->s.heap=h->(∀tk,G (C9 lt t) {s with toks:=tk})->t.kasWp cmp G s
 |.ret a,s,_,_,g=>g s.toks
 |.ask i j k,s,ok,hs,g=>by
  unfold ZW at ok
  simp only[Bool.and_eq_true] at ok
  obtain⟨⟨⟨h1,h2⟩,h3⟩,h4⟩:=ok
  refine hc i j (of_decide_eq_true h1) (of_decide_eq_true h2) _ s hs λtk=>Qm hc (k (lt i j)) _ ?_ hs λtk'=>g tk'
  cases lt i j<;>assumption
theorem Jj{α:Type}{lt lt':Nat->Nat->Bool}(h:∀i j,i<n->j<n->lt i j=lt' i j):∀(t:KasT α),ZW n t=true->C9 lt t=C9 lt' t
 |.ret a,_=>rfl
 |.ask i j k,ok=>by
  unfold ZW at ok
  simp only[Bool.and_eq_true] at ok
  obtain⟨⟨⟨h1,h2⟩,h3⟩,h4⟩:=ok
  unfold C9
  rw[h i j (of_decide_eq_true h1) (of_decide_eq_true h2)]
  refine Jj h _ ?_
  cases lt' i j<;>assumption
theorem jc:ZW 2 (kas_sort 2)=true:=by decide +kernel
theorem jd:ZW 3 (kas_sort 3)=true:=by decide +kernel
noncomputable def Vm(b10 b01:Bool)(i j:Nat):Bool:=match i,j with
 |1,0=>b10
 |0,1=>b01
 |_,_=>false
noncomputable def UH(b10 b01 b21 b12 b20 b02:Bool)(i j:Nat):Bool:=match i,j with
 |1,0=>b10
 |0,1=>b01
 |2,1=>b21
 |1,2=>b12
 |2,0=>b20
 |0,2=>b02
 |_,_=>false
noncomputable def ga(lt:Nat->Nat->Bool)(p:List Nat):Bool:=!lt (p.getD 1 0) (p.getD 0 0)&&(p==[0,1]||p==[1,0])
noncomputable def gb(lt:Nat->Nat->Bool)(p:List Nat):Bool:=!lt (p.getD 1 0) (p.getD 0 0)&&(!lt (p.getD 2 0) (p.getD 1 0)&&(p==[0,1,2]||(p==[0,2,1]||(p==[1,0,2]||(p==[1,2,0]||(p==[2,0,1]||p==[2,1,0]))))))
noncomputable def c3(a b c d:Bool):Bool:=!(a&&b)&&(!(a&&c)||d)&&(a||c || !d)
def gc(lt:Nat->Nat->Bool):Bool:=c3 (lt 0 1) (lt 1 0) (lt 1 2) (lt 0 2)&&(c3 (lt 0 2) (lt 2 0) (lt 2 1) (lt 0 1)&&(c3 (lt 1 0) (lt 0 1) (lt 0 2) (lt 1 2)&&(c3 (lt 1 2) (lt 2 1) (lt 2 0) (lt 1 0)&&(c3 (lt 2 0) (lt 0 2) (lt 0 1) (lt 2 1)&&c3 (lt 2 1) (lt 1 2) (lt 1 0) (lt 2 0)))))
theorem Rw:∀b10 b01:Bool,(b10&&b01)=false->ga (Vm b10 b01) (C9 (Vm b10 b01) (kas_sort 2)).toList=true:=by decide +kernel
theorem Rx:∀b10 b01 b21 b12 b20 b02:Bool,gc (UH b10 b01 b21 b12 b20 b02)=true->gb (UH b10 b01 b21 b12 b20 b02) (C9 (UH b10 b01 b21 b12 b20 b02) (kas_sort 3)).toList=true:=by decide +kernel
def OO(p q:Int×Int):Prop:=BU q p=false
theorem Mr(p q:Int×Int):BU p q=true↔p.1<q.1\/p.1=q.1/\p.2<q.2:=by
 unfold BU
 by_cases e:p.1=q.1
 ·rw[if_pos e,decide_eq_true_iff];exact⟨λmL=>Decidable.byContradiction λmM=>(Decidable.not_and_iff_or_not.mp (not_or.mp mM).2).elim (λmH=>(Int.lt_or_gt_of_ne mH).elim (λmI=>AA [] [_,_] [.U Ac Ad,.R Ac Ad] .f rfl mI e) (λmI=>AA [] [_,_] [.U Ad Ac,.E Ac Ad] .f rfl mI e)) (λmH=>AA [] [_,_] [.U Ac Ad,.L Ad Ac] .f rfl mL (Int.not_lt.mp mH)),λmL=>mL.elim (λmH=>(AA [] [_,_] [.U Ac Ad,.R Ac Ad] .f rfl mH e).elim) (λmH=>AA [] [_,_] [.U Ac Ad] (.U Ac Ad) rfl mH.2)⟩
 ·rw[if_neg e,decide_eq_true_iff];exact⟨λmL=>.inl (AA [] [_,_] [.U Ac Ad] (.U Ac Ad) rfl mL),λmL=>(Int.lt_or_gt_of_ne e).elim (λmH=>AA [] [_,_] [.U Ac Ad] (.U Ac Ad) rfl mH) (λmH=>mL.elim (λmI=>AA [] [_,_] [.U Ac Ad] (.U Ac Ad) rfl mI) (λmI=>(AA [] [_,_] [.U Ad Ac,.E Ac Ad] .f rfl mH mI.1).elim))⟩
theorem Pm(p q:Int×Int):OO p q↔¬(q.1<p.1\/q.1=p.1/\q.2<p.2):=by
 unfold OO
 rw[←Mr,Bool.not_eq_true]
theorem UI{a b c:Int×Int}(h1:OO a b)(h2:OO b c):OO a c:=by
 rw[Pm] at *
 exact λmL=>(Decidable.not_and_iff_or_not.mp (not_or.mp h1).2).elim (λmH=>(Decidable.not_and_iff_or_not.mp (not_or.mp h2).2).elim (λmI=>mL.elim (λmJ=>AA [] [_,_,_] [.U Ac Ad,.L Ai Ac,.L Ad Ai] .f rfl mJ (Int.not_lt.mp (not_or.mp h2).1) (Int.not_lt.mp (not_or.mp h1).1)) (λmJ=>(Int.lt_or_gt_of_ne mH).elim (λmK=>AA [] [_,_] [.U Ad Ac,.L Ac Ad] .f rfl mK (Int.not_lt.mp (not_or.mp h1).1)) (λmK=>AA [] [_,_,_] [.U Ad Ai,.E Ac Ad,.L Ai Ac] .f rfl mK mJ.1 (Int.not_lt.mp (not_or.mp h2).1)))) (λmI=>mL.elim (λmJ=>AA [] [_,_,_] [.U Ac Ad,.L Ai Ac,.L Ad Ai] .f rfl mJ (Int.not_lt.mp (not_or.mp h2).1) (Int.not_lt.mp (not_or.mp h1).1)) (λmJ=>(Int.lt_or_gt_of_ne mH).elim (λmK=>AA [] [_,_] [.U Ad Ac,.L Ac Ad] .f rfl mK (Int.not_lt.mp (not_or.mp h1).1)) (λmK=>AA [] [_,_,_] [.U Ad Ai,.E Ac Ad,.L Ai Ac] .f rfl mK mJ.1 (Int.not_lt.mp (not_or.mp h2).1))))) (λmH=>(Decidable.not_and_iff_or_not.mp (not_or.mp h2).2).elim (λmI=>mL.elim (λmJ=>AA [] [_,_,_] [.U Ac Ad,.L Ai Ac,.L Ad Ai] .f rfl mJ (Int.not_lt.mp (not_or.mp h2).1) (Int.not_lt.mp (not_or.mp h1).1)) (λmJ=>(Int.lt_or_gt_of_ne mI).elim (λmK=>AA [] [_,_] [.U Ac Ad,.L Ad Ac] .f rfl mK (Int.not_lt.mp (not_or.mp h2).1)) (λmK=>AA [] [_,_,_] [.U Ai Ac,.E Ac Ad,.L Ad Ai] .f rfl mK mJ.1 (Int.not_lt.mp (not_or.mp h1).1)))) (λmI=>mL.elim (λmJ=>AA [] [_,_,_] [.U Ac Ad,.L Ai Ac,.L Ad Ai] .f rfl mJ (Int.not_lt.mp (not_or.mp h2).1) (Int.not_lt.mp (not_or.mp h1).1)) (λmJ=>AA [] [_,_,_] [.U Ac Ad,.L Ai Ac,.L Ad Ai] .f rfl mJ.2 (Int.not_lt.mp mI) (Int.not_lt.mp mH))))
theorem UJ(a b:Int×Int)(h:BU a b=true):OO a b:=by
 rw[Mr] at h
 rw[Pm]
 exact λmL=>h.elim (λmH=>mL.elim (λmI=>AA [] [_,_] [.U Ad Ac,.U Ac Ad] .f rfl mH mI) (λmI=>AA [] [_,_] [.U Ad Ac,.E Ac Ad] .f rfl mH mI.1)) (λmH=>mL.elim (λmI=>AA [] [_,_] [.U Ac Ad,.E Ad Ac] .f rfl mI mH.1) (λmI=>AA [] [_,_] [.U Ad Ac,.U Ac Ad] .f rfl mH.2 mI.2))
theorem GL(a:Int×Int):BU a a=false:=by
 unfold BU;rw[if_pos rfl];exact decide_eq_false (Int.lt_irrefl _)
theorem TT(x y:Int×Int):(BU x y&&BU y x)=false:=by
 cases h:BU x y with
 |false=>rfl
 |true=>exact UJ x y h
theorem Ov(x y z:Int×Int):c3 (BU x y) (BU y x) (BU y z) (BU x z)=true:=by
 have h1:=TT x y
 have h2:BU x y=true->BU y z=true->BU x z=true:=λa b=>by
  rw[Mr] at *;exact Decidable.byContradiction λmL=>a.elim (λmH=>b.elim (λmI=>AA [] [_,_,_] [.U Ac Ai,.U Ai Ad,.L Ad Ac] .f rfl mH mI (Int.not_lt.mp (not_or.mp mL).1)) (λmI=>AA [] [_,_,_] [.U Ac Ai,.E Ai Ad,.L Ad Ac] .f rfl mH mI.1 (Int.not_lt.mp (not_or.mp mL).1))) (λmH=>b.elim (λmI=>AA [] [_,_,_] [.U Ai Ad,.E Ac Ai,.L Ad Ac] .f rfl mI mH.1 (Int.not_lt.mp (not_or.mp mL).1)) (λmI=>(Decidable.not_and_iff_or_not.mp (not_or.mp mL).2).elim (λmJ=>(Int.lt_or_gt_of_ne mJ).elim (λmK=>AA [] [_,_] [.U Ac Ad,.L Ad Ac] .f rfl mK (Int.not_lt.mp (not_or.mp mL).1)) (λmK=>AA [] [_,_,_] [.U Ad Ac,.E Ai Ad,.E Ac Ai] .f rfl mK mI.1 mH.1)) (λmJ=>AA [] [_,_,_] [.U Ac Ai,.U Ai Ad,.L Ad Ac] .f rfl mH.2 mI.2 (Int.not_lt.mp mJ))))
 have h3:BU x z=true->BU x y=false->BU y z=true:=λa b=>by
  have b:=(Pm y x).mp b
  rw[Mr] at *;exact Decidable.byContradiction λmL=>a.elim (λmH=>AA [] [_,_,_] [.U Ai Ad,.L Ac Ai,.L Ad Ac] .f rfl mH (Int.not_lt.mp (not_or.mp b).1) (Int.not_lt.mp (not_or.mp mL).1)) (λmH=>(Decidable.not_and_iff_or_not.mp (not_or.mp b).2).elim (λmI=>(Decidable.not_or_of_imp h2).elim (λmJ=>(Int.lt_or_gt_of_ne mI).elim (λmK=>AA [] [_,_] [.U Ad Ac,.L Ac Ad] .f rfl mK (Int.not_lt.mp (not_or.mp b).1)) (λmK=>AA [] [_,_,_] [.U Ac Ai,.E Ai Ad,.L Ad Ac] .f rfl mK mH.1 (Int.not_lt.mp (not_or.mp mL).1))) (λmJ=>(Int.lt_or_gt_of_ne mI).elim (λmK=>AA [] [_,_] [.U Ad Ac,.L Ac Ad] .f rfl mK (Int.not_lt.mp (not_or.mp b).1)) (λmK=>AA [] [_,_,_] [.U Ac Ai,.E Ai Ad,.L Ad Ac] .f rfl mK mH.1 (Int.not_lt.mp (not_or.mp mL).1)))) (λmI=>(Decidable.not_and_iff_or_not.mp (not_or.mp mL).2).elim (λmJ=>(Int.lt_or_gt_of_ne mJ).elim (λmK=>AA [] [_,_] [.U Ac Ad,.L Ad Ac] .f rfl mK (Int.not_lt.mp (not_or.mp mL).1)) (λmK=>AA [] [_,_,_] [.U Ad Ac,.E Ai Ad,.L Ac Ai] .f rfl mK mH.1 (Int.not_lt.mp (not_or.mp b).1))) (λmJ=>AA [] [_,_,_] [.U Ai Ad,.L Ac Ai,.L Ad Ac] .f rfl mH.2 (Int.not_lt.mp mI) (Int.not_lt.mp mJ))))
 revert h1 h2 h3
 generalize BU x y=p
 generalize BU y x=q
 generalize BU y z=r
 generalize BU x z=t
 revert p q r t
 decide
theorem ZX{P:Nat->Prop}(h0:P 0)(h1:P 1)(h2:P 2):∀i,i<3->P i
 |0,_=>h0
 |1,_=>h1
 |2,_=>h2
 |_+3,h=>absurd h (Nat.not_lt.mpr (Nat.le_add_left ..))
theorem cp{P:Nat->Prop}(h0:P 0)(h1:P 1):∀i,i<2->P i
 |0,_=>h0
 |1,_=>h1
 |_+2,h=>absurd h (Nat.not_lt.mpr (Nat.le_add_left ..))
theorem cq{a b:Bool}(h:(a&&b)=true):a=true/\b=true:=Bool.and_eq_true_iff.mp h
theorem Qn{a b:Bool}(h:a=true)(h':b=true):(a&&b)=true:=Bool.and_eq_true_iff.mpr ⟨h,h'⟩
theorem KG{a:Bool}(h:(!a)=true):a=false:=by cases a<;>first|rfl|cases h
theorem dw{p q:List Nat}{b:Bool}(h:(p==q||b)=true):p=q\/b=true:=(Bool.or_eq_true_iff.mp h).imp eq_of_beq id
noncomputable abbrev UK(ps:List (Int×Int))(is:List Nat):List (Int×Int):=is.map λi=>ps.getD i (0,0)
theorem ZY(a b:Int×Int){lt:Nat->Nat->Bool}(h:∀i j,lt i j=BU ([a,b].getD i (0,0)) ([a,b].getD j (0,0))) :
  (UK [a,b] (C9 lt (kas_sort 2)).toList).Perm [a,b]/\(UK [a,b] (C9 lt (kas_sort 2)).toList).Pairwise OO/\∀i∈(C9 lt (kas_sort 2)).toList,i<2:=by
 have e:C9 lt (kas_sort 2)=C9 (Vm (BU b a) (BU a b)) (kas_sort 2):=Jj (n:=2) (λi j hi hj=>(h i j).trans
  (cp (P:=λi=>∀j,j<2->BU ([a,b].getD i (0,0)) ([a,b].getD j (0,0))=Vm (BU b a) (BU a b) i j) (cp (GL a) rfl) (cp rfl (GL b)) i hi j hj)) _ jc
 have g:=Rw (BU b a) (BU a b) (TT b a)
 rw[e]
 generalize (C9 (Vm (BU b a) (BU a b)) (kas_sort 2)).toList=p at g
 refine Ea (cq g) λg hp=>?_
 have one:∀x y:Int×Int,BU y x=false->[x,y].Pairwise OO:=λx y h=>.cons (λz hz=>by rw[List.mem_singleton.mp hz];exact h) (.cons (λz hz=>(nomatch hz)) .nil)
 rcases dw hp with rfl|hp
 ·exact⟨.refl _,one _ _ (KG g),by decide⟩
 ·obtain rfl:=eq_of_beq hp
  exact⟨List.Perm.swap a b [],one _ _ (KG g),by decide⟩
theorem ZZ(a b c:Int×Int){lt:Nat->Nat->Bool}(h:∀i j,lt i j=BU ([a,b,c].getD i (0,0)) ([a,b,c].getD j (0,0))) :
  (UK [a,b,c] (C9 lt (kas_sort 3)).toList).Perm [a,b,c]/\(UK [a,b,c] (C9 lt (kas_sort 3)).toList).Pairwise OO/\∀i∈(C9 lt (kas_sort 3)).toList,i<3:=by
 have e:C9 lt (kas_sort 3)=C9 (UH (BU b a) (BU a b) (BU c b) (BU b c) (BU c a) (BU a c)) (kas_sort 3):=Jj (n:=3) (λi j hi hj=>(h i j).trans
  (ZX (P:=λi=>∀j,j<3->BU ([a,b,c].getD i (0,0)) ([a,b,c].getD j (0,0))=UH (BU b a) (BU a b) (BU c b) (BU b c) (BU c a) (BU a c) i j) (ZX (GL a) rfl rfl) (ZX rfl (GL b) rfl) (ZX rfl rfl (GL c)) i hi j hj)) _ jd
 have g:=Rx (BU b a) (BU a b) (BU c b) (BU b c) (BU c a) (BU a c) (Qn (Ov a b c) (Qn (Ov a c b) (Qn (Ov b a c) (Qn (Ov b c a) (Qn (Ov c a b) (Ov c b a))))))
 rw[e]
 generalize (C9 (UH (BU b a) (BU a b) (BU c b) (BU b c) (BU c a) (BU a c)) (kas_sort 3)).toList=p at g
 refine Ea (cq g) λg1 g=>?_
 refine Ea (cq g) λg2 hp=>?_
 have C5:∀x y z:Int×Int,BU y x=false->BU z y=false->[x,y,z].Pairwise OO:=λx y z h1 h2 =>
  .cons (λw hw=>by
   rcases List.mem_cons.mp hw with rfl|hw
   ·exact h1
   ·rw[List.mem_singleton.mp hw];exact UI (b:=y) h1 h2) (.cons (λw hw=>by rw[List.mem_singleton.mp hw];exact h2) (.cons (λz hz=>(nomatch hz)) .nil))
 rcases dw hp with rfl|hp
 ·exact⟨.refl _,C5 _ _ _ (KG g1) (KG g2),by decide⟩
 rcases dw hp with rfl|hp
 ·exact⟨.cons a (List.Perm.swap b c []),C5 _ _ _ (KG g1) (KG g2),by decide⟩
 rcases dw hp with rfl|hp
 ·exact⟨List.Perm.swap a b [c],C5 _ _ _ (KG g1) (KG g2),by decide⟩
 rcases dw hp with rfl|hp
 ·exact⟨List.perm_append_comm (l₁:=[b,c]) (l₂:=[a]),C5 _ _ _ (KG g1) (KG g2),by decide⟩
 rcases dw hp with rfl|hp
 ·exact⟨List.perm_append_comm (l₁:=[c]) (l₂:=[a,b]),C5 _ _ _ (KG g1) (KG g2),by decide⟩
 obtain rfl:=eq_of_beq hp
 exact⟨(List.Perm.swap b c [a]).trans (List.perm_append_comm (l₁:=[b,c]) (l₂:=[a])),C5 _ _ _ (KG g1) (KG g2),by decide⟩
theorem cr{α:Type}:∀{l:List α},l.length=2->∃a b,l=[a,b]
 |[a,b],_=>⟨a,b,rfl⟩
theorem jO{α:Type}:∀{l:List α},l.length=3->∃a b c,l=[a,b,c]
 |[a,b,c],_=>⟨a,b,c,rfl⟩
abbrev Za(ps:List (Int×Int))(i j:Nat):Bool:=BU (ps.getD i (0,0)) (ps.getD j (0,0))
theorem Zb(h:ps.length=2\/ps.length=3):ZW ps.length (kas_sort ps.length)=true/\(UK ps (C9 (Za ps) (kas_sort ps.length)).toList).Perm ps/\(UK ps (C9 (Za ps) (kas_sort ps.length)).toList).Pairwise OO/\∀i∈(C9 (Za ps) (kas_sort ps.length)).toList,i<ps.length:=by
 rcases h with h|h
 ·refine OI (cr h) λa b mN=>?_;subst mN
  exact⟨jc,ZY a b λ_ _=>rfl⟩
 ·refine cX (jO h) λa b c mN=>?_;subst mN
  exact⟨jd,ZZ a b c λ_ _=>rfl⟩
section
variable {B:Base} {H:KH} {A:Around} {s:Shared} {v:Value} {K:D->KH->Prop}
theorem Pn(x:BN h H v (BW p)):∃a t u m,v= .ref a/\h.get? a=some (Cy [.int p.1 t,.int p.2 u] m):=by
 unfold BW at x
 refine x.tupE ?_
 ·intro a vs m e q l r
  refine CJ r.two λv1 v2 mN h1 h2=>?_;subst mN
  cases h1;cases h2
  exact⟨a,_,_,m,rfl,e⟩
theorem Zc{q:Int×Int}{x y:Value}{Q:Bool->Shared->Prop}(rm:A.units+190<cLine)(hx:BN s.heap H x (BW p))(hy:BN s.heap H y (BW q))(h:∀tk,Q (BU p q) {s with toks:=tk}):wpAny (model B.prog B.w) A (keyLt' (tuples' true) x y) Q E s:=by
 refine M6 (Pn hx) λa t u m mN ha=>?_;subst mN
 refine M6 (Pn hy) λb t' u' m' mN hb=>?_;subst mN
 refine kat_lt (xs:=#[.int p.1 t,.int p.2 u]) (ys:=#[.int q.1 t',.int q.2 u']) ha rfl hb rfl ?_
 refine kat_cons (wpAny_eqBool_int ?_)
 by_cases e1:p.1=q.1
 ·have:(p.1==q.1)=true:=by rw[e1];simp
  rw[this]
  refine kat_yes (kat_cons (wpAny_eqBool_int ?_))
  by_cases e2:p.2=q.2
  ·have:(p.2==q.2)=true:=by rw[e2];simp
   rw[this]
   refine kat_yes (kat_nil ?_)
   have hl:BU p q=false:=by unfold BU;rw[if_pos e1];simp[e2]
   have:=h s.toks
   rw[hl] at this
   simpa using this
  ·have:(p.2==q.2)=false:=by simpa using e2
   rw[this]
   refine kat_no (kat_one _ _ ?_)
   refine TQ (B:=B) (op:=.Lt) (a:=.int p.2) (b:=.int q.2) (K:=λc=>c=BU p q) rm (.int _ _) (.int _ _) ?_ λc tk hc=>?_
   ·have:BU p q=decide (p.2<q.2):=by unfold BU;rw[if_pos e1]
    rw[this];exact(by unfold CA;rfl)
   ·subst hc;exact h tk
 ·have:(p.1==q.1)=false:=by simpa using e1
  rw[this]
  refine kat_no (oneLt_int ?_)
  have hl:BU p q=decide (p.1<q.1):=by unfold BU;rw[if_neg e1]
  rw[←hl];exact h s.toks
theorem LU(x:AR h H vs (ps.map BW))(hi:i<ps.length):BN h H (vs.getD i .none) (BW (ps.getD i (0,0))):=by
 refine BG (x.get (k:=i) (d:=BW (ps.getD i (0,0))) (by simp[hi])) λv e1 e2=>?_
 have:vs.getD i .none=v:=by simp[e1]
 rw[this];exact e2
theorem NC(x:AR h H vs (ps.map BW)):∀{is:List Nat},(∀i∈is,i<ps.length)->AR h H (is.map λi=>vs.getD i .none) ((is.map λi=>ps.getD i (0,0)).map BW)
 |[],_=>.nil
 |i::is,hi=>.cons (LU x (hi i (List.mem_cons_self ..))) (NC x λj hj=>hi j (List.mem_cons_of_mem _ hj))
theorem Ow:∀{vs:List Value} {ps:List (Int×Int)},AR h H vs (ps.map BW)->∃fs,KatTups h vs fs/\fs.length=ps.length/\∀v∈fs,∃i t,v=Value.int i t
 |_,[],.nil=>⟨[],trivial,rfl,by simp⟩
 |_,p::ps,.cons x r=>by
  refine DO (Ow r) λfs h1 h2 h3=>?_
  refine M6 (Pn x) λa t u m mN ha=>?_;subst mN
  refine⟨.int p.1 t::fs,KatTups.cons ha rfl rfl (by simp) h1,by simp[h2],λv hv=>?_⟩
  rcases List.mem_cons.mp hv with rfl|hv
  ·exact⟨_,_,rfl⟩
  ·exact h3 v hv
theorem Ry{P:PySem.Fin->Shared->Prop}(rm:A.units+190<cLine)(ho:s.heap.get? a=some (seqObj "list" vs.toArray n))
  (h23:ps.length=2\/ps.length=3) (hlen:vs.length=ps.length)
  (hx2:∀h':Heap,(∀b o,b≠a->s.heap.get? b=some o->h'.get? b=some o)->AR h' H vs (ps.map BW))
  (h:∀(is:List Nat) (tk:Nat),(is.map λi=>ps.getD i (0,0)).Perm ps->(is.map λi=>ps.getD i (0,0)).Pairwise OO->(∀i∈is,i<ps.length)->P (.done (.ret .none)) {s with heap:=sortedHeap s.heap a vs (is.map λi=>vs.getD i .none).toArray,toks:=tk}) :
  wpAny (model B.prog B.w) A (Builtin.«list.sort» ⟨[.ref a],[]⟩) P E s:=by
 have ha:a<s.heap.objs.size:=Heap.lt_size ho
 rw[list_sort_plain]
 refine wpAny_bind (listItems_at ho rfl ?_)
 refine wpAny_bind (listUpdate_at ho rfl ?_ (by rw[List.size_toArray,sizeLine_eq];exact h23.elim (λmH=>AA [_,_] [] [.e Aa Ab,.e Ab Ar] (.l Aa Au) rfl hlen mH) (λmH=>AA [_,_] [] [.e Aa Ab,.e Ab An] (.l Aa Au) rfl hlen mH)) (Nat.zero_le _))
 obtain⟨e1,ho1⟩:∃e1,(s.heap.update a (Obj.mapSeq λ_=>(#[]:Array Value))).get? a=some (seqObj "list" #[] e1):=⟨_,get?_update_seq ho λ_=>#[]⟩
 refine wpAny_bind (seqEpoch_at ho1 rfl ?_)
 refine wpAny_bind (wpAny_newTuple ?_ (by show vs.length<=_;rw[sizeLine_eq];exact h23.elim (λmH=>AA [_,_] [] [.e Aa Ab,.e Ab Ar] (.l Aa Au) rfl hlen mH) (λmH=>AA [_,_] [] [.e Aa Ab,.e Ab An] (.l Aa Au) rfl hlen mH)))
 refine wpAny_bind (wpAny_newList ?_ (Nat.zero_le _))
 refine wpAny_holding ?_
 have ho6:(((s.heap.update a (Obj.mapSeq λ_=>#[])).push (seqObj "tuple" vs.toArray 0)).push (seqObj "list" #[] 0)).get? a=some (seqObj "list" #[] e1):=by
  rw[Heap.get?_push_ne _ _ _ (by rw[size_push',Heap.size_update];exact Nat.ne_of_lt (Nat.lt_succ_of_lt ha)),Heap.get?_push_ne _ _ _ (by rw[Heap.size_update];exact Nat.ne_of_lt ha)]
  exact ho1
 have hv:AR (((s.heap.update a (Obj.mapSeq λ_=>#[])).push (seqObj "tuple" vs.toArray 0)).push (seqObj "list" #[] 0)) H vs (ps.map BW):=hx2 _ λb o hb q=>Heap.get?_push_of_some _ (Heap.get?_push_of_some _ ((Heap.SameBut.update s.heap a (Obj.mapSeq λ_=>(#[]:Array Value))).extBut b o hb q))
 show wpAny (model B.prog B.w) A _ P E {s with heap:=((s.heap.update a (Obj.mapSeq λ_=>(#[]:Array Value))).push (seqObj "tuple" vs.toArray 0)).push (seqObj "list" #[] 0)}
 unfold sortedHeap at h
 generalize (((s.heap.update a (Obj.mapSeq λ_=>#[])).push (seqObj "tuple" vs.toArray 0)).push (seqObj "list" #[] 0))=h6 at ho6 hv h
 dsimp only
 have hn2:¬vs.toArray.size<2:=by rw[List.size_toArray];exact Nat.not_lt_of_le (h23.elim (λmH=>AA [_,_] [] [.r Ab Ar,.r Aa Ab] (.l Ar Aa) rfl mH hlen) (λmH=>AA [_,_] [] [.r Ab An,.r Aa Ab] (.l Ar Aa) rfl mH hlen))
 rw[if_neg hn2,if_neg hn2]
 refine DO (Ow hv) λfs f1 f2 f3=>?_
 refine wpAny_bind (kat_kind (s:={s with heap:=h6}) (T:=.type "int") f1 (by exact h23.elim (λmH=>AA [_,_] [] [.r Ab Ar,.r Aa Ab] (.u Am Aa) rfl mH f2) (λmH=>AA [_,_] [] [.r Ab An,.r Aa Ab] (.u Am Aa) rfl mH f2)) (λv hv=>by refine OI (f3 v hv) λi t mN=>?_;subst mN;exact Looks.of_pure rfl) (by simp) ?_)
 have ht:(Value.type "int" != Value.type "tuple")=true:=by simp
 rw[ht]
 have ask:(kas_sort vs.length).kasWp (kas_ask B.prog B.w A (tuples' true) vs) (λp s''=>(∃tk,s''={s with heap:=h6,toks:=tk})/\(p.toList.map λi=>ps.getD i (0,0)).Perm ps/\(p.toList.map λi=>ps.getD i (0,0)).Pairwise OO/\∀i∈p.toList,i<ps.length) {s with heap:=h6}:=by
  rw[hlen]
  have hcmp:∀i j,i<ps.length->j<ps.length->∀(C:Bool->Shared->Prop) (s':Shared),s'.heap=h6->(∀tk,C (BU (ps.getD i (0,0)) (ps.getD j (0,0))) {s' with toks:=tk})->kas_ask B.prog B.w A (tuples' true) vs i j C s':=λi j hi hj C s' hs hC=>by
   unfold kas_ask
   exact Zc rm (by rw[hs];exact LU hv hi) (by rw[hs];exact LU hv hj) hC
  have g:=Zb h23
  exact Qm (n:=ps.length) (h:=h6) (lt:=Za ps) hcmp _ _ g.1 rfl λtk=>⟨⟨tk,rfl⟩,g.2⟩
 refine wpAny_bind (wpAny_mono (kat_run (Q:=λst' s'=>∃p:Array Nat,p.size=vs.length/\arrOf st'=p.map (kas_item (vs.toArray.zip vs.toArray))/\failedOf st'=none/\(∃tk,s'={s with heap:=h6,toks:=tk})/\(p.toList.map λi=>ps.getD i (0,0)).Perm ps/\(p.toList.map λi=>ps.getD i (0,0)).Pairwise OO/\∀i∈p.toList,i<ps.length)
  rfl (by exact h23.elim (λmH=>AA [_,_] [] [.r Ab Ar,.r Aa Ab] (.l Ar Aa) rfl mH hlen) (λmH=>AA [_,_] [] [.r Ab An,.r Aa Ab] (.l Ar Aa) rfl mH hlen)) (by exact h23.elim (λmH=>AA [_,_] [] [.e Aa Ab,.e Ab Ar] (.u Aa (.n 64)) rfl hlen mH) (λmH=>AA [_,_] [] [.e Aa Ab,.e Ab An] (.u Aa (.n 64)) rfl hlen mH)) (λp' st' s' a1 a2 a3 a4=>⟨p',a1,a2,a3,a4⟩) ask) ?_ λ_ _ e=>e)
 rintro⟨⟨⟩,st'⟩ s' ⟨p,hp,har,hf,⟨tk,rfl⟩,g1,g2,g3⟩
 dsimp only
 have hout:=kat_snds (ks:=vs) (vs:=vs) rfl har
 rw[hout]
 refine wpAny_bind (seqEpoch_at ho6 rfl ?_)
 refine wpAny_bind (listUpdate_at ho6 rfl ?_ (Nat.zero_le _) (by rw[List.size_toArray,List.length_map,Array.length_toList,hp,sizeLine_eq];exact h23.elim (λmH=>AA [_,_] [] [.e Aa Ab,.e Ab Ar] (.l Aa (.p Au Ae)) rfl hlen mH) (λmH=>AA [_,_] [] [.e Aa Ab,.e Ab An] (.l Aa (.p Au Ae)) rfl hlen mH)))
 rw[hf]
 simp only[bne_self_eq_false,Bool.false_eq_true,if_false]
 exact wpAny_pure (h p.toList tk g1 g2 g3)
theorem UL:∀{vs:List Value},vs.length<2->Array.map (λx=>x.snd) (vs.toArray.zip vs.toArray)=vs.toArray
 |[],_=>by simp
 |[_],_=>by simp
 |_::_::_,h=>absurd h (Nat.not_lt.mpr (Nat.le_add_left ..))
theorem Rz:∀{ps:List (Int×Int)},ps.length<2->ps.Pairwise OO
 |[],_=>.nil
 |[_],_=>.cons (λ_ h=>(nomatch h)) .nil
 |_::_::_,h=>absurd h (Nat.not_lt.mpr (Nat.le_add_left ..))
theorem R4{P:PySem.Fin->Shared->Prop}(ho:s.heap.get? a=some (seqObj "list" vs.toArray n))(hlen:vs.length<2)
  (h:P (.done (.ret .none)) {s with heap:=sortedHeap s.heap a vs vs.toArray}):wpAny (model B.prog B.w) A (Builtin.«list.sort» ⟨[.ref a],[]⟩) P E s:=by
 have ha:a<s.heap.objs.size:=Heap.lt_size ho
 rw[list_sort_plain]
 refine wpAny_bind (listItems_at ho rfl ?_)
 refine wpAny_bind (listUpdate_at ho rfl ?_ (by rw[List.size_toArray,sizeLine_eq];exact AA [_] [] [.u Aa Ar] (.l Aa Au) rfl hlen) (Nat.zero_le _))
 obtain⟨e1,ho1⟩:∃e1,(s.heap.update a (Obj.mapSeq λ_=>(#[]:Array Value))).get? a=some (seqObj "list" #[] e1):=⟨_,get?_update_seq ho λ_=>#[]⟩
 refine wpAny_bind (seqEpoch_at ho1 rfl ?_)
 refine wpAny_bind (wpAny_newTuple ?_ (by show vs.length<=_;rw[sizeLine_eq];exact AA [_] [] [.u Aa Ar] (.l Aa Au) rfl hlen))
 refine wpAny_bind (wpAny_newList ?_ (Nat.zero_le _))
 refine wpAny_holding ?_
 have ho6:(((s.heap.update a (Obj.mapSeq λ_=>#[])).push (seqObj "tuple" vs.toArray 0)).push (seqObj "list" #[] 0)).get? a=some (seqObj "list" #[] e1):=by
  rw[Heap.get?_push_ne _ _ _ (by rw[size_push',Heap.size_update];exact Nat.ne_of_lt (Nat.lt_succ_of_lt ha)),Heap.get?_push_ne _ _ _ (by rw[Heap.size_update];exact Nat.ne_of_lt ha)]
  exact ho1
 show wpAny (model B.prog B.w) A _ P E {s with heap:=((s.heap.update a (Obj.mapSeq λ_=>(#[]:Array Value))).push (seqObj "tuple" vs.toArray 0)).push (seqObj "list" #[] 0)}
 dsimp only
 have hn2:vs.toArray.size<2:=by rw[List.size_toArray];exact AA [_] [] [.u Aa Ar] (.u Aa Ar) rfl hlen
 rw[if_pos hn2,if_pos hn2]
 refine wpAny_bind (wpAny_pure ?_)
 rw[StateT.run_pure]
 refine wpAny_bind (wpAny_pure ?_)
 dsimp only
 have hout:Array.map (λx=>x.snd) (arrOf (SortSt.mk' general' (vs.toArray.zip vs.toArray) #[] 7 none))=vs.toArray:=by
  show Array.map (λx=>x.snd) (vs.toArray.zip vs.toArray)=vs.toArray
  exact UL hlen
 refine wpAny_bind (seqEpoch_at ho6 rfl ?_)
 rw[hout]
 refine wpAny_bind (listUpdate_at ho6 rfl ?_ (Nat.zero_le _) (by rw[List.size_toArray,sizeLine_eq];exact AA [_] [] [.u Aa Ar] (.l Aa (.p Au Ae)) rfl hlen))
 simp only[bne_self_eq_false,Bool.false_eq_true,if_false]
 exact wpAny_pure h
theorem R5(rm:Rm nr A)(R:BP B H s.heap)(hv:BN s.heap H v (.lst (ps.map BW)))(h3:ps.length<=3)(k:∀ps':List (Int×Int),ps'.Perm ps->ps'.Pairwise OO->K (.lst (ps'.map BW)) H) :
  wpAny (model B.prog B.w) A (call (.builtin "sorted") [v]) (PV B H s K) E s:=by
 refine hv.lstE λl vs m ho hH hl rs=>?_
 have hlen:vs.length=ps.length:=by rw[rs.length,List.length_map]
 refine Calls.call_function_entry kind_sorted plain_sorted entry_sorted (args_sorted1 _) ?_
 unfold Builtin.«sorted»
 refine wpAny_bind (m:=checkCount "sorted" 1 1 _) (wpAny_pure ?_)
 refine wpAny_bind (collect_list (vs:=vs) ⟨_,ho,rfl,m,rfl⟩ ?_ (by rw[sizeLine_eq];exact AA [_,_] [] [.e Aa Ab,.l Ab An] (.l Aa Au) rfl hlen h3))
 refine wpAny_bind (wpAny_newList ?_ (by rw[sizeLine_eq];exact AA [_,_] [] [.e Aa Ab,.l Ab An] (.l Aa Au) rfl hlen h3))
 have hsz:((s.heap.push (seqObj "list" #[] 0)).update s.heap.objs.size (Obj.mapSeq (·++vs.toArray))).objs.size=s.heap.objs.size+1:=by
  rw[Heap.size_update,size_push']
 have hoL:(((s.heap.push (seqObj "list" #[] 0)).update s.heap.objs.size (Obj.mapSeq (·++vs.toArray))).push (seqObj "list" vs.toArray 0)).get? (s.heap.objs.size+1)=some (seqObj "list" vs.toArray 0):=by
  rw[←hsz];exact Heap.get?_push_size _ rfl
 have keep:∀b o,s.heap.get? b=some o->(((s.heap.push (seqObj "list" #[] 0)).update s.heap.objs.size (Obj.mapSeq (·++vs.toArray))).push (seqObj "list" vs.toArray 0)).get? b=some o:=λb o q=>by
  have hlt:b<s.heap.objs.size:=Heap.lt_size q
  rw[Heap.get?_push_ne _ _ _ (by rw[hsz];exact Nat.ne_of_lt (Nat.lt_succ_of_lt hlt)),Heap.get?_update_ne _ _ _ _ (Nat.ne_of_lt hlt),Heap.get?_push_ne _ _ _ (Nat.ne_of_lt hlt)]
  exact q
 have C5:∀(vs':List Value) (ps':List (Int×Int)) (tk:Nat),AR s.heap H vs' (ps'.map BW)->ps'.Perm ps->ps'.Pairwise OO->PV B H s K (.ref (s.heap.objs.size+1)) {s with heap:=sortedAll s.heap vs vs'.toArray,toks:=tk}:=λvs' ps' tk hx hp hw=>by
  refine Ex (sortedAll_at s.heap vs vs'.toArray) λe he=>?_
  have hx':∀b o,s.heap.get? b=some o->(sortedAll s.heap vs vs'.toArray).get? b=some o:=λ_ _=>sortedAll_old
  refine Qa.frozen (ds:=ps'.map BW) R ⟨⟨_,tk,rfl⟩,hx',_,vs',e,rfl,he,?_,?_,hx⟩ (k ps' hp hw)
  ·cases q:s.heap.get? (s.heap.objs.size+1) with
   |none=>rfl
   |some o=>exact absurd (Heap.lt_size q) (Nat.not_lt.mpr (Nat.le_succ _))
  ·rw[hx.length,List.length_map,hp.length_eq,sizeLine_eq];exact AA [_] [] [.l Aa An] (.l Aa Au) rfl h3
 show wpAny _ _ _ _ _ {s with heap:=((s.heap.push (seqObj "list" #[] 0)).update s.heap.objs.size (Obj.mapSeq (·++vs.toArray))).push (seqObj "list" vs.toArray 0)}
 rw[hsz]
 refine wpAny_bind (wpAny_holding (wpAny_call_entry slot_list_sort ⟨_,hoL,rfl⟩ entry_list_sort ?body (args_list_sort _)))
 case body =>
  by_cases h2:vs.length<2
  ·exact R4 hoL h2 ⟨_,rfl,wpAny_pure ⟨_,rfl,C5 vs ps s.toks rs (List.Perm.refl _) (Rz (hlen▸h2))⟩⟩
  ·refine Ry (by show A.units+1+1+190<cLine;have:=rm.units;exact AA [_,_] [] [.u (.p Aa (.n 200)) Ab] (.u (.p (.p (.p Aa Ae) Ae) (.n 190)) Ab) rfl this) hoL (ps:=ps) (H:=H) (by exact Decidable.byContradiction λmL=>(Nat.lt_or_gt_of_ne (not_or.mp mL).1).elim (λmH=>AA [_,_] [] [.e Ab Aa,.u Aa Ar,.l Ar Ab] .f rfl hlen mH (Nat.le_of_not_lt h2)) (λmH=>(Nat.lt_or_gt_of_ne (not_or.mp mL).2).elim (λmI=>AA [_] [] [.u Ar Aa,.u Aa An] .f rfl mH mI) (λmI=>AA [_] [] [.u An Aa,.l Aa An] .f rfl mI h3))) hlen (λh' hk=>?_) λis tk g1 g2 g3=>⟨_,rfl,wpAny_pure ⟨_,rfl,C5 _ _ tk (NC rs g3) g1 g2⟩⟩
   refine rs.step ⟨λb o e q=>⟨hk b o ?_ (keep b o e),q⟩⟩
   have:=Heap.lt_size e
   exact Nat.ne_of_lt (Nat.lt_succ_of_lt this)
end
set_option genCtorIdx true in
inductive Qb where
 |v (i:Nat)
 |t (is:List Nat)
set_option genCtorIdx true in
inductive Bi where
 |len|tuple|max2|min2|maxT|sumT|abs|sorted|sortedP
set_option genCtorIdx true in
mutual
inductive X where
 |none
 |bool (b:Bool)
 |int (i:Int)
 |str (s:Str)
 |var (i:Nat)
 |tup (xs:Xs)
 |lst (frozen:Bool) (xs:Xs)
 |edict
 |sdict (k0a k0b:Str) (x1 x2:X)
 |bin (op:Operator) (a b:X)
 |neg (a:X)
 |not (a:X)
 |and (a b:X)
 |or (a b:X)
 |cmp (a:X) (op:CmpOp) (b:X)
 |cmp2 (a:X) (op1:CmpOp) (b:X) (op2:CmpOp) (c:X)
 |ite (t a b:X)
 |attr (a:X) (name:Str)
 |sub (a i:X)
 |upto (frozen:Bool) (a hi:X)
 |from(a lo:X)
 |call (f:Str) (xs:Xs)
 |blt (b:Bi) (xs:Xs)
 |listRange (x y:X)
 |meth (a:X) (name:Str) (xs:Xs)
 |append (a x:X)
 |pop (a:X)
 |extend (a x:X)
 |extendRange (a x y:X)
 |index (a x:X)
 |comp (frozen:Bool) (caps:List (Option Nat)) (tgt:Qb) (src:ay) (test elt:X)
 |comp2 (caps:List (Option Nat)) (i j:Nat) (src src2:ay) (elt:X)
inductive Xs where
 |nil
 |cons (x:X) (xs:Xs)
inductive ay where
 |of (x:X)
 |range1 (x:X)
 |range2 (x y:X)
 |enum (x:X)
end
mutual
inductive S where
 |asg (t:Qb) (x:X)
 |swap (is:List Nat) (xs:Xs)
 |setattr (a:X) (name:Str) (x:X)
 |setitem (a i x:X)
 |expr (x:X)
 |ret (x:X)
 |ite (t:X) (a b:Ss)
 |«while» (t:X) (b:Ss)
 |«for» (t:Qb) (src:ay) (b:Ss)
 |forZip (i j:Nat) (x y:X) (b:Ss)
 |brk
 |cont
 |pass
 |freeze (i:Nat)
inductive Ss where
 |nil
 |cons (s:S) (r:Ss)
end
noncomputable abbrev Bw:=List (Option D)
noncomputable def Fg:List Nat->List D->Bw->Bw
 |i::is,d::ds,ρ=>Fg is ds (ρ.set i (some d))
 |_,_,ρ=>ρ
noncomputable def D5:Qb->D->Bw->Option Bw
 |.v i,d,ρ=>some (ρ.set i (some d))
 |.t is,.tup ds,ρ=>if is.length=ds.length then some (Fg is ds ρ) else none
 |_,_,_=>none
noncomputable def GM(ρ:Bw)(i:Nat):Option D:=(ρ[i]?).join
def EJ(caps:List (Option Nat))(ρ:Bw):Bw:=caps.map λc=>c.bind (GM ρ)
noncomputable def Bc(i:Nat):List D->List D
 |[]=>[]
 |d::ds=>.tup [.int i,d]::Bc (i+1) ds
def Qo(B:Base)(n:Nat)(f:Value)(ds:List D)(H:KH)(K:D->KH->Prop):Prop :=
 ∀(A:Around) (s:Shared) (vs:List Value),Rm n A->BP B H s.heap->AR s.heap H vs ds->wpAny (model B.prog B.w) A (call f vs) (PV B H s K) B9 s
def AH(B:Base)(n:Nat)(f:Str)(ds:List D)(H:KH)(K:D->KH->Prop):Prop :=
 ∀a,nsIn B.K mainGlobals f=some (some (.ref a))->Qo B n (.ref a) ds H K
def hasM(B:Base)(C:Addr)(name:Str):Prop:=∃f,AU B.K C name f=true/\keepIn B.K (.ref f)=true
def AJ(B:Base)(n:Nat)(C:Addr)(name:Str)(ds:List D)(H:KH)(K:D->KH->Prop):Prop :=
 ∀f,AU B.K C name f=true->Qo B n (.ref f) ds H K
noncomputable def one(ds:List D)(K:D->Prop):Prop:=match ds with
 |[d]=>K d
 |_=>False
noncomputable def two(ds:List D)(K:D->D->Prop):Prop:=match ds with
 |[a,b]=>K a b
 |_=>False
noncomputable def ct(d:D)(K:List D->Prop):Prop:=match d with
 |.lst ds=>K ds
 |_=>False
def iV(b:Bi)(ds:List D)(H:KH)(K:D->KH->Prop):Prop:=match b with
 |.len=>one ds λd=>XR d H K
 |.tuple=>one ds λd=>Ly d H K
 |.max2=>two ds λa b=>DC a λi=>DC b λj=>K (.int (max i j)) H
 |.min2=>two ds λa b=>DC a λi=>DC b λj=>K (.int (min i j)) H
 |.abs=>one ds λd=>DC d λi=>K (.int i.natAbs) H
 |.maxT=>one ds λd=>ZI d λds=>∃ns,ds=AC ns/\ns≠[]/\∀m,m∈ns->(∀a∈ns,a<=m)->K (.int m) H
 |.sumT=>one ds λd=>ZI d λds=>∃ns,ds=AC ns/\K (.int ns.sum) H
 |.sorted=>one ds λd=>ct d λds=>∃ns,ds=AC ns/\ns.length<64/\∀ns':List Int,ns'.Perm ns->ns'.Pairwise (·<=·)->K (.lst (AC ns')) H
 |.sortedP=>one ds λd=>ct d λds=>∃ps:List (Int×Int),ds=ps.map BW/\ps.length<=3/\∀ps':List (Int×Int),ps'.Perm ps->ps'.Pairwise OO->K (.lst (ps'.map BW)) H
noncomputable def CK(body:D->KH->(Option D->KH->Prop)->Prop)(a:Addr):List D->List D->KH->(List D->KH->Prop)->Prop
 |[],acc,H,K=>K acc H
 |d::ds,acc,H,K=>body d H λr H'=>match r with
  |none=>H' a=some (.list acc)/\CK body a ds acc H' K
  |some x=>H' a=some (.list acc)/\acc.length<1000000/\CK body a ds (acc++[x]) (H'.set a (.list (acc++[x]))) K
noncomputable def Fh(inner:D->List D->KH->(List D->KH->Prop)->Prop):List D->List D->KH->(List D->KH->Prop)->Prop
 |[],acc,H,K=>K acc H
 |d::ds,acc,H,K=>inner d acc H λmO H'=>Fh inner ds mO H' K
noncomputable def ND(frozen:Bool)(ds:List D)(H:KH)(K:D->KH->Prop):Prop:=if frozen then K (.lst ds) H else ∀a,H a=none->K (.ref a) (H.set a (.list ds))
noncomputable def CX(K:Bool->KH->Prop)(d:D)(H:KH):Prop:=match d with
 |.bool b=>K b H
 |_=>False
inductive Pc(fr:Bool)(d e:D)(H:KH)(K:D->KH->Prop):Prop
 |list {ds:List D} {j:Nat} (q:BC H d=some (true,ds)) (ee:e= .int j) (k:ND fr (ds.take j) H K)
 |tup {ds:List D} {j:Nat} (q:BC H d=some (false,ds)) (ee:e= .int j) (hj:j<ds.length) (k:K (.tup (ds.take j)) H)
inductive Rj(d e:D)(H:KH)(K:D->KH->Prop):Prop
 |list {ds:List D} {j:Nat} (q:BC H d=some (true,ds)) (ee:e= .int j) (k:K (.lst (ds.drop j)) H)
 |tup {ds:List D} {j:Nat} (q:BC H d=some (false,ds)) (ee:e= .int j) (hj:1<=j) (hj':j<=ds.length) (k:K (.tup (ds.drop j)) H)
inductive iH(B:Base)(name:Str)(d:D)(H:KH)(k:Addr->Prop):Prop
 |mk {x C dx:Addr} {mP:List (Str×D)} (ed:d= .ref x) (e1:H x=some (.inst C dx)) (e2:H dx=some (.attrs mP)) (e3:mP.lookup name=none) (hm:hasM B C name) (k:k C)
inductive aP(o:Option D)(H:KH)(k:List D->Addr->Prop):Prop
 |mk {a:Addr} {ds:List D} (eo:o=some (.ref a)) (e:H a=some (.list ds)) (k:k ds a)
mutual
noncomputable def Cr(B:Base)(n:Nat):X->Bw->KH->(D->KH->Prop)->Prop
 |.none,_,H,K=>K .none H
 |.bool b,_,H,K=>K (.bool b) H
 |.int i,_,H,K=>K (.int i) H
 |.str s,_,H,K=>K (.str s) H
 |.var i,ρ,H,K=>match GM ρ i with
  |some d=>K d H
  |none=>False
 |.tup xs,ρ,H,K=>NE B n xs ρ H λds H=>K (.tup ds) H
 |.lst fr xs,ρ,H,K=>NE B n xs ρ H λds H=>ND fr ds H K
 |.edict,_,H,K=>∀a,H a=none->K (.ref a) (H.set a .idict)
 |.sdict k0a k0b x1 x2,ρ,H,K=>k0a≠k0b/\Cr B n x1 ρ H λd0b H=>Cr B n x2 ρ H λd0a H=>∀a,H a=none->K (.ref a) (H.set a (.dict [(k0a,d0b),(k0b,d0a)]))
 |.bin op a b,ρ,H,K=>Cr B n a ρ H λd H=>Cr B n b ρ H λe H=>ZJ op d e H K
 |.neg a,ρ,H,K=>Cr B n a ρ H λd H=>match d with
  |.int i=>K (.int (-i)) H
  |_=>False
 |.not a,ρ,H,K=>Cr B n a ρ H (CX λb H=>K (.bool (!b)) H)
 |.and a b,ρ,H,K=>Cr B n a ρ H (CX λc H=>if c then Cr B n b ρ H K else K (.bool false) H)
 |.or a b,ρ,H,K=>Cr B n a ρ H (CX λc H=>if c then K (.bool true) H else Cr B n b ρ H K)
 |.cmp a op b,ρ,H,K=>Cr B n a ρ H λd H=>Cr B n b ρ H λe H=>CA op (rd H d) (rd H e) λc=>K (.bool c) H
 |.cmp2 a op1 b op2 c,ρ,H,K=>Cr B n a ρ H λd H=>Cr B n b ρ H λe H=>CA op1 (rd H d) (rd H e) λr =>
   if r then Cr B n c ρ H λf H=>CA op2 (rd H e) (rd H f) λc=>K (.bool c) H else K (.bool false) H
 |.ite t a b,ρ,H,K=>Cr B n t ρ H (CX λc H=>if c then Cr B n a ρ H K else Cr B n b ρ H K)
 |.attr a name,ρ,H,K=>Cr B n a ρ H λd H=>Ri d name H B.K K
 |.sub a i,ρ,H,K=>Cr B n a ρ H λd H=>Cr B n i ρ H λe H=>MR d e H K
 |.upto fr a hi,ρ,H,K=>Cr B n a ρ H λd H=>Cr B n hi ρ H λe H=>Pc fr d e H K
 |.from a lo,ρ,H,K=>Cr B n a ρ H λd H=>Cr B n lo ρ H λe H=>Rj d e H K
 |.call f xs,ρ,H,K=>NE B n xs ρ H λds H=>AH B n f ds H K
 |.blt b xs,ρ,H,K=>NE B n xs ρ H λds H=>iV b ds H K
 |.listRange x y,ρ,H,K=>Cr B n x ρ H λd H=>Cr B n y ρ H λe H=>match d,e with
  |.int i,.int j=>BA i/\BA j/\K (.lst (Internal.upto i j)) H
  |_,_=>False
 |.meth a name xs,ρ,H,K=>Cr B n a ρ H λd H=>iH B name d H λC=>NE B n xs ρ H λds H=>AJ B n C name (d::ds) H K
 |.append a x,ρ,H,K=>Cr B n a ρ H λd H=>match d with
  |.ref l=>(∃es,H l=some (.list es))/\Cr B n x ρ H λe H=>JL l e H K
  |_=>False
 |.pop a,ρ,H,K=>Cr B n a ρ H λd H=>match d with
  |.ref l=>XS l H K
  |_=>False
 |.extend a x,ρ,H,K=>Cr B n a ρ H λd H=>match d with
  |.ref l=>(∃es,H l=some (.list es))/\Cr B n x ρ H λe H=>LM l e H K
  |_=>False
 |.extendRange a x y,ρ,H,K=>Cr B n a ρ H λd H=>match d with
  |.ref l=>(∃es,H l=some (.list es))/\Cr B n x ρ H λd H=>Cr B n y ρ H λe H=>match d,e with
   |.int i,.int j=>Di l i j H K
   |_,_=>False
  |_=>False
 |.index a x,ρ,H,K=>Cr B n a ρ H λd H=>(∃b ds,BC H d=some (b,ds))/\Cr B n x ρ H λe H=>match BC H d,e with
  |some (_,ds),.int i=>∃ns,ds=AC ns/\i∈ns/\K (.int (ns.idxOf i:Nat)) H
  |_,_=>False
 |.comp fr caps tgt src test elt,ρ,H,K=>Qp B n src ρ H λitems H=>∀a,H a=none ->
   CK (λd H K=>match D5 tgt d (EJ caps ρ) with
    |some ρ'=>Cr B n test ρ' H (CX λc H=>if c then Cr B n elt ρ' H λr H=>K (some r) H else K none H)
    |none=>False) a items [] (H.set a (.list [])) λacc H=>H a=some (.list acc)/\if fr then K (.lst acc) (H.erase a) else K (.ref a) H
 |.comp2 caps i j src src2 elt,ρ,H,K=>Qp B n src ρ H λitems H=>∀a,H a=none ->
   Fh (λd acc H K=>Qp B n src2 ((EJ caps ρ).set i (some d)) H λes H=>CK (λd' H K=>Cr B n elt (((EJ caps ρ).set i (some d)).set j (some d')) H λr H=>K (some r) H) a es acc H K) items [] (H.set a (.list [])) λacc H=>H a=some (.list acc)/\K (.lst acc) (H.erase a)
noncomputable def NE(B:Base)(n:Nat):Xs->Bw->KH->(List D->KH->Prop)->Prop
 |.nil,_,H,K=>K [] H
 |.cons x xs,ρ,H,K=>Cr B n x ρ H λd H=>NE B n xs ρ H λds H=>K (d::ds) H
noncomputable def Qp(B:Base)(n:Nat):ay->Bw->KH->(List D->KH->Prop)->Prop
 |.of x,ρ,H,K=>Cr B n x ρ H λd H=>match d with
  |.tup ds=>K ds H
  |.lst ds=>K ds H
  |_=>False
 |.range1 x,ρ,H,K=>Cr B n x ρ H λd H=>match d with
  |.int j=>BA j/\K (Internal.upto 0 j) H
  |_=>False
 |.range2 x y,ρ,H,K=>Cr B n x ρ H λd H=>Cr B n y ρ H λe H=>match d,e with
  |.int i,.int j=>BA i/\BA j/\K (Internal.upto i j) H
  |_,_=>False
 |.enum x,ρ,H,K=>Cr B n x ρ H λd H=>match d with
  |.tup ds=>K (Bc 0 ds) H
  |_=>False
end
inductive AF where
 |next
 |brk
 |cont
 |ret (d:D)
abbrev KS:=AF->Bw->KH->Prop
noncomputable def Bm(body:Bw->KH->KS->Prop)(tgt:Qb):List D->Bw->KH->KS->Prop
 |[],ρ,H,K=>K .next ρ H
 |d::ds,ρ,H,K=>match D5 tgt d ρ with
  |some ρ'=>body ρ' H λf ρ2 H0b=>match f with
   |.next=>Bm body tgt ds ρ2 H0b K
   |.cont=>Bm body tgt ds ρ2 H0b K
   |.brk=>K .next ρ2 H0b
   |.ret d=>K (.ret d) ρ2 H0b
  |none=>False
noncomputable def HN(body:Bw->KH->KS->Prop)(i j:Nat)(t:Addr):List (D×D)->Bw->KH->KS->Prop
 |[],ρ,H,K=>K .next ρ (H.erase t)
 |d::ds,ρ,H,K=>body ((ρ.set i (some d.1)).set j (some d.2)) H λf ρ2 H0b=>H0b t=some .pair/\match f with
   |.next=>HN body i j t ds ρ2 H0b K
   |.cont=>HN body i j t ds ρ2 H0b K
   |.brk=>K .next ρ2 (H0b.erase t)
   |.ret d=>K (.ret d) ρ2 (H0b.erase t)
noncomputable def Cw(test:Bw->KH->(D->KH->Prop)->Prop)(body:Bw->KH->KS->Prop):Nat->Bw->KH->KS->Prop
 |0,_,_,_=>False
 |m+1,ρ,H,K=>test ρ H (CX λb H=>if b then body ρ H λf ρ2 H0b=>match f with
   |.next=>Cw test body m ρ2 H0b K
   |.cont=>Cw test body m ρ2 H0b K
   |.brk=>K .next ρ2 H0b
   |.ret d=>K (.ret d) ρ2 H0b
  else K .next ρ H)
mutual
noncomputable def gd(B:Base)(n:Nat):S->Bw->KH->KS->Prop
 |.asg t x,ρ,H,K=>Cr B n x ρ H λd H=>match D5 t d ρ with
  |some ρ'=>K .next ρ' H
  |none=>False
 |.swap is xs,ρ,H,K=>NE B n xs ρ H λds H=>is.length=ds.length/\K .next (Fg is.reverse ds.reverse ρ) H
 |.setattr a name x,ρ,H,K=>Cr B n x ρ H λe H=>Cr B n a ρ H λd H=>Fd d name e H B.K λH=>K .next ρ H
 |.setitem a i x,ρ,H,K=>Cr B n x ρ H λe H=>Cr B n a ρ H λd H=>Cr B n i ρ H λj H=>match d with
  |.ref l=>TF l j e H λH=>K .next ρ H
  |_=>False
 |.expr x,ρ,H,K=>Cr B n x ρ H λ_ H=>K .next ρ H
 |.ret x,ρ,H,K=>Cr B n x ρ H λd H=>K (.ret d) ρ H
 |.ite t a b,ρ,H,K=>Cr B n t ρ H (CX λc H=>if c then AQ B n a ρ H K else AQ B n b ρ H K)
 |.while t b,ρ,H,K=>∃m,Cw (Cr B n t) (AQ B n b) m ρ H K
 |.for t src b,ρ,H,K=>Qp B n src ρ H λitems H=>Bm (AQ B n b) t items ρ H K
 |.forZip i j x y b,ρ,H,K=>Cr B n x ρ H λd H=>Cr B n y ρ H λe H=>match d,e with
  |.lst ds,.tup es=>∀t,H t=none->HN (AQ B n b) i j t (ds.zip es) ρ (H.set t .pair) K
  |_,_=>False
 |.brk,ρ,H,K=>K .brk ρ H
 |.cont,ρ,H,K=>K .cont ρ H
 |.pass,ρ,H,K=>K .next ρ H
 |.freeze i,ρ,H,K=>aP (GM ρ i) H λds a=>K .next (ρ.set i (some (.lst ds))) (H.erase a)
noncomputable def AQ(B:Base)(n:Nat):Ss->Bw->KH->KS->Prop
 |.nil,ρ,H,K=>K .next ρ H
 |.cons s r,ρ,H,K=>gd B n s ρ H λf ρ H=>match f with
  |.next=>AQ B n r ρ H K
  |f=>K f ρ H
end
inductive aQ(B:Base)(H:KH)(s:Shared)(m:Nat)(K:List D->KH->Prop)(vs:List Value)(s':Shared):Prop
 |mk (ds:List D) (H':KH) (x:AR s'.heap H' vs ds) (R:BP B H' s'.heap) (n:Nx H s H' s') (l:ds.length=m) (k:K ds H')
abbrev W1:=KH->(D->KH->Prop)->Prop
def B4(B:Base)(n:Nat)(sc:Scope)(ρ:Bw)(t:Env->Sem Value)(W:W1):Prop :=
 ∀(env:Env) (H:KH) (K:D->KH->Prop) (A:Around) (s:Shared),env.scope=sc->Rm n A->BP B H s.heap->BQ B env ρ H s.heap->W H K->wpAny (model B.prog B.w) A (t env) (PV B H s K) B9 s
def LV(B:Base)(n:Nat)(sc:Scope)(ρ:Bw)(es:List Expr)(W:KH->(List D->KH->Prop)->Prop):Prop :=
 ∀(env:Env) (H:KH) (K:List D->KH->Prop) (A:Around) (s:Shared) (pos:Pos),env.scope=sc->Rm n A->BP B H s.heap->BQ B env ρ H s.heap->W H K->wpAny (model B.prog B.w) A (spliced (backTo pos (starEach es env))) (aQ B H s es.length K) B9 s
section
variable {B:Base} {n:Nat} {sc:Scope} {ρ:Bw} {W Wa Wb Wc:W1} {Ws:KH->(List D->KH->Prop)->Prop} {a b c e:Expr} {pos:Pos}
theorem PV.mo{t:Sem Value}(h:wpAny (model B.prog B.w) A t (PV B H s K) B9 s0)
  (k:∀v sb d H0a,BN sb.heap H0a v d->BP B H0a sb.heap->Nx H s H0a sb->K d H0a->Q v sb):wpAny (model B.prog B.w) A t Q E s0:=wpAny_mono h (λv sb p=>PV.casesOn (motive:=λ_=>Q v sb) p (k v sb)) λ_ _ x=>x.elim
theorem aQ.mo{K:List D->KH->Prop}{t:Sem (List Value)}{Q:List Value->Shared->Prop}(h:wpAny (model B.prog B.w) A t (aQ B H s m K) B9 s0)
  (k:∀v sb d H0a,AR sb.heap H0a v d->BP B H0a sb.heap->Nx H s H0a sb->d.length=m->K d H0a->Q v sb):wpAny (model B.prog B.w) A t Q E s0:=wpAny_mono h (λv sb p=>aQ.casesOn (motive:=λ_=>Q v sb) p (k v sb)) λ_ _ x=>x.elim
theorem PV.go{α:Type}{t:Sem Value}{f:Value->Sem α}{Q:α->Shared->Prop}(h:wpAny (model B.prog B.w) A t (PV B H s K) B9 s)
  (k:∀d H0a v sb,BN sb.heap H0a v d->BP B H0a sb.heap->Nx H s H0a sb->K d H0a->wpAny (model B.prog B.w) A (f v) Q B9 sb):wpAny (model B.prog B.w) A (t>>=f) Q B9 s :=
 wpAny_bind (PV.mo h λv sb d H0a=>k d H0a v sb)
theorem PV.then{t:Sem Value}(n:Nx H s H0a sb)(h:wpAny (model B.prog B.w) A t (PV B H0a sb K) B9 sb):wpAny (model B.prog B.w) A t (PV B H s K) B9 sb :=
 wpAny_mono h (λv s' p=>PV.after n p) λ_ _ x=>x
theorem KI{t:Env->Sem Value}(h:∀(env:Env) (A:Around) (s:Shared) (H:KH) (Q:Value->Shared->Prop),(∀v tk,BN s.heap H v d->Q v {s with toks:=tk})->wpAny (model B.prog B.w) A (t env) Q B9 s):B4 B n sc ρ t (λH K=>K d H) :=
 λenv H K A s _ _ R _ k=>h env A s H _ λv tk x=>⟨d,H,x,R,Nx.tok _,k⟩
theorem Zd{k:Nat}:B4 B n sc ρ (eval (.Constant .none k pos)) (λH K=>K .none H) :=
 KI λenv A s H Q h=>wpAny_pure (h .none s.toks .none)
theorem Ze{k:Nat}{x:Bool}:B4 B n sc ρ (eval (.Constant (.bool x) k pos)) (λH K=>K (.bool x) H) :=
 KI λenv A s H Q h=>wpAny_pure (h (.bool x) s.toks (.bool x))
theorem cu{k:Nat}{x:Int}:B4 B n sc ρ (eval (.Constant (.int x) k pos)) (λH K=>K (.int x) H) :=
 KI λenv A s H Q h=>wpAny_mkInt (h _ _ (.int x _))
theorem cv{k:Nat}:B4 B n sc ρ (eval (.Constant (.str x) k pos)) (λH K=>K (.str x) H) :=
 KI λenv A s H Q h=>wpAny_mkText (h _ _ (.str x _))
theorem cw{k:NameKind}(hi:sc.names[i]? = some (x,k))(hk:Qh k=true)(hd:(x==("__debug__":Str))=false)(hc:(x==("__classdict__":Str))=false) :
  B4 B n sc ρ (eval (.Name x pos)) (λH K=>match GM ρ i with|some d=>K d H|none=>False):=by
 intro env H K A s he rm R F k'
 subst he
 unfold GM at k'
 cases hr:ρ[i]? with
 |none=>rw[hr] at k';exact k'.elim
 |some o =>
  cases o with
  |none=>rw[hr] at k';exact k'.elim
  |some d =>
   rw[hr] at k'
   exact cY F hi hk hr hd hc λv q=>PV.now q R k'
theorem Eh:LV B n sc ρ [] (λH K=>K [] H) :=
 λenv H K A s pos _ _ R _ k=>spliced_none ⟨[],H,.nil,R,Nx.refl _ _,rfl,k⟩
theorem Cz(hs:∀env,starEach (e::es) env=(false,eval e env)::starEach es env)(ha:B4 B n sc ρ (eval e) Wa)(hb:LV B n sc ρ es Ws) :
  LV B n sc ρ (e::es) (λH K=>Wa H λd H=>Ws H λds H=>K (d::ds) H):=by
 intro env H K A s pos he rm R F k
 refine spliced_more (PV.mo (ha env H _ A s he rm R F k) λv sb d H0a x R0a na k0a=>?_) (hs env)
 refine aQ.mo (hb env H0a _ A sb pos he rm R0a (F.step na.2) k0a) λvs se ds H0b y R0b ng l₂ k0b=>?_
 exact⟨d::ds,H0b,.cons (x.step ng.2) y,R0b,na.trans ng,by rw[List.length_cons,List.length_cons,l₂],k0b⟩
theorem cx{k:Nat}(hz:es.length<=1000)(h:LV B n sc ρ es Ws):B4 B n sc ρ (eval (.Tuple es k pos)) (λH K=>Ws H λds H=>K (.tup ds) H):=by
 intro env H K A s he rm R F k
 refine Tuple_ (aQ.mo (h env H _ A s pos he rm R F k) λvs sb ds H0a y R0a na k0a k0b=>?_)
 exact PV.then na (L0 R0a y (by rw[y.length,sizeLine_eq];exact AA [_,_] [] [.e Aa Ab,.l Ab Aj] (.l Aa Au) rfl k0a hz) k0b)
theorem cy{fr:Bool}(hz:es.length<=1000)(h:LV B n sc ρ es Ws):B4 B n sc ρ (eval (.List es pos)) (λH K=>Ws H λds H=>ND fr ds H K):=by
 intro env H K A s he rm R F k
 refine List_ (aQ.mo (h env H _ A s pos he rm R F k) λvs sb ds H0a y R0a na k0a k0b=>?_)
 refine wpAny_mono (M9 y (by rw[y.length,sizeLine_eq];exact AA [_,_] [] [.e Aa Ab,.l Ab Aj] (.l Aa Au) rfl k0a hz)) (λv se N=>PV.after na ?_) λ_ _ x=>x
 unfold ND at k0b
 cases fr with
 |true=>exact N.frozen R0a k0b
 |false=>exact N.booked R0a k0b
theorem cz{op:Operator}(ha:B4 B n sc ρ (eval a) Wa)(hb:B4 B n sc ρ (eval b) Wb):B4 B n sc ρ (eval (.BinOp a op b pos)) (λH K=>Wa H λd H=>Wb H λe H=>ZJ op d e H K):=by
 intro env H K A s he rm R F k
 show wpAny _ A (do let x ←eval a env;let y ←holding [x] (eval b env);standAt pos;operate [x,y] (binaryOp op x y)) _ _ _
 refine PV.go (ha env H _ A s he rm R F k) λd H0a v sb x R0a na k0a=>?_
 refine PV.go (wpAny_holding (hb env H0a _ A sb he rm R0a (F.step na.2) k0a)) λe H0b w se y R0b ng k0b=>?_
 refine wpAny_bind (wpAny_standAt (wpAny_operateT (PV.then (na.trans ng) (cg rm R0b (x.step ng.2) y k0b))))
theorem Po{K:Bool->KH->Prop}{α:Type}{t:Sem Value}{f:Value->Sem α}{Q:α->Shared->Prop}(h:wpAny (model B.prog B.w) A t (PV B H s (CX K)) B9 s)
  (k:∀b H0a sb,BP B H0a sb.heap->Nx H s H0a sb->K b H0a->wpAny (model B.prog B.w) A (f (.bool b)) Q B9 sb):wpAny (model B.prog B.w) A (t>>=f) Q B9 s:=by
 refine PV.go h λd H0a v sb x R0a na k0a=>?_
 unfold CX at k0a
 split at k0a
 ·refine x.boolE ?_;exact k _ _ _ R0a na k0a
 ·exact k0a.elim
theorem c0(ha:B4 B n sc ρ (eval a) Wa):B4 B n sc ρ (eval (.UnaryOp .USub a pos)) (λH K=>Wa H λd H=>match d with| .int i=>K (.int (-i)) H|_=>False):=by
 intro env H K A s he rm R F k
 show wpAny _ A (do let v ←eval a env;standAt pos;holding [v] (unaryOp .USub v)) _ _ _
 refine PV.go (ha env H _ A s he rm R F k) λd H0a v sb x R0a na k0a=>?_
 split at k0a
 ·refine x.intE λ_=>?_
  exact wpAny_bind (wpAny_standAt (wpAny_holding (PyProof.Rows.neg_int ⟨_,H0a,.int _ _,R0a,na.trans (Nx.tok _),k0a⟩)))
 ·exact k0a.elim
theorem c5(ha:B4 B n sc ρ (eval a) Wa):B4 B n sc ρ (eval (.UnaryOp .Not a pos)) (λH K=>Wa H (CX λb H=>K (.bool (!b)) H)):=by
 intro env H K A s he rm R F k
 show wpAny _ A (do let v ←eval a env;standAt pos;holding [v] (unaryOp .Not v)) _ _ _
 refine Po (ha env H _ A s he rm R F k) λb H0a sb R0a na k0a=>?_
 refine wpAny_bind (wpAny_standAt (wpAny_holding (not_of ?_)))
 exact wpAny_pure ⟨_,H0a,.bool _,R0a,na,k0a⟩
theorem Ox{op:BoolOp}(hne:es≠[])(ha:B4 B n sc ρ (eval e) Wa)(hb:B4 B n sc ρ (eval (.BoolOp op es pos)) Wb) :
  B4 B n sc ρ (eval (.BoolOp op (e::es) pos)) (λH K=>Wa H (CX λc H=>match op,c with| .And,true=>Wb H K| .And,false=>K (.bool false) H| .Or,true=>K (.bool true) H| .Or,false=>Wb H K)):=by
 intro env H K A s he rm R F k
 refine OI (List.exists_cons_of_ne_nil hne) λe' r mN=>?_;subst mN
 show wpAny _ A (do let v ←eval e env;standAt pos;let t ←holding [v] (truthy v);match op,t with| .And,false| .Or,true=>pure v|_,_=>boolOp pos op (evalEach (e'::r) env)) _ _ _
 refine Po (ha env H _ A s he rm R F k) λb H0a sb R0a na k0a=>?_
 refine wpAny_bind (wpAny_standAt (wpAny_bind (wpAny_holding (wpAny_pure ?_))))
 have go:Wb H0a K->wpAny (model B.prog B.w) A (boolOp pos op (evalEach (e'::r) env)) (PV B H s K) B9 sb:=λq=>PV.then na (hb env H0a K A sb he rm R0a (F.step na.2) q)
 cases op<;>cases b<;>first|exact go k0a|exact wpAny_pure ⟨_,H0a,.bool _,R0a,na,k0a⟩
theorem NF{op:BoolOp}(ha:B4 B n sc ρ (eval e) Wa):B4 B n sc ρ (eval (.BoolOp op [e] pos)) Wa:=ha
theorem Ei(h:∀es k p,e≠.Set es k p):behindInMarks op e=false:=by
 unfold behindInMarks
 split
 ·rename_i es k p;exact absurd rfl (h es k p)
 ·rfl
theorem c6(hb':∀es k p,b≠.Set es k p)(ha:B4 B n sc ρ (eval a) Wa)(hb:B4 B n sc ρ (eval b) Wb) :
  B4 B n sc ρ (eval (.Compare a [op] [b] pos)) (λH K=>Wa H λd H=>Wb H λe H=>CA op (rd H d) (rd H e) λc=>K (.bool c) H):=by
 intro env H K A s he rm R F k
 show wpAny _ A (do let l ←eval a env;compareChain pos l [op] [markedBehindIn op b (eval b env)]) _ _ _
 refine PV.go (ha env H _ A s he rm R F k) λd H0a v sb x R0a na k0a=>?_
 unfold markedBehindIn
 rw[Ei hb']
 show wpAny _ A (do let rv ←holding [v] (eval b env);standAt pos;operate [v,rv] (compareOp op v rv)) _ _ _
 refine PV.go (wpAny_holding (hb env H0a _ A sb he rm R0a (F.step na.2) k0a)) λe H0b w se y R0b ng k0b=>?_
 refine wpAny_bind (wpAny_standAt (wpAny_operateT (LS (B:=B) rm (HM R0b (x.step ng.2)) (HM R0b y) k0b λc tk kc=>?_)))
 exact⟨_,H0b,.bool c,R0b,(na.trans ng).trans (Nx.tok _),kc⟩
theorem Zf{od oa:CmpOp}(hb':∀es k p,b≠.Set es k p)(hc':∀es k p,c≠.Set es k p)(ha:B4 B n sc ρ (eval a) Wa)(hb:B4 B n sc ρ (eval b) Wb)(hc:B4 B n sc ρ (eval c) Wc) :
  B4 B n sc ρ (eval (.Compare a [od,oa] [b,c] pos)) (λH K=>Wa H λd H=>Wb H λe H=>CA od (rd H d) (rd H e) λr =>
   if r then Wc H λf H=>CA oa (rd H e) (rd H f) λc=>K (.bool c) H else K (.bool false) H):=by
 intro env H K A s he rm R F k
 show wpAny _ A (do let l ←eval a env;compareChain pos l [od,oa] [eval b env,markedBehindIn oa c (eval c env)]) _ _ _
 refine PV.go (ha env H _ A s he rm R F k) λd H0a v sb x R0a na k0a=>?_
 unfold markedBehindIn
 rw[Ei hc']
 show wpAny _ A (do let rv ←holding [v] (eval b env);standAt pos;let c' ←holding [v,rv] (compareOp od v rv);release [v,rv] [c'];if ←holding [c',rv] (truthy c') then compareChain pos rv [oa] [eval c env] else pure c') _ _ _
 refine PV.go (wpAny_holding (hb env H0a _ A sb he rm R0a (F.step na.2) k0a)) λe H0b w se y R0b ng k0b=>?_
 refine wpAny_bind (wpAny_standAt (wpAny_bind (wpAny_holding (LS (B:=B) rm (HM R0b (x.step ng.2)) (HM R0b y) k0b λr tk kr=>?_))))
 refine wpAny_bind (wpAny_release (wpAny_bind (wpAny_holding (wpAny_pure ?_))))
 have R0c:BP B H0b ({se with toks:=tk}:Shared).heap:=R0b
 have n3:Nx H s H0b {se with toks:=tk}:=(na.trans ng).trans (Nx.tok _)
 cases r with
 |false=>exact wpAny_pure ⟨_,H0b,.bool false,R0c,n3,kr⟩
 |true =>
  show wpAny _ A (do let rv ←holding [w] (eval c env);standAt pos;operate [w,rv] (compareOp oa w rv)) _ _ _
  refine PV.go (wpAny_holding (hc env H0b _ A _ he rm R0c (F.step n3.2) kr)) λf H0e u si z R0d n4 k0d=>?_
  refine wpAny_bind (wpAny_standAt (wpAny_operateT (LS (B:=B) rm (HM R0d (y.step n4.2)) (HM R0d z) k0d λc tk kc=>?_)))
  exact⟨_,H0e,.bool c,R0d,(n3.trans n4).trans (Nx.tok _),kc⟩
end
inductive PB(B:Base)(H:KH)(s:Shared)(K:Bool->KH->Prop)(b:Bool)(s':Shared):Prop
 |mk (H':KH) (R:BP B H' s'.heap) (n:Nx H s H' s') (k:K b H')
theorem PB.mo{K:Bool->KH->Prop}{t:Sem Bool}{Q:Bool->Shared->Prop}(h:wpAny (model B.prog B.w) A t (PB B H s K) B9 s0)
  (k:∀b sb H0a,BP B H0a sb.heap->Nx H s H0a sb->K b H0a->Q b sb):wpAny (model B.prog B.w) A t Q E s0:=wpAny_mono h (λv sb p=>PB.casesOn (motive:=λ_=>Q v sb) p (k v sb)) λ_ _ x=>x.elim
def LP(B:Base)(n:Nat)(sc:Scope)(ρ:Bw)(e:Expr)(W:W1):Prop :=
 ∀(env:Env) (H:KH) (K:Bool->KH->Prop) (A:Around) (s:Shared),env.scope=sc->Rm n A->BP B H s.heap->BQ B env ρ H s.heap->W H (CX K)->wpAny (model B.prog B.w) A (isTrue e env (eval e env)) (PB B H s K) B9 s
section
variable {B:Base} {n:Nat} {sc:Scope} {ρ:Bw} {W Wa Wb Wc:W1} {Ws:KH->(List D->KH->Prop)->Prop} {a b c e:Expr} {pos:Pos}
theorem PB.go{K:Bool->KH->Prop}{α:Type}{t:Sem Bool}{f:Bool->Sem α}{Q:α->Shared->Prop}(h:wpAny (model B.prog B.w) A t (PB B H s K) B9 s)
  (k:∀b H0a sb,BP B H0a sb.heap->Nx H s H0a sb->K b H0a->wpAny (model B.prog B.w) A (f b) Q B9 sb):wpAny (model B.prog B.w) A (t>>=f) Q B9 s :=
 wpAny_bind (wpAny_mono h (λv sb ⟨H0a,b,c,e⟩=>k v H0a sb b c e) λ_ _ x=>x)
theorem PB.then{K:Bool->KH->Prop}{t:Sem Bool}(n:Nx H s H0a sb)(h:wpAny (model B.prog B.w) A t (PB B H0a sb K) B9 sb):wpAny (model B.prog B.w) A t (PB B H s K) B9 sb :=
 wpAny_mono h (λv s' ⟨H',a,b,c⟩=>⟨H',a,n.trans b,c⟩) λ_ _ x=>x
theorem Vn(hp:∀env whole,isTrue e env whole=(do let v ←whole;standAt e.pos;holding [v] (truthy v)))(h:B4 B n sc ρ (eval e) W):LP B n sc ρ e W:=by
 intro env H K A s he rm R F k
 rw[hp]
 refine Po (h env H _ A s he rm R F k) λb H0a sb R0a na k0a=>?_
 exact wpAny_bind (wpAny_standAt (wpAny_holding (wpAny_pure ⟨H0a,R0a,na,k0a⟩)))
theorem c7(h:LP B n sc ρ a Wa):LP B n sc ρ (.UnaryOp .Not a pos) (λH K=>Wa H (CX λb H=>K (.bool (!b)) H)):=by
 intro env H K A s he rm R F k
 show wpAny _ A (do return !(←isTrue a env (eval a env))) _ _ _
 exact PB.go (h env H _ A s he rm R F k) λb H0a sb R0a na k0a=>wpAny_pure ⟨H0a,R0a,na,k0a⟩
theorem Oy{op:BoolOp}(hne:es≠[])(ha:LP B n sc ρ e Wa)(hb:LP B n sc ρ (.BoolOp op es pos) Wb) :
  LP B n sc ρ (.BoolOp op (e::es) pos) (λH K=>Wa H (CX λc H=>match op,c with| .And,true=>Wb H K| .And,false=>K (.bool false) H| .Or,true=>K (.bool true) H| .Or,false=>Wb H K)):=by
 intro env H K A s he rm R F k
 show wpAny _ A (do match op,←isTrue e env (eval e env) with| .And,false=>pure false| .Or,true=>pure true|_,_=>allTrue op es env) _ _ _
 refine PB.go (ha env H _ A s he rm R F k) λb H0a sb R0a na k0a=>?_
 have go:Wb H0a (CX K)->wpAny (model B.prog B.w) A (allTrue op es env) (PB B H s K) B9 sb:=λq=>PB.then na (hb env H0a K A sb he rm R0a (F.step na.2) q)
 cases op<;>cases b<;>first|exact go k0a|exact wpAny_pure ⟨H0a,R0a,na,k0a⟩
theorem NG{op:BoolOp}(ha:LP B n sc ρ e Wa):LP B n sc ρ (.BoolOp op [e] pos) Wa:=by
 intro env H K A s he rm R F k
 show wpAny _ A (do match op,←isTrue e env (eval e env) with| .And,false=>pure false| .Or,true=>pure true|_,_=>pure (op == .And)) _ _ _
 refine PB.go (ha env H _ A s he rm R F k) λb H0a sb R0a na k0a=>?_
 cases op<;>cases b<;>exact wpAny_pure ⟨H0a,R0a,na,k0a⟩
theorem c8(hb':∀es k p,b≠.Set es k p)(ha:B4 B n sc ρ (eval a) Wa)(hb:B4 B n sc ρ (eval b) Wb) :
  LP B n sc ρ (.Compare a [op] [b] pos) (λH K=>Wa H λd H=>Wb H λe H=>CA op (rd H d) (rd H e) λc=>K (.bool c) H):=by
 intro env H K A s he rm R F k
 show wpAny _ A (do let l ←eval a env;testChain pos l [op] [markedBehindIn op b (eval b env)]) _ _ _
 refine PV.go (ha env H _ A s he rm R F k) λd H0a v sb x R0a na k0a=>?_
 unfold markedBehindIn
 rw[Ei hb']
 show wpAny _ A (do let rv ←holding [v] (eval b env);standAt pos;let c ←operate [v,rv] (compareOp op v rv);holding [c] (truthy c)) _ _ _
 refine PV.go (wpAny_holding (hb env H0a _ A sb he rm R0a (F.step na.2) k0a)) λe H0b w se y R0b ng k0b=>?_
 refine wpAny_bind (wpAny_standAt (wpAny_bind (wpAny_operateT (LS (B:=B) rm (HM R0b (x.step ng.2)) (HM R0b y) k0b λc tk kc=>wpAny_holding (wpAny_pure ?_)))))
 exact⟨H0b,R0b,(na.trans ng).trans (Nx.tok _),kc⟩
theorem Zg{od oa:CmpOp}(hb':∀es k p,b≠.Set es k p)(hc':∀es k p,c≠.Set es k p)(ha:B4 B n sc ρ (eval a) Wa)(hb:B4 B n sc ρ (eval b) Wb)(hc:B4 B n sc ρ (eval c) Wc) :
  LP B n sc ρ (.Compare a [od,oa] [b,c] pos) (λH K=>Wa H λd H=>Wb H λe H=>CA od (rd H d) (rd H e) λr =>
   if r then Wc H λf H=>CA oa (rd H e) (rd H f) λc=>K (.bool c) H else K (.bool false) H):=by
 intro env H K A s he rm R F k
 show wpAny _ A (do let l ←eval a env;testChain pos l [od,oa] [eval b env,markedBehindIn oa c (eval c env)]) _ _ _
 refine PV.go (ha env H _ A s he rm R F k) λd H0a v sb x R0a na k0a=>?_
 unfold markedBehindIn
 rw[Ei hc']
 show wpAny _ A (do let rv ←holding [v] (eval b env);standAt pos;let c' ←holding [v,rv] (compareOp od v rv);release [v,rv] [c'];if ←holding [c',rv] (truthy c') then testChain pos rv [oa] [eval c env] else pure false) _ _ _
 refine PV.go (wpAny_holding (hb env H0a _ A sb he rm R0a (F.step na.2) k0a)) λe H0b w se y R0b ng k0b=>?_
 refine wpAny_bind (wpAny_standAt (wpAny_bind (wpAny_holding (LS (B:=B) rm (HM R0b (x.step ng.2)) (HM R0b y) k0b λr tk kr=>?_))))
 refine wpAny_bind (wpAny_release (wpAny_bind (wpAny_holding (wpAny_pure ?_))))
 have R0c:BP B H0b ({se with toks:=tk}:Shared).heap:=R0b
 have n3:Nx H s H0b {se with toks:=tk}:=(na.trans ng).trans (Nx.tok _)
 cases r with
 |false=>exact wpAny_pure ⟨H0b,R0c,n3,kr⟩
 |true =>
  show wpAny _ A (do let rv ←holding [w] (eval c env);standAt pos;let c ←operate [w,rv] (compareOp oa w rv);holding [c] (truthy c)) _ _ _
  refine PV.go (wpAny_holding (hc env H0b _ A _ he rm R0c (F.step n3.2) kr)) λf H0e u si z R0d n4 k0d=>?_
  refine wpAny_bind (wpAny_standAt (wpAny_bind (wpAny_operateT (LS (B:=B) rm (HM R0d (y.step n4.2)) (HM R0d z) k0d λc tk kc=>wpAny_holding (wpAny_pure ?_)))))
  exact⟨H0e,R0d,(n3.trans n4).trans (Nx.tok _),kc⟩
theorem c9(ht:LP B n sc ρ a Wa)(hb:B4 B n sc ρ (eval b) Wb)(hc:B4 B n sc ρ (eval c) Wc):B4 B n sc ρ (eval (.IfExp a b c pos)) (λH K=>Wa H (CX λt H=>if t then Wb H K else Wc H K)):=by
 intro env H K A s he rm R F k
 show wpAny _ A (do if ←isTrue a env (eval a env) then eval b env else eval c env) _ _ _
 refine PB.go (ht env H _ A s he rm R F k) λt H0a sb R0a na k0a=>?_
 cases t with
 |true=>exact PV.then na (hb env H0a K A sb he rm R0a (F.step na.2) k0a)
 |false=>exact PV.then na (hc env H0a K A sb he rm R0a (F.step na.2) k0a)
theorem dA(ht:LP B n sc ρ a Wa)(hb:LP B n sc ρ b Wb)(hc:LP B n sc ρ c Wc):LP B n sc ρ (.IfExp a b c pos) (λH K=>Wa H (CX λt H=>if t then Wb H K else Wc H K)):=by
 intro env H K A s he rm R F k
 show wpAny _ A (do if ←isTrue a env (eval a env) then isTrue b env (eval b env) else isTrue c env (eval c env)) _ _ _
 refine PB.go (ht env H _ A s he rm R F k) λt H0a sb R0a na k0a=>?_
 cases t with
 |true=>exact PB.then na (hb env H0a K A sb he rm R0a (F.step na.2) k0a)
 |false=>exact PB.then na (hc env H0a K A sb he rm R0a (F.step na.2) k0a)
noncomputable def DL:Expr->Bool
 |.Call (.Name _ _) [] [] _=>false
 |_=>true
theorem NH{o:Expr}(h:DL o=true){attr:Str}{whole:Sem Value}:attributeBase o attr env whole=whole:=by
 cases o<;>first|rfl|(rename_i f as ks p;cases f<;>first|rfl|(cases as<;>first|rfl|(cases ks<;>first|rfl|exact Jf h)))
theorem Zh(hs:DL a=true)(ha:B4 B n sc ρ (eval a) Wa):B4 B n sc ρ (eval (.Attribute a name pos)) (λH K=>Wa H λd H=>Ri d name H B.K K):=by
 intro env H K A s he rm R F k
 show wpAny _ A (do let o ←attributeBase a name env (eval a env);standAt pos.atName;let r ←holding [o] (getAttr o name true);letTemporaryGo a o r;pure r) _ _ _
 rw[NH hs]
 refine PV.go (ha env H _ A s he rm R F k) λd H0a v sb x R0a na k0a=>?_
 refine wpAny_bind (wpAny_standAt ?_)
 refine PV.go (wpAny_holding (ZQ R0a x k0a)) λe H0b w se y R0b ng k0b=>?_
 exact wpAny_bind (wpAny_letTemporaryGo (wpAny_pure ⟨e,H0b,y,R0b,na.trans ng,k0b⟩))
theorem FA{Q:Bool->Shared->Prop}(R:BP B H s.heap)(x:BN s.heap H v d)(h:(∃b ds,BC H d=some (b,ds))\/(∃a mP,d= .ref a/\H a=some (.dict mP)))
  (q:Q false s):wpAny (model B.prog B.w) A (getitemInPython v) Q E s:=by
 unfold getitemInPython
 rcases h with⟨b,ds,e⟩|⟨a,mP,rfl,e⟩
 ·refine Cv (E9 R x e) λa vs n mN ho _ _=>?_;subst mN
  cases b with
  |true=>exact wpAny_bind (wpAny_specialOf (T:="list") ⟨_,ho,rfl⟩ slot_list_getitem.lookup (wpAny_pure q))
  |false=>exact wpAny_bind (wpAny_specialOf (T:="tuple") ⟨_,ho,rfl⟩ slot_tuple_getitem.lookup (wpAny_pure q))
 ·refine x.refE ?_
  refine gU (R.know _ _ e) λ_ mQ hm _=>?_
  exact wpAny_bind (wpAny_specialOf (T:="dict") hm.mapOf.typeIs slot_dict_getitem.lookup (wpAny_pure q))
theorem R8{e:D}(k:MR d e H K):(∃b ds,BC H d=some (b,ds))\/(∃a mP,d= .ref a/\H a=some (.dict mP)):=by
 cases k with
 |seq q e hr k=>exact .inl ⟨_,_,q⟩
 |dict ed q e hr k=>exact .inr ⟨_,_,ed,q⟩
noncomputable def TU:Expr->Bool
 |.Slice .. => false
 |_=>true
theorem dB(hs:TU b=true)(ha:B4 B n sc ρ (eval a) Wa)(hb:B4 B n sc ρ (eval b) Wb):B4 B n sc ρ (eval (.Subscript a b pos)) (λH K=>Wa H λd H=>Wb H λe H=>MR d e H K):=by
 intro env H K A s he rm R F k
 show wpAny _ A (do let o ←eval a env;let i ←holding [o] (eval b env);standAt pos;let r ←subscripted b (←getitemInPython o) o i;letTemporaryGo a o r;pure r) _ _ _
 refine PV.go (ha env H _ A s he rm R F k) λd H0a v sb x R0a na k0a=>?_
 refine PV.go (wpAny_holding (hb env H0a _ A sb he rm R0a (F.step na.2) k0a)) λe H0b w se y R0b ng k0b=>?_
 refine wpAny_bind (wpAny_standAt (wpAny_bind (FA R0b (x.step ng.2) (R8 k0b) ?_)))
 have hsub:subscripted b false v w=operate [v,w] (getItem v w):=by cases b<;>first|rfl|cases hs
 rw[hsub]
 refine PV.go (wpAny_operateT (ZO R0b (x.step ng.2) y k0b)) λr H0d u sf z R0c n3 k0c=>?_
 exact wpAny_bind (wpAny_letTemporaryGo (wpAny_pure ⟨r,H0d,z,R0c,(na.trans ng).trans n3,k0c⟩))
end
theorem map_take{A:AO}(hb:Cd h b):T5 h H h (H.set b A):=λa o xs n z e q=>⟨e,(KH.set_ne H A (by rintro rfl;exact hb _ e _ _ z)).trans q⟩
theorem BN.take'{A:AO}(hb:Cd h b){v d}(x:BN h H v d):BN h (H.set b A) v d:=x.map (map_take hb)
theorem AR.take'{A:AO}(hb:Cd h b){vs ds}(x:AR h H vs ds):AR h (H.set b A) vs ds:=x.map (map_take hb)
theorem Fe.take'{A:AO}(hb:Cd h b){mQ mP}(x:Fe h H mQ mP):Fe h (H.set b A) mQ mP:=by
 induction x with
 |nil=>exact .nil
 |cons a _ ih=>exact .cons (a.take' hb) ih
theorem EW.take'{A:AO}(hb:Cd h b){es mP}(x:EW h H es mP):EW h (H.set b A) es mP:=by
 induction x with
 |nil=>exact .nil
 |cons a _ ih=>exact .cons (a.take' hb) ih
theorem BP.take'{A:AO}(R:BP B H h)(hH:H b=none)(h0:B.h0a.get? b=none)(hb:Cd h b)(ho:∃o,h.get? b=some o)(hA:T6 B h (H.set b A) b A):BP B (H.set b A) h:=by
 refine⟨λc o e=>⟨(R.base c o e).1,(KH.set_ne H A (by rintro rfl;rw[h0] at e;cases e)).trans (R.base c o e).2⟩,λa A' e=>?_⟩
 by_cases hq:a=b
 ·subst hq;rw[KH.set_self] at e;cases e;exact⟨ho,hA⟩
 ·rw[KH.set_ne _ _ hq] at e
  refine Ea (R.know a A' e) λho' r=>?_
  refine⟨ho',?_⟩
  cases A' with
  |list ds=>refine CJ r λvs n q l z=>?_;exact⟨vs,n,q,l,z.take' hb⟩
  |dict mP=>refine DO r λmQ q l z=>?_;exact⟨mQ,q,l,z.take' hb⟩
  |inst C dx=>exact r
  |attrs mP=>refine CJ r λes n q l z=>?_;exact⟨es,n,q,l,z.take' hb⟩
  |idict=>exact r
  |pair=>exact r
section
variable {B:Base} {n:Nat} {sc:Scope} {ρ:Bw} {W Wa Wb Wc:W1} {Ws:KH->(List D->KH->Prop)->Prop} {a b c e:Expr} {pos:Pos}
theorem Vo:B4 B n sc ρ (eval (.Dict [] [] pos)) (λH K=>∀a,H a=none->K (.ref a) (H.set a .idict)):=by
 intro env H K A s he rm R F k
 refine wpAny_Dict_empty ?_
 have hx:Heap.ExtBut s.heap.objs.size s.heap (s.heap.push {cls:=.type "dict",data:=.dict #[]}):=λa o _ e=>Heap.get?_push_of_some _ e
 refine⟨.ref _,H.set _ .idict,.ref _,R.put hx (.inr Bq) ⟨_,Heap.get?_push_size _ rfl⟩ ⟨[],Heap.DictOf.new _,by simp⟩,⟨⟨_,s.toks,rfl⟩,BE.put hx (.inr Bq)⟩,k _ R.free⟩
theorem Vp{k0a k0b:Str}{c0b c0c:Nat}{pa pb:Pos}(ha:B4 B n sc ρ (eval a) Wa)(hb:B4 B n sc ρ (eval b) Wb) :
  B4 B n sc ρ (eval (.Dict [some (.Constant (.str k0a) c0b pa),some (.Constant (.str k0b) c0c pb)] [a,b] pos))
   (λH K=>k0a≠k0b/\Wa H λd0b H=>Wb H λd0a H=>∀a,H a=none->K (.ref a) (H.set a (.dict [(k0a,d0b),(k0b,d0a)]))):=by
 intro env H K A s he rm R F ⟨hne,k⟩
 have hext:∀c o,s.heap.get? c=some o->(s.heap.push {cls:=.type "dict",data:=.dict #[]}).get? c=some o:=CE _
 have D0:(s.heap.push {cls:=.type "dict",data:=.dict #[]}).DictOf (strKind B.prog B.w) s.heap.objs.size []:=Heap.DictOf.new _
 have hsz:=Heap.get?_push_size s.heap (o:={cls:=.type "dict",data:=.dict #[]}) rfl
 refine wpAny_Dict_pairs (knd:=strKind B.prog B.w) (pairs:=[(eval (.Constant (.str k0a) c0b pa) env,do let x ←eval a env;standAt pos;pure x),(eval (.Constant (.str k0b) c0c pb) env,do let x ←eval b env;standAt pos;pure x)]) rfl (by simp) (by simp) ?_
 have R0:BP B H ({s with heap:=s.heap.push {cls:=.type "dict",data:=.dict #[]}}:Shared).heap:=R.ext hext
 have n0:Nx H s H {s with heap:=s.heap.push {cls:=.type "dict",data:=.dict #[]}}:=⟨⟨_,s.toks,rfl⟩,BE.ext hext⟩
 refine evalPairs_cons (wpAny_mkText ?_)
 have n0':Nx H s H {s with heap:=s.heap.push {cls:=.type "dict",data:=.dict #[]},toks:=s.toks+1}:=⟨⟨_,_,rfl⟩,BE.ext hext⟩
 refine PV.go (ha env H _ A _ he rm R0 (F.step n0'.2) k) λd0b H0a vc sb x1 R0a na qa=>?_
 refine wpAny_bind (wpAny_standAt (wpAny_pure (evalPairs_cons (wpAny_mkText ?_))))
 have R1':BP B H0a ({sb with toks:=sb.toks+1}:Shared).heap:=R0a
 have n1':Nx H s H0a {sb with toks:=sb.toks+1}:=(n0'.trans na).trans (Nx.tok _)
 refine PV.go (hb env H0a _ A _ he rm R1' (F.step n1'.2) qa) λd0a H0b vd se x2 R0b ng qb=>?_
 refine wpAny_bind (wpAny_standAt (wpAny_pure (evalPairs_nil ?_)))
 have hH:H s.heap.objs.size=none:=R.free
 have z1:=na.2.keep _ _ hsz hH
 have z2:=ng.2.keep _ _ z1.1 z1.2
 have nf:Nx H s H0b se:=n1'.trans ng
 refine⟨[(k0a,vc),(k0b,vd)],⟨strKind_is _ _ _ _,rfl,strKind_is _ _ _ _,rfl,trivial⟩,Heap.dictOf_iff.mpr ?_,λh' hm' hs'=>?_⟩
 ·refine BG (Heap.dictOf_iff.mp D0) λo ho hd=>?_
  obtain rfl:=Option.some.inj (hsz.symm.trans ho)
  exact⟨_,z2.1,hd⟩
 ·have hseq:Cd se.heap s.heap.objs.size:=λo ho xs m e=>by obtain rfl:=Option.some.inj (z2.1.symm.trans ho);cases e
  have hb0:B.h0a.get? s.heap.objs.size=none:=(By R Bq).2
  have R0c:BP B H0b h':=R0b.but z2.2 hb0 hseq hs'.extBut
  refine BG (Heap.dictOf_iff.mp hm') λo' ho' hd'=>?_
  have hseq':Cd h' s.heap.objs.size:=λo ho xs m e=>by
   obtain rfl:=Option.some.inj (ho'.symm.trans ho)
   refine CJ hd' λes ep _ q _=>?_
   rw[e] at q;cases q
  have hmerge:merged ([]:List (Str×Value)) [(k0a,vc),(k0b,vd)]=[(k0a,vc),(k0b,vd)]:=by
   simp[merged,stored,hne]
  rw[hmerge] at hm'
  have x1':=((x1.step (Nx.tok (s:=sb) (sb.toks+1)).2).step ng.2).but hseq hs'.extBut
  have x2':=x2.but hseq hs'.extBut
  have R0d:=R0c.take' (A:=.dict [(k0a,d0b),(k0b,d0a)]) z2.2 hb0 hseq' ⟨o',ho'⟩ ⟨_,hm',by simp,.cons (x1'.take' hseq') (.cons (x2'.take' hseq') .nil)⟩
  refine⟨.ref _,_,.ref _,R0d,⟨?_,⟨λa o e q=>?_⟩⟩,qb _ z2.2⟩
  ·obtain⟨⟨h2,t2,rfl⟩,-⟩:=nf;exact⟨h',_,rfl⟩
  ·have hne':a≠s.heap.objs.size:=Nat.ne_of_lt (Heap.lt_size e)
   have z:=nf.2.keep a o e q
   exact⟨hs'.extBut a o hne' z.1,(KH.set_ne _ _ hne').trans z.2⟩
theorem UM(j n:Nat)(hj:j<=n):Builtin.Slice.sliceAdjust none (some (j:Int)) 1 (n:Int)=(0,(j:Int)):=by
 unfold Builtin.Slice.sliceAdjust
 have h1:¬((1:Int)<0):=by exact Int.not_lt.mpr (AA [] [] [] (.L Ak Ah) rfl)
 have h2:¬((j:Int)<0):=by exact Int.not_lt.mpr (AA [] [_] [.L Ak Ac] (.L Ak Ac) rfl (Int.natCast_nonneg _))
 simp only[h1,h2,if_false]
 congr 1
 exact Int.le_antisymm (AA [_] [_] [.L Ac Ag] (.L Ac Ag) rfl (Int.min_le_left _ _)) ((Int.le_total _ _).elim (λmH=>AA [_] [_] [.R Ac Ag] (.L Ag Ac) rfl (Int.min_eq_left mH)) (λmH=>AA [_,_] [_] [.l Aa Ab,.R Ac Al] (.L Ag Ac) rfl hj (Int.min_eq_right mH)))
theorem MV{prog:Program}{w:World}{sl:Addr}{u:Tok}{Q:Int×Int×Nat->Shared->Prop}(hs:s.heap.IsSliceOf sl .none (.int j u) .none)(hj:j<=m)(h:Q (0,1,j) s) :
  wpAny (model prog w) A (Builtin.Slice.sliceApplied (.ref sl) (pure (m:Int))) Q E s:=by
 refine DO (id hs) λos hos hcs hds=>?_
 unfold Builtin.Slice.sliceApplied Builtin.Slice.sliceFields
 refine wpAny_bind (wpAny_bind (wpAny_field hos hds (x:=.none) rfl (wpAny_bind (wpAny_field hos hds (x:=.int j u) rfl (wpAny_bind (wpAny_field hos hds (x:=.none) rfl (wpAny_pure ?_)))))))
 refine wpAny_bind (slicePart_none ?_)
 show wpAny _ _ (if((1:Int)==0)=true then _ else _) _ _ s
 rw[if_neg (by decide)]
 refine wpAny_bind (slicePart_none (wpAny_bind (slicePart_int (wpAny_bind (wpAny_pure ?_)))))
 show wpAny _ _ (match Builtin.Slice.sliceAdjust none (some (j:Int)) 1 (m:Int) with|(lo,hi)=>pure (lo,(1:Int),Builtin.Slice.slicePlaces lo hi 1)) _ _ s
 rw[UM j m hj]
 show wpAny _ _ (pure ((0:Int),(1:Int),Builtin.Slice.slicePlaces ((0:Nat):Int) (j:Int) 1)) _ _ s
 rw[places_from 0 j (Nat.zero_le _)]
 exact wpAny_pure h
theorem Zi(xs:Array Value)(j:Nat)(hj:j<=xs.size):((List.range j).filterMap λ(k:Nat)=>xs[((0:Int)+(k:Int)*1).toNat]?).toArray=(xs.toList.take j).toArray:=by
 have e:(λ(k:Nat)=>xs[((0:Int)+(k:Int)*1).toNat]?)=λk=>xs[0+k]?:=by
  funext k
  have:((0:Int)+(k:Int)*1).toNat=0+k:=by rw[Int.mul_one,Int.zero_add,Int.toNat_natCast,Nat.zero_add]
  rw[this]
 rw[e]
 have:=pick_run xs 0 j
 rw[List.filterMap_map] at this
 have e2:((λx=>xs[x]?) ∘ λx=>0+x)=λk=>xs[0+k]?:=rfl
 rw[e2] at this
 rw[this,List.drop_zero]
theorem LW{prog:Program}{w:World}{sl:Addr}{items:Array Value}{u:Tok}(ht:IsTup s.heap t items)(hs:s.heap.IsSliceOf sl .none (.int j u) .none)(hj:j<items.size)
  (h:Q (.ref s.heap.objs.size) {s with heap:=s.heap.push {cls:=.type "tuple",data:=.seq (items.toList.take j).toArray}})
  (hsz:items.size<=sizeLine):wpAny (model prog w) A (getItem (.ref t) (.ref sl)) Q E s:=by
 have htake:sizeOk (.seq (items.toList.take j).toArray):=by
  show(items.toList.take j).toArray.size<=sizeLine
  rw[List.size_toArray,List.length_take,Array.length_toList]
  exact Nat.le_trans (Nat.min_le_right _ _) hsz
 refine DO (id hs) λos hos hcs hds=>?_
 have hTs:s.TypeIs (.ref sl) "slice":=⟨os,hos,hcs⟩
 unfold getItem
 try with_reducible refine wpAny_holding ?_
 first|refine wpAny_bind (wpAny_pure ?_)|skip
 refine wpAny_bind (wpAny_sequenceKey ht.typeIs (by decide) ?_)
 refine wpAny_bind (wpAny_callSpecial?_slot (name:=Str.ofString "__getitem__") ht.typeIs slot_tuple_getitem
  (wpAny_call_entry slot_tuple_getitem ht.typeIs entry_tuple_getitem ?_ (args_tuple_getitem _ _)))
 show wpAny _ _ (Builtin.Tuple.tupleItemsOf (.ref t)>>=_) _ _ s
 refine wpAny_bind (tupleItemsOf_ ht ?_)
 refine wpAny_bind (wpAny_typeOf hTs ?_)
 rw[if_pos (by decide)]
 refine wpAny_bind (MV hs (Nat.le_of_lt hj) ?_)
 have hno:¬(((0:Int)==0&&(1:Int)==1&&j==items.size)=true):=by
  have:(j==items.size)=false:=by rw[beq_eq_false_iff_ne];exact λmL=>AA [_,_] [] [.u Aa Ab,.r Aa Ab] .f rfl hj mL
  rw[this];simp
 show wpAny _ _ (if((0:Int)==0&&(1:Int)==1&&j==items.size)=true then _ else _) _ _ s
 rw[if_neg hno,Zi items j (Nat.le_of_lt hj)]
 first
  |exact wpAny_bind (m:=Builtin.Tuple.tupleExact _) (wpAny_newObj_type (wpAny_pure ⟨_,rfl,wpAny_pure h⟩) htake)
  |exact wpAny_bind (m:=Builtin.Tuple.tupleExact _) (wpAny_newObj_type (wpAny_bind (wpAny_pure (wpAny_pure ⟨_,rfl,wpAny_pure h⟩))) htake)
  |exact wpAny_bind (wpAny_bind (m:=Builtin.Tuple.tupleExact _) (wpAny_newObj_type (wpAny_pure (wpAny_pure ⟨_,rfl,wpAny_pure h⟩)) htake))
theorem KJ(R:BP B H h)(x:BN h H v d)(e:BC H d=some (false,ds)):∃a vs m,v= .ref a/\h.get? a=some (Cy vs m)/\vs.length<=sizeLine/\AR h H vs ds:=by
 cases x with
 |tup e' q' l r=>cases e;exact⟨_,_,_,rfl,e',l,r⟩
 |ref a=>simp only[BC] at e;split at e<;>cases e
 |_=>cases e
theorem L3{ws:List Value}{es:List D}(R:BP B H s.heap)(rs:AR s.heap H ws es)(l:ws.length<=sizeLine)(k:K (.tup es) H) :
  PV B H s K (.ref s.heap.objs.size) {s with heap:=s.heap.push (Cy ws 0)} :=
 ⟨.tup es,H,.tup (Heap.get?_push_size _ rfl) R.free l (rs.step (BE.ext (CE _))),R.ext (CE _),⟨⟨_,s.toks,rfl⟩,BE.ext (CE _)⟩,k⟩
theorem L4{l u:Value}(h:∀s',(∃h',s'={s with heap:=h'}/\∀a o,s.heap.get? a=some o->h'.get? a=some o)->s'.heap.IsSliceOf s.heap.objs.size l u .none->Q (.ref s.heap.objs.size) s') :
  wpAny (model B.prog B.w) A (newFields "slice" [l,u,.none]) Q E s :=
 wpAny_newObj_type (h {s with heap:=s.heap.push {cls:=.type "slice",data:=.fields #[l,u,.none]}} ⟨_,rfl,CE _⟩ (Heap.IsSliceOf.new ..))
theorem Pp(h:∃h',s'={s with heap:=h'}/\∀a o,s.heap.get? a=some o->h'.get? a=some o):Nx H s H s':=by
 refine BG h λh' mN hx=>?_;subst mN;exact⟨⟨h',s.toks,rfl⟩,BE.ext hx⟩
theorem TV(R:BP B H s.heap)(h:∃h',s'={s with heap:=h'}/\∀a o,s.heap.get? a=some o->h'.get? a=some o):BP B H s'.heap:=by
 refine BG h λh' mN hx=>?_;subst mN;exact R.ext hx
theorem Zj{fr:Bool}{p:Pos}(ha:B4 B n sc ρ (eval a) Wa)(hb:B4 B n sc ρ (eval b) Wb):B4 B n sc ρ (eval (.Subscript a (.Slice none (some b) none p) pos)) (λH K=>Wa H λd H=>Wb H λe H=>Pc fr d e H K):=by
 intro env H K A s he rm R F k
 show wpAny _ A (do let o ←eval a env;let i ←holding [o] (eval (.Slice none (some b) none p) env);standAt pos;let r ←subscripted (.Slice none (some b) none p) (←getitemInPython o) o i;letTemporaryGo a o r;pure r) _ _ _
 refine PV.go (ha env H _ A s he rm R F k) λd H0a v sb x R0a na k0a=>?_
 refine wpAny_bind (wpAny_holding ?_)
 show wpAny _ A (do let l ←valueOrNone none;let u ←holding [l] (eval b env);let st ←holding [l,u] (valueOrNone none);newFields "slice" [l,u,st]) _ _ _
 refine wpAny_bind (wpAny_pure (a:=Value.none) ?_)
 refine PV.go (wpAny_holding (hb env H0a _ A sb he rm R0a (F.step na.2) k0a)) λe H0b w se y R0b ng k0b=>?_
 refine wpAny_bind (wpAny_holding (wpAny_pure (a:=Value.none) ?_))
 refine L4 λsf hx hs=>?_
 have n3:=(na.trans ng).trans (Pp (H:=H0b) hx)
 have R0c:=TV R0b hx
 have x3:=(x.step ng.2).step (Pp (H:=H0b) hx).2
 refine wpAny_bind (wpAny_standAt (wpAny_bind ?_))
 cases k0b with
 |@list ds j q ee k0c =>
  subst ee
  revert hs;refine y.intE λt hs=>?_
  refine FA R0c x3 (.inl ⟨_,_,q⟩) ?_
  refine wpAny_bind ?_
  show wpAny _ A (operate [.ref se.heap.objs.size,v] (getItem v (.ref se.heap.objs.size))) _ _ _
  refine wpAny_operateT (wpAny_mono (JQ (a:=0) (b:=true) (lo:=none) (hi:=some j) R0c x3 q hs .none (.int _ t) (.inl rfl)) (λr si N=>?_) λ_ _ x=>x)
  refine wpAny_bind (wpAny_letTemporaryGo (wpAny_pure (PV.after n3 ?_)))
  unfold ND at k0c
  cases fr with
  |true=>exact N.frozen R0c k0c
  |false=>exact N.booked R0c k0c
 |@tup ds j q ee hj k0c =>
  subst ee
  revert hs;refine y.intE λt hs=>?_
  refine FA R0c x3 (.inl ⟨_,_,q⟩) ?_
  refine wpAny_bind ?_
  show wpAny _ A (operate [.ref se.heap.objs.size,v] (getItem v (.ref se.heap.objs.size))) _ _ _
  refine Cv (KJ R0c x3 q) λta vs m mN ho l rs=>?_;subst mN
  rw[←rs.length] at hj
  refine wpAny_operateT (s:=sf) (Q:=λr s'=>wpAny (model B.prog B.w) A (do letTemporaryGo a (.ref ta) r;pure r) (PV B H s K) B9 s') (LW (items:=vs.toArray) ⟨_,ho,rfl,m,rfl⟩ hs (by rw[List.size_toArray];exact hj) ?_ (by rw[List.size_toArray];exact l))
  refine wpAny_bind (wpAny_letTemporaryGo (wpAny_pure (PV.after n3 ?_)))
  exact L3 R0c (rs.take j) (Nat.le_trans (List.length_take_le _ _) (Nat.le_trans (Nat.le_of_lt hj) l)) k0c
theorem Zk{p:Pos}(ha:B4 B n sc ρ (eval a) Wa)(hb:B4 B n sc ρ (eval b) Wb):B4 B n sc ρ (eval (.Subscript a (.Slice (some b) none none p) pos)) (λH K=>Wa H λd H=>Wb H λe H=>Rj d e H K):=by
 intro env H K A s he rm R F k
 show wpAny _ A (do let o ←eval a env;let i ←holding [o] (eval (.Slice (some b) none none p) env);standAt pos;let r ←subscripted (.Slice (some b) none none p) (←getitemInPython o) o i;letTemporaryGo a o r;pure r) _ _ _
 refine PV.go (ha env H _ A s he rm R F k) λd H0a v sb x R0a na k0a=>?_
 refine wpAny_bind (wpAny_holding ?_)
 show wpAny _ A (do let l ←eval b env;let u ←holding [l] (valueOrNone none);let st ←holding [l,u] (valueOrNone none);newFields "slice" [l,u,st]) _ _ _
 refine PV.go (hb env H0a _ A sb he rm R0a (F.step na.2) k0a) λe H0b w se y R0b ng k0b=>?_
 refine wpAny_bind (wpAny_holding (wpAny_pure (a:=Value.none) ?_))
 refine wpAny_bind (wpAny_holding (wpAny_pure (a:=Value.none) ?_))
 refine L4 λsf hx hs=>?_
 have n3:=(na.trans ng).trans (Pp (H:=H0b) hx)
 have R0c:=TV R0b hx
 have x3:=(x.step ng.2).step (Pp (H:=H0b) hx).2
 refine wpAny_bind (wpAny_standAt (wpAny_bind ?_))
 cases k0b with
 |@list ds j q ee k0c =>
  subst ee
  revert hs;refine y.intE λt hs=>?_
  refine FA R0c x3 (.inl ⟨_,_,q⟩) ?_
  refine wpAny_bind ?_
  show wpAny _ A (operate [.ref se.heap.objs.size,v] (getItem v (.ref se.heap.objs.size))) _ _ _
  refine wpAny_operateT (wpAny_mono (JQ (a:=0) (b:=true) (lo:=some j) (hi:=none) R0c x3 q hs (.int _ t) .none (.inr rfl)) (λr si N=>?_) λ_ _ x=>x)
  exact wpAny_bind (wpAny_letTemporaryGo (wpAny_pure (PV.after n3 (N.frozen R0c k0c))))
 |@tup ds j q ee h1 hj k0c =>
  subst ee
  revert hs;refine y.intE λt hs=>?_
  refine FA R0c x3 (.inl ⟨_,_,q⟩) ?_
  refine wpAny_bind ?_
  show wpAny _ A (operate [.ref se.heap.objs.size,v] (getItem v (.ref se.heap.objs.size))) _ _ _
  refine Cv (KJ R0c x3 q) λta vs m mN ho l rs=>?_;subst mN
  rw[←rs.length] at hj
  refine wpAny_operateT (s:=sf) (Q:=λr s'=>wpAny (model B.prog B.w) A (do letTemporaryGo a (.ref ta) r;pure r) (PV B H s K) B9 s') (getItem_tuple_from (items:=vs.toArray) ⟨_,ho,rfl,m,rfl⟩ hs h1 (by rw[List.size_toArray];exact hj) ?_ (by rw[List.size_toArray];exact l))
  refine wpAny_bind (wpAny_letTemporaryGo (wpAny_pure (PV.after n3 ?_)))
  exact L3 R0c (rs.drop j) (by rw[List.length_drop];exact Nat.le_trans (Nat.sub_le _ _) l) k0c
end
theorem R9{K:Frag}{N:Addr}{mg:Str->Option Value}{n:Str}(X:K.In h)(G:h.Ns N mg)(e:nsIn K N n=some (some v)):mg n=some v:=by
 refine Cv G λo es ep ho hd _ hf=>?_
 unfold nsIn at e
 split at e
 ·rename_i c d es' n' sl q
  have:=X _ _ q
  obtain rfl:=Option.some.inj (ho.symm.trans this)
  cases hd
  split at e
  ·rename_i e' he
   cases e
   rw[←hf]
   unfold nsFind findBy
   rw[←Array.find?_toList,he]
   rfl
  ·split at e<;>cases e
 ·exact nS e
section
variable {B:Base} {H:KH} {A:Around} {s:Shared} {env:Env} {ρ:Bw}
theorem BP.inK(R:BP B H h):B.K.In h:=B.hK.keeps λb o e=>(R.base b o e).1
theorem BP.g(R:BP B H h):h.Ns mainGlobals B.mg:=B.hg.keeps λb o e=>(R.base b o e).1
theorem BP.inB(R:BP B H h):h.Ns builtinsNs B.mb:=B.hb.keeps λb o e=>(R.base b o e).1
theorem UN(R:BP B H s.heap)(F:BQ B env ρ H s.heap)(hx:env.kindOf x=some .globalImplicit)(hd:(x==("__debug__":Str))=false)(hv:nsIn B.K mainGlobals x=some (some v))(q:Q v s) :
  wpAny (model B.prog B.w) A (eval (.Name x pos) env) Q B9 s :=
 Name_function_global F.ok.kind hx (loadGlobal_global (mg:=B.mg) (by rw[F.ok.glob];exact R.g) (R9 R.inK R.g hv) q) hd
theorem Do(R:BP B H s.heap)(F:BQ B env ρ H s.heap)(hx:env.kindOf x=some .globalImplicit)(hd:(x==("__debug__":Str))=false)(hv:nsIn B.K mainGlobals x=some none)(hn:x≠"__name__")(hb:bootBuiltins x=some v)(q:Q v s) :
  wpAny (model B.prog B.w) A (eval (.Name x pos) env) Q B9 s :=
 Name_function_global F.ok.kind hx (loadGlobal_builtin (mg:=B.mg) (mb:=B.mb) (by rw[F.ok.glob];exact R.g) (ns_none_of R.inK R.g hv) (by rw[F.ok.blt];exact R.inB) ((B.bi x hn).trans hb) q) hd
end
noncomputable def Be:Expr->Bool
 |.Starred .. => false
 |_=>true
noncomputable def BH:List Expr->Bool
 |[]=>true
 |e::es=>Be e&&BH es
theorem CB(h:Be e=true)(env:Env):starEach (e::es) env=(false,eval e env)::starEach es env:=by
 cases e<;>first|rfl|cases h
theorem FB:∀{es:List Expr},BH es=true->(backTo pos (starEach es env)).any (·.1)=false
 |[],_=>rfl
 |e::es,h=>by
  refine Ea (Bool.and_eq_true_iff.mp h) λh1 h2=>?_
  rw[CB h1]
  exact FB h2
def LX(B:Base)(f:Value):Prop :=
 ∀(A:Around) (s:Shared) (pos:Pos) (first:List Value) (args:List (Bool×Sem Value)) (Q:Value->Shared->Prop),args.any (·.1)=false ->
  wpAny (model B.prog B.w) A (evalArgs f true args []) (λa sb=>B.K.In sb.heap/\wpAny (model B.prog B.w) A (call f (first++a.pos) a.kw) Q B9 sb) B9 s->wpAny (model B.prog B.w) A (callWith pos f first args []) Q B9 s
theorem Qq{f:Value}(hk:keepIn B.K f=true):LX B f :=
 λA s pos first args Q hp h=>callWith_of (P:=λh=>B.K.In h) (by rw[hp];rfl) (keeps_K hk) h
theorem BD{id:String}:LX B (.builtin id) :=
 λA s pos first args Q hp h=>callWith_builtin hp (wpAny_mono h (λa sb q=>q.2) λ_ _ x=>x)
theorem DT{T:String}:LX B (.type T) :=
 λA s pos first args Q hp h=>PyProof.Rows.callWith_type hp (wpAny_mono h (λa sb q=>q.2) λ_ _ x=>x)
section
variable {B:Base} {n:Nat} {sc:Scope} {ρ:Bw} {W Wa Wb Wc:W1} {Ws:KH->(List D->KH->Prop)->Prop} {a b c e:Expr} {es:List Expr} {pos:Pos}
theorem Ej{f:Value}{args:List (Bool×Sem Value)}{Q:Args->Shared->Prop}{M:Model}(hp:args.any (·.1)=false)
  (h:wpAny M A (spliced args) (λvs s'=>Q ⟨vs,[]⟩ s') E s):wpAny M A (evalArgs f true args []) Q E s:=by
 cases args with
 |nil =>
  unfold evalArgs
  show wpAny M A (spliced []>>=_) Q E s
  refine wpAny_bind (wpAny_mono h (λvs s' h'=>wpAny_bind (wpAny_pure ?_)) λ_ _ x=>x)
  refine wpAny_holding ?_
  exact wpAny_bind (wpAny_pure (wpAny_bind (wpAny_pure (wpAny_pure h'))))
 |cons p r =>
  obtain⟨b,x⟩:=p
  cases b with
  |true=>cases hp
  |false=>exact evalArgs_plain h
theorem DZ{f:Value}{first:List Value}{K:List D->KH->Prop}(C:LX B f)(hp:BH es=true)(h:LV B n sc ρ es Ws)
  (he:env.scope=sc) (rm:Rm n A) (R:BP B H s.heap) (F:BQ B env ρ H s.heap) (k:Ws H K)
  (hc:∀vs ds H0a sb,AR sb.heap H0a vs ds->BP B H0a sb.heap->Nx H s H0a sb->ds.length=es.length->K ds H0a->wpAny (model B.prog B.w) A (call f (first++vs)) Q B9 sb) :
  wpAny (model B.prog B.w) A (callWith pos f first (backTo pos (starEach es env)) []) Q B9 s:=by
 refine C A s pos first _ Q (FB hp) (Ej (FB hp) ?_)
 exact wpAny_mono (h env H K A s pos he rm R F k) (λvs sb ⟨ds,H0a,y,R0a,na,l₁,k0a⟩=>⟨R0a.inK,hc vs ds H0a sb y R0a na l₁ k0a⟩) λ_ _ x=>x
theorem dC{f:Str}(hf:f∈Gv):(f==("__debug__":Str))=false:=by
 have h:=List.all_eq_true.mp (show Gv.all (λf=>!(f==("__debug__":Str)))=true by decide +kernel) f hf
 cases e:f==("__debug__":Str) with
 |false=>rfl
 |true=>rw[e] at h;cases h
theorem Zl{f:Str}(hx:sc.names.lookup f=some .globalImplicit)(hf:f∈Gv)(hp:BH es=true)(h:LV B n sc ρ es Ws) :
  B4 B n sc ρ (eval (.Call (.Name f np) es [] pos)) (λH K=>Ws H λds H=>AH B n f ds H K):=by
 intro env H K A s he rm R F k
 refine BG (B.fns f hf) λa e1 e2=>?_
 have hk:env.kindOf f=some .globalImplicit:=by subst he;exact hx
 show wpAny _ A (do let fv ←eval (.Name f np) env;callWith pos fv [] (backTo pos (starEach es env)) []) _ _ _
 refine wpAny_bind (UN R F hk (dC hf) e1 ?_)
 refine DZ (Qq e2) hp h he rm R F k λvs ds H0a sb y R0a na l₁ k0a=>?_
 exact PV.then na (k0a a e1 A sb vs rm R0a y)
theorem UO{Kb:List D->KH->(D->KH->Prop)->Prop}(hx:sc.names.lookup x=some .globalImplicit)(hd:(x==("__debug__":Str))=false)(hn:x≠"__name__")(hb:bootBuiltins x=some v)(hm:x∈C6)(C:LX B v)(hp:BH es=true)
  (h:LV B n sc ρ es Ws) (hc:∀(A:Around) (s:Shared) (vs:List Value) (ds:List D) (H:KH) (K:D->KH->Prop),Rm n A->BP B H s.heap->AR s.heap H vs ds->Kb ds H K->wpAny (model B.prog B.w) A (call v vs) (PV B H s K) B9 s) :
  B4 B n sc ρ (eval (.Call (.Name x np) es [] pos)) (λH K=>Ws H λds H=>Kb ds H K):=by
 intro env H K A s he rm R F k
 have hk:env.kindOf x=some .globalImplicit:=by subst he;exact hx
 show wpAny _ A (do let fv ←eval (.Name x np) env;callWith pos fv [] (backTo pos (starEach es env)) []) _ _ _
 refine wpAny_bind (Do R F hk hd (B.nb _ hm) hn hb ?_)
 refine DZ C hp h he rm R F k λvs ds H0a sb y R0a na l₁ k0a=>?_
 exact PV.then na (hc A sb vs ds H0a K rm R0a y k0a)
noncomputable def Jk:Bi->Str×Value
 |.len=>("len",.builtin "len")
 |.tuple=>("tuple",.type "tuple")
 |.max2=>("max",.builtin "max")
 |.maxT=>("max",.builtin "max")
 |.min2=>("min",.builtin "min")
 |.sumT=>("sum",.builtin "sum")
 |.abs=>("abs",.builtin "abs")
 |.sorted=>("sorted",.builtin "sorted")
 |.sortedP=>("sorted",.builtin "sorted")
theorem Vq:bootBuiltins "len"=some (.builtin "len"):=by kernel_rfl
theorem SA:bootBuiltins "tuple"=some (.type "tuple"):=by kernel_rfl
theorem Vr:bootBuiltins "max"=some (.builtin "max"):=by kernel_rfl
theorem Vs:bootBuiltins "min"=some (.builtin "min"):=by kernel_rfl
theorem Vt:bootBuiltins "sum"=some (.builtin "sum"):=by kernel_rfl
theorem Vu:bootBuiltins "abs"=some (.builtin "abs"):=by kernel_rfl
theorem Qr:bootBuiltins "sorted"=some (.builtin "sorted"):=by kernel_rfl
theorem NI:bootBuiltins "range"=some (.type "range"):=by kernel_rfl
theorem UP:bootBuiltins "list"=some (.type "list"):=by kernel_rfl
theorem NJ:bootBuiltins "enumerate"=some (.type "enumerate"):=by kernel_rfl
theorem Vv:bootBuiltins "zip"=some (.type "zip"):=by kernel_rfl
theorem SB:bootBuiltins "super"=some (.type "super"):=by kernel_rfl
theorem Zm(b:Bi):bootBuiltins (Jk b).1=some (Jk b).2:=by
 cases b<;>first|exact Vq|exact SA|exact Vr|exact Vs|exact Vt|exact Vu|exact Qr
theorem gf(b:Bi):((Jk b).1==("__debug__":Str))=false:=by cases b<;>rfl
theorem gg(b:Bi):(Jk b).1≠"__name__":=by
 have h:((Jk b).1==("__name__":Str))=false:=by cases b<;>rfl
 exact λe=>by rw[e] at h;cases h
theorem gh(b:Bi):(Jk b).1∈C6:=by cases b<;>simp[Jk,C6]
theorem UQ(b:Bi):LX B (Jk b).2:=match b with
 |.len=>BD (id:="len")
 |.tuple=>DT (T:="tuple")
 |.max2=>BD (id:="max")
 |.maxT=>BD (id:="max")
 |.min2=>BD (id:="min")
 |.sumT=>BD (id:="sum")
 |.abs=>BD (id:="abs")
 |.sorted=>BD (id:="sorted")
 |.sortedP=>BD (id:="sorted")
theorem Jl{K:D->Prop}(x:AR s.heap H vs ds)(h:one ds K):∃v d,vs=[v]/\BN s.heap H v d/\K d:=by
 match ds,h with
 |[d],h=>refine BG x.one λv e a=>?_;exact⟨v,d,e,a,h⟩
theorem Vw{P:Int->Int->Prop}(x:AR s.heap H vs ds)(h:two ds λa b=>DC a λi=>DC b λj=>P i j):∃i j t u,vs=[.int i t,.int j u]/\P i j:=by
 match ds,h with
 |[a,b],h =>
  refine CJ x.two λv w e p q=>?_
  refine BG (Gw h) λi e1 h1=>?_
  refine BG (Gw h1) λj e2 h2=>?_
  subst e1 e2
  refine Ex (Gx p) λt mN=>?_;subst mN
  refine Ex (Gx q) λu mN=>?_;subst mN
  exact⟨i,j,t,u,e,h2⟩
theorem TX{K:List D->Prop}(h:ct d K):∃i,d= .lst i/\K i:=by
 cases d<;>first|exact h.elim|exact⟨_,rfl,h⟩
theorem gk(b:Bi)(rm:Rm n A)(R:BP B H s.heap)(x:AR s.heap H vs ds)(k:iV b ds H K):wpAny (model B.prog B.w) A (call (Jk b).2 vs) (PV B H s K) B9 s:=by
 cases b with
 |len=>refine CJ (Jl x k) λv d mN a k1=>?_;subst mN;exact ck R a k1
 |tuple=>refine CJ (Jl x k) λv d mN a k1=>?_;subst mN;exact Vj R a k1
 |max2=>refine M6 (Vw x k) λi j t u mN k1=>?_;subst mN;exact ZS rm R k1
 |min2=>refine M6 (Vw x k) λi j t u mN k1=>?_;subst mN;exact ZT rm R k1
 |abs=>refine CJ (Jl x k) λv d mN a k1=>?_;subst mN;refine BG (Gw k1) λi mN k2=>?_;subst mN;refine Ex (Gx a) λt mN=>?_;subst mN;exact co R k2
 |maxT=>refine CJ (Jl x k) λv d mN a k1=>?_;subst mN;obtain⟨_,rfl,ns,rfl,hne,k2⟩:=Pi k1;exact ZU rm R a hne k2
 |sumT=>refine CJ (Jl x k) λv d mN a k1=>?_;subst mN;obtain⟨_,rfl,ns,rfl,k2⟩:=Pi k1;exact ZV rm R a k2
 |sorted=>refine CJ (Jl x k) λv d mN a k1=>?_;subst mN;obtain⟨_,rfl,ns,rfl,hl,k2⟩:=TX k1;exact UG R a hl k2
 |sortedP=>refine CJ (Jl x k) λv d mN a k1=>?_;subst mN;obtain⟨_,rfl,ps,rfl,hl,k2⟩:=TX k1;exact R5 rm R a hl k2
theorem dD(b:Bi)(hx:sc.names.lookup (Jk b).1=some .globalImplicit)(hp:BH es=true)(h:LV B n sc ρ es Ws) :
  B4 B n sc ρ (eval (.Call (.Name (Jk b).1 np) es [] pos)) (λH K=>Ws H λds H=>iV b ds H K) :=
 UO (x:=(Jk b).1) (v:=(Jk b).2) (Kb:=iV b) hx (gf b) (gg b) (Zm b) (gh b) (UQ b) hp h λA s vs ds H K rm R x k=>gk b rm R x k
theorem Cn{o:Expr}(hs:DL o=true)(hl:(apos.endLine==pos.line)=true)(hp:BH es=true)(hz:es.length<30)
  (h:wpAny (model B.prog B.w) A (eval o env) (λov sb=>∀pl,wpAny (model B.prog B.w) A (getMethod ov name pl) (λfx se=>wpAny (model B.prog B.w) A (callWith pos fx.1 fx.2 (backTo pos (starEach es env)) []) Q B9 se) B9 sb) B9 s) :
  wpAny (model B.prog B.w) A (eval (.Call (.Attribute o name apos) es [] pos) env) Q B9 s:=by
 show wpAny _ A (do let ov ←attributeBase o name env (eval o env);standAt apos.atName;methodCall o name apos pos env ov (es.length+0) (backTo pos (starEach es env)) []) _ _ _
 rw[NH hs]
 refine wpAny_bind (wpAny_mono h (λov sb h0b=>wpAny_bind (wpAny_standAt ?_)) λ_ _ x=>x)
 have hall:∀{es:List Expr},BH es=true->(backTo pos (starEach es env)).all (!·.1)=true:=by
  intro es
  induction es with
  |nil=>intro _;rfl
  |cons e es ih=>intro h;refine Ea (Bool.and_eq_true_iff.mp h) λh1 h2=>?_;rw[CB h1];exact ih h2
 have hform:methodCallForm (es.length+0) (backTo pos (starEach es env)) []=true:=by
  unfold methodCallForm
  rw[hall hp]
  simp;exact AA [_] [] [.u Aa (.n 30)] (.u Aa (.n 30)) rfl hz
 unfold methodCall
 rw[hform]
 refine wpAny_bind (wpAny_holding ?_)
 show wpAny _ A (getMethod ov name _) _ _ _
 refine wpAny_mono (h0b _) (λfx se h0c=>?_) λ_ _ x=>x
 unfold methodCallPos
 rw[hl]
 exact wpAny_bind (wpAny_pure h0c)
theorem Zn(hs:DL a=true)(hl:(apos.endLine==pos.line)=true)(hp:BH es=true)(hz:es.length<30)(ha:B4 B n sc ρ (eval a) Wa)(h:LV B n sc ρ es Ws) :
  B4 B n sc ρ (eval (.Call (.Attribute a name apos) es [] pos)) (λH K=>Wa H λd H=>iH B name d H λC=>Ws H λds H=>AJ B n C name (d::ds) H K):=by
 intro env H K A s he rm R F k
 refine Cn hs hl hp hz (PV.mo (ha env H _ A s he rm R F k) λv sb d H0a x R0a na k0a pl=>?_)
 obtain⟨ed,e1,e2,e3,⟨f,hf,hk⟩,k0a⟩:=k0a
 rename_i x' C dx mP
 refine ZR (k':=λf' d'=>f'=f/\d'= .ref x') R0a x (.mk ed e1 e2 e3 hf ⟨rfl,rfl⟩) ?_
 ·rintro f' d' ⟨rfl,rfl⟩ x2 -
  refine DZ (Qq hk) hp h he rm R0a (F.step na.2) k0a λvs ds H0b se y R0b ng l₂ k0b=>?_
  exact PV.then (na.trans ng) (k0b f' hf A se (v::vs) rm R0b (.cons (x.step ng.2) y))
end
section
variable {B:Base} {n:Nat} {sc:Scope} {ρ:Bw} {W Wa Wb Wc:W1} {Ws:KH->(List D->KH->Prop)->Prop} {a b c e:Expr} {es:List Expr} {pos:Pos}
inductive PR(B:Base)(H:KH)(s:Shared)(K:Int->Int->KH->Prop)(v:Value)(s':Shared):Prop
 |mk (i j:Int) (r:Addr) (t u z:Tok) (H':KH) (e:v= .ref r) (g:IsRange s'.heap r i j 1 t u z) (R:BP B H' s'.heap) (n:Nx H s H' s') (k:K i j H')
theorem PR.mo{K:Int->Int->KH->Prop}{t:Sem Value}(h:wpAny (model B.prog B.w) A t (PR B H s K) B9 s0)
  (k:∀v sb i j r t u z H0a,v= .ref r->IsRange sb.heap r i j 1 t u z->BP B H0a sb.heap->Nx H s H0a sb->K i j H0a->Q v sb):wpAny (model B.prog B.w) A t Q E s0:=wpAny_mono h (λv sb p=>PR.casesOn (motive:=λ_=>Q v sb) p (k v sb)) λ_ _ x=>x.elim
noncomputable def MW:List D->D
 |d::_=>d
 |[]=>.none
noncomputable def Zo:List D->D
 |_::d::_=>d
 |_=>.none
theorem UR(h:ds.length=1):∃d,ds=[d]:=by
 match ds,h with|[d],_=>exact⟨d,rfl⟩
theorem gm{K:Int->Int->KH->Prop}(hx:sc.names.lookup ("range":Str)=some .globalImplicit)(hp:Be a=true)(ha:B4 B n sc ρ (eval a) Wa)(he:env.scope=sc)(rm:Rm n A)(R:BP B H s.heap)(F:BQ B env ρ H s.heap)
  (k:Wa H λd H=>match d with| .int j=>K 0 j H|_=>False):wpAny (model B.prog B.w) A (eval (.Call (.Name ("range":Str) np) [a] [] pos) env) (PR B H s λi j H=>i=0/\K i j H) B9 s:=by
 have hk:env.kindOf ("range":Str)=some .globalImplicit:=by subst he;exact hx
 show wpAny _ A (do let fv ←eval (.Name "range" np) env;callWith pos fv [] (backTo pos (starEach [a] env)) []) _ _ _
 have hpl:BH [a]=true:=by unfold BH;rw[hp];rfl
 refine wpAny_bind (Do R F hk rfl (B.nb _ (by simp[C6])) (by decide) NI ?_)
 refine DZ DT hpl (Cz (λenv=>CB hp env) ha Eh) he rm R F (K:=λds H=>match MW ds with| .int j=>K 0 j H|_=>False) k ?_
 intro vs ds H0a sb y R0a na l₁ k0a
 refine Ex (UR l₁) λd mN=>?_;subst mN
 dsimp only[MW] at k0a
 split at k0a<;>try exact k0a.elim
 rename_i j
 refine BG y.one λv mN q=>?_;subst mN
 refine q.intE λ_=>?_
 exact UB λr h' tk t u z hx hr=>⟨_,_,r,t,u,z,H0a,rfl,hr,R0a.ext hx,na.trans ⟨⟨h',tk,rfl⟩,BE.ext hx⟩,rfl,k0a⟩
theorem Vx{K:Int->Int->KH->Prop}(hx:sc.names.lookup ("range":Str)=some .globalImplicit)(hp:Be a=true)(hp':Be b=true)(ha:B4 B n sc ρ (eval a) Wa)(hb:B4 B n sc ρ (eval b) Wb)(he:env.scope=sc)(rm:Rm n A)(R:BP B H s.heap)(F:BQ B env ρ H s.heap)
  (k:Wa H λd H=>Wb H λe H=>match d,e with| .int i,.int j=>K i j H|_,_=>False):wpAny (model B.prog B.w) A (eval (.Call (.Name ("range":Str) np) [a,b] [] pos) env) (PR B H s K) B9 s:=by
 have hk:env.kindOf ("range":Str)=some .globalImplicit:=by subst he;exact hx
 show wpAny _ A (do let fv ←eval (.Name "range" np) env;callWith pos fv [] (backTo pos (starEach [a,b] env)) []) _ _ _
 have hpl:BH [a,b]=true:=by unfold BH BH;rw[hp,hp'];rfl
 refine wpAny_bind (Do R F hk rfl (B.nb _ (by simp[C6])) (by decide) NI ?_)
 refine DZ DT hpl (Cz (λenv=>CB hp env) ha (Cz (λenv=>CB hp' env) hb Eh)) he rm R F (K:=λds H=>match MW ds,Zo ds with| .int i,.int j=>K i j H|_,_=>False) k ?_
 intro vs ds H0a sb y R0a na l₁ k0a
 refine OI (cr l₁) λd e mN=>?_;subst mN
 dsimp only[MW,Zo] at k0a
 split at k0a<;>try exact k0a.elim
 rename_i i j
 refine CJ y.two λv w mN q q'=>?_;subst mN
 refine q.intE λ_=>?_;refine q'.intE λ_=>?_
 exact UC λr h' tk t u z hx hr=>⟨_,_,r,t,u,z,H0a,rfl,hr,R0a.ext hx,na.trans ⟨⟨h',tk,rfl⟩,BE.ext hx⟩,k0a⟩
theorem Pq{np':Pos}{p':Pos}(hl:sc.names.lookup ("list":Str)=some .globalImplicit)(hx:sc.names.lookup ("range":Str)=some .globalImplicit)(hp:Be a=true)(hp':Be b=true)(ha:B4 B n sc ρ (eval a) Wa)(hb:B4 B n sc ρ (eval b) Wb) :
  B4 B n sc ρ (eval (.Call (.Name ("list":Str) np) [.Call (.Name ("range":Str) np') [a,b] [] p'] [] pos)) (λH K=>Wa H λd H=>Wb H λe H=>match d,e with
  |.int i,.int j=>BA i/\BA j/\K (.lst (Internal.upto i j)) H
  |_,_=>False):=by
 intro env H K A s he rm R F k
 have hk:env.kindOf ("list":Str)=some .globalImplicit:=by subst he;exact hl
 show wpAny _ A (do let fv ←eval (.Name "list" np) env;callWith pos fv [] (backTo pos (starEach [.Call (.Name "range" np') [a,b] [] p'] env)) []) _ _ _
 refine wpAny_bind (Do R F hk rfl (B.nb _ (by simp[C6])) (by decide) UP ?_)
 refine DT A s pos [] _ _ rfl (Ej rfl ?_)
 refine spliced_more (PR.mo (Vx (K:=λi j H=>BA i/\BA j/\K (.lst (Internal.upto i j)) H) hx hp hp' ha hb he rm R F k) λv sb i j r t u z H0a e1 hr R0a na k0a=>?_) rfl
 subst e1
 refine spliced_none ⟨R0a.inK,?_⟩
 show wpAny _ A (call (.type "list") [.ref r]) _ _ _
 exact wpAny_mono (OL rm hr k0a.1 k0a.2.1) (λw se N=>PV.after na (N.frozen R0a k0a.2.2)) λ_ _ x=>x
theorem DD{id:String}{pl:Sem Bool}{Q:Value×List Value->Shared->Prop}(slot:Slot "list" name id)(hty:typeOf (.builtin id)=pure (.type "method_descriptor"))(R:BP B H s.heap)(x:BN s.heap H v d)(q:BC H d=some (true,ds))
  (h:Q (.builtin id,[v]) s):wpAny (model B.prog B.w) A (getMethod v name pl) Q B9 s:=by
 refine Cv (E9 R x q) λa vs n mN ho _ _=>?_;subst mN
 exact getMethod_list_of (items:=vs.toArray) slot hty ⟨_,ho,rfl,n,rfl⟩ ⟨_,ho,rfl⟩ h
theorem US(hs:DL a=true)(hl:(apos.endLine==pos.line)=true)(hp:Be b=true)(ha:B4 B n sc ρ (eval a) Wa)(hb:B4 B n sc ρ (eval b) Wb) :
  B4 B n sc ρ (eval (.Call (.Attribute a "append" apos) [b] [] pos)) (λH K=>Wa H λd H=>match d with
  |.ref l=>(∃es,H l=some (.list es))/\Wb H λe H=>JL l e H K
  |_=>False):=by
 intro env H K A s he rm R F k
 have hpl:BH [b]=true:=by unfold BH;rw[hp];rfl
 refine Cn hs hl hpl (by simp) (PV.mo (ha env H _ A s he rm R F k) λv sb d H0a x R0a na k0a pl=>?_)
 split at k0a<;>try exact k0a.elim
 rename_i l
 obtain⟨⟨es,e1⟩,k0a⟩:=k0a
 refine x.refE ?_
 refine DD PySem.F.slot_list_append PySem.F.type_list_append R0a (.ref l) (ds:=es) (by simp[BC,e1]) ?_
 refine DZ BD hpl (Cz (λenv=>CB hp env) hb Eh) he rm R0a (F.step na.2) (K:=λds H=>JL l (MW ds) H K) k0a ?_
 intro vs ds H0b se y R0b ng l₂ k0b
 refine Ex (UR l₂) λd mN=>?_;subst mN
 refine BG y.one λw mN q=>?_;subst mN
 exact PV.then (na.trans ng) (LT R0b q k0b)
theorem UT(hs:DL a=true)(hl:(apos.endLine==pos.line)=true)(hp:Be b=true)(ha:B4 B n sc ρ (eval a) Wa)(hb:B4 B n sc ρ (eval b) Wb) :
  B4 B n sc ρ (eval (.Call (.Attribute a "extend" apos) [b] [] pos)) (λH K=>Wa H λd H=>match d with
  |.ref l=>(∃es,H l=some (.list es))/\Wb H λe H=>LM l e H K
  |_=>False):=by
 intro env H K A s he rm R F k
 have hpl:BH [b]=true:=by unfold BH;rw[hp];rfl
 refine Cn hs hl hpl (by simp) (PV.mo (ha env H _ A s he rm R F k) λv sb d H0a x R0a na k0a pl=>?_)
 split at k0a<;>try exact k0a.elim
 rename_i l
 obtain⟨⟨es,e1⟩,k0a⟩:=k0a
 refine x.refE ?_
 refine DD PySem.F.slot_list_extend PySem.F.type_list_extend R0a (.ref l) (ds:=es) (by simp[BC,e1]) ?_
 refine DZ BD hpl (Cz (λenv=>CB hp env) hb Eh) he rm R0a (F.step na.2) (K:=λds H=>LM l (MW ds) H K) k0a ?_
 intro vs ds H0b se y R0b ng l₂ k0b
 refine Ex (UR l₂) λd mN=>?_;subst mN
 refine BG y.one λw mN q=>?_;subst mN
 exact PV.then (na.trans ng) (UD R0b q k0b)
theorem NK{p':Pos}(hx:sc.names.lookup ("range":Str)=some .globalImplicit)(hs:DL a=true)(hl:(apos.endLine==pos.line)=true)(hp:Be b=true)(hp':Be c=true)(ha:B4 B n sc ρ (eval a) Wa)(hb:B4 B n sc ρ (eval b) Wb)(hc:B4 B n sc ρ (eval c) Wc) :
  B4 B n sc ρ (eval (.Call (.Attribute a "extend" apos) [.Call (.Name ("range":Str) np) [b,c] [] p'] [] pos)) (λH K=>Wa H λd H=>match d with
  |.ref l=>(∃es,H l=some (.list es))/\Wb H λd H=>Wc H λe H=>match d,e with
   |.int i,.int j=>Di l i j H K
   |_,_=>False
  |_=>False):=by
 intro env H K A s he rm R F k
 refine Cn hs hl rfl (by simp) (PV.mo (ha env H _ A s he rm R F k) λv sb d H0a x R0a na k0a pl=>?_)
 split at k0a<;>try exact k0a.elim
 rename_i l
 obtain⟨⟨es,e1⟩,k0a⟩:=k0a
 refine x.refE ?_
 refine DD PySem.F.slot_list_extend PySem.F.type_list_extend R0a (.ref l) (ds:=es) (by simp[BC,e1]) ?_
 refine BD A sb pos [.ref l] _ _ rfl (Ej rfl ?_)
 refine spliced_more (PR.mo (Vx (K:=λi j H=>Di l i j H K) hx hp hp' hb hc he rm R0a (F.step na.2) k0a) λv se i j r t u z H0b e2 hr R0b ng k0b=>?_) rfl
 subst e2
 refine spliced_none ⟨R0b.inK,?_⟩
 show wpAny _ A (call (.builtin "list.extend") [.ref l,.ref r]) _ _ _
 exact PV.then (na.trans ng) (MU rm R0b hr k0b)
theorem dE(hs:DL a=true)(hl:(apos.endLine==pos.line)=true)(ha:B4 B n sc ρ (eval a) Wa) :
  B4 B n sc ρ (eval (.Call (.Attribute a "pop" apos) [] [] pos)) (λH K=>Wa H λd H=>match d with
  |.ref l=>XS l H K
  |_=>False):=by
 intro env H K A s he rm R F k
 refine Cn hs hl rfl (by simp) (PV.mo (ha env H _ A s he rm R F k) λv sb d H0a x R0a na k0a pl=>?_)
 split at k0a<;>try exact k0a.elim
 rename_i l
 refine x.refE ?_
 obtain @⟨es,_,e1,hd,k0a⟩:=k0a
 refine DD PySem.F.slot_list_pop PySem.F.type_list_pop R0a (.ref l) (ds:=es) (by simp[BC,e1]) ?_
 refine callWith_method0 ?_
 exact PV.then na (cm R0a ⟨e1,hd,k0a⟩)
end
section
variable {prog:Program} {w:World} {A:Around} {E:Value->Shared->Prop} {s:Shared}
theorem Oz{vs:Array Value}{i:Int}{t:Tok}{idx:Nat}{Q:Option PySem.Fin×Unit->Shared->Prop}(hx:∃t,vs[idx]? = some (.int i t))(hn:∀p,p<idx->∃j t,vs[p]? = some (.int j t)/\(j==i)=false)
  (q:∀tk tk',Q (some (.done (.ret (.int idx tk))),()) {s with toks:=tk'}):∀(k j:Nat),j<=idx->idx<j+k ->
  wpAny (model prog w) A (forIn (List.range' j k 1) ((none:Option PySem.Fin),()) λ(i':Nat) __s=>match vs[i']? with
        |some y=>do
         if(←eqBool y (.int i t))=true then do
           let r ←retInt (i':Int)
           pure (ForInStep.done (some r,()))
          else pure (ForInStep.yield (none,()))
        |x=>pure (ForInStep.yield (none,()))) Q E s
 |0,j,h1,h2=>by exact(AA [_,_] [] [.u Ab (.p Aa Am),.l Aa Ab] .f rfl h2 h1).elim
 |k+1,j,h1,h2=>by
  rw[List.range'_succ,List.forIn_cons]
  by_cases hj:j=idx
  ·subst hj
   refine Ex hx λt' hx=>?_
   rw[hx]
   refine wpAny_bind (wpAny_bind (wpAny_eqBool_int ?_))
   rw[beq_self_eq_true,if_pos rfl]
   exact wpAny_bind (wpAny_bind (wpAny_mkInt (wpAny_pure (wpAny_pure (wpAny_pure (q _ _))))))
  ·refine M5 (hn j (by exact(Nat.lt_or_gt_of_ne hj).elim (λmH=>AA [_,_] [] [.u Aa Ab] (.u Aa Ab) rfl mH) (λmH=>(AA [_,_] [] [.u Ab Aa,.l Aa Ab] .f rfl mH h1).elim))) λj' t' e1 e2=>?_
   rw[e1]
   refine wpAny_bind (wpAny_bind (wpAny_eqBool_int ?_))
   rw[e2,if_neg Bool.false_ne_true]
   exact wpAny_pure (Oz hx hn q k (j+1) (by exact(Nat.lt_or_gt_of_ne hj).elim (λmH=>AA [_,_] [] [.u Aa Ab] (.l (.p Aa Ae) Ab) rfl mH) (λmH=>(AA [_,_] [] [.u Ab Aa,.l Aa Ab] .f rfl mH h1).elim)) (by exact AA [_,_,_] [] [.u Aa (.p Ab (.p Af Ae))] (.u Aa (.p (.p Ab Ae) Af)) rfl h2))
theorem UU{i:Int}{t:Tok}{idx:Nat}(ho:s.heap.get? a=some (Cy vs m))(hx:∃t,vs[idx]? = some (.int i t))(hn:∀p,p<idx->∃j t,vs[p]? = some (.int j t)/\(j==i)=false)
  (q:∀tk tk',Q (.int idx tk) {s with toks:=tk'}):wpAny (model prog w) A (Builtin.«tuple.index» ⟨[.ref a,.int i t],[]⟩) (λC5 s'=>∃r,C5= .done (.ret r)/\Q r s') E s:=by
 unfold Builtin.«tuple.index»
 refine wpAny_bind (wpAny_pure (a:=(Value.ref a,[Value.int i t])) ?_)
 refine wpAny_bind (tupleItemsOf_ (items:=vs.toArray) ⟨_,ho,rfl,m,rfl⟩ ?_)
 refine wpAny_bind (wpAny_pure (a:=0) ?_)
 refine wpAny_bind (wpAny_pure (a:=vs.toArray.size) ?_)
 refine wpAny_bind ?_
 rw[Std.Legacy.Range.forIn_eq_forIn_range']
 have hlt:idx<vs.length:=by refine Ex hx λt e=>?_;exact(List.getElem?_eq_some_iff.mp e).1
 have hsz:Std.Legacy.Range.size [0:min vs.toArray.size vs.toArray.size]=vs.length:=by
  simp[Std.Legacy.Range.size]
 rw[hsz]
 refine Oz (by simpa using hx) (by simpa using hn) (λtk tk'=>?_) vs.length 0 (Nat.zero_le _) (by exact AA [_,_] [] [.u Aa Ab] (.u Aa (.p Am Ab)) rfl hlt)
 exact wpAny_pure ⟨_,rfl,q _ _⟩
end
section
variable {B:Base} {n:Nat} {sc:Scope} {ρ:Bw} {W Wa Wb Wc:W1} {Ws:KH->(List D->KH->Prop)->Prop} {a b c e:Expr} {es:List Expr} {pos:Pos}
theorem Vy{b b':Bool}{ds':List D}(q:BC H d=some (b,ds))(q':BC H' d=some (b',ds')):b'=b:=by
 cases d with
 |tup _=>cases q;cases q';rfl
 |lst _=>cases q;cases q';rfl
 |ref a =>
  simp only[BC] at q q'
  split at q<;>split at q'<;>simp_all
 |_=>cases q
theorem Pr{i:Int}{t:Tok}(R:BP B H s.heap)(hv:BN s.heap H v d)(q:BC H d=some (false,AC ns))(hm:i∈ns)(k:K (.int (ns.idxOf i:Nat)) H):wpAny (model B.prog B.w) A (call (.builtin "tuple.index") [v,.int i t]) (PV B H s K) B9 s:=by
 refine Cv (KJ R hv q) λa vs n mN ho l rs=>?_;subst mN
 have hj:ns.idxOf i<ns.length:=List.idxOf_lt_length_iff.mpr hm
 refine wpAny_call_entry (T:="tuple") (name:="index") PySem.F.slot_tuple_index ⟨_,ho,rfl⟩ PySem.F.entry_tuple_index ?_ (PySem.F.args_tuple_index_2 _ _)
 have at_:∀p,p<ns.length->∃t,vs[p]? = some (.int (ns.getD p 0) t):=λp hp=>by
  refine BG (rs.get (k:=p) (d:=.int (ns.getD p 0)) (by simp[AC,hp,List.getD])) λv' e1 e2=>?_
  cases e2;exact⟨_,e1⟩
 refine UU ho ?_ (λp hp=>?_) λtk tk'=>PV.int R rfl (λ_ _ e=>e) k
 ·refine Ex (at_ (ns.idxOf i) hj) λt e=>?_
  rw[GK _ _ hj,List.getElem_idxOf] at e
  exact⟨t,e⟩
 ·refine Ex (at_ p (by exact AA [_,_,_] [] [.u Aa Af,.u Af Ab] (.u Aa Ab) rfl hp hj)) λt e=>?_
  refine⟨_,t,e,?_⟩
  rw[GK _ _ (by exact AA [_,_,_] [] [.u Aa Af,.u Af Ab] (.u Aa Ab) rfl hp hj)]
  exact Ji p hp
theorem Qs{K:D->KH->Prop}{e:D}(k:match BC H d,e with
   |some (_,ds),.int i=>∃ns,ds=AC ns/\i∈ns/\K (.int (ns.idxOf i:Nat)) H
   |_,_=>False):∃b i ns,BC H d=some (b,AC ns)/\e= .int i/\i∈ns/\K (.int (ns.idxOf i:Nat)) H:=by
 split at k
 ·rename_i q
  obtain⟨ns,rfl,hm,k⟩:=k
  exact⟨_,_,ns,q,rfl,hm,k⟩
 ·exact k.elim
theorem Vz(hs:DL a=true)(hl:(apos.endLine==pos.line)=true)(hp:Be b=true)(ha:B4 B n sc ρ (eval a) Wa)(hb:B4 B n sc ρ (eval b) Wb) :
  B4 B n sc ρ (eval (.Call (.Attribute a "index" apos) [b] [] pos)) (λH K=>Wa H λd H=>(∃b ds,BC H d=some (b,ds))/\Wb H λe H=>match BC H d,e with
  |some (_,ds),.int i=>∃ns,ds=AC ns/\i∈ns/\K (.int (ns.idxOf i:Nat)) H
  |_,_=>False):=by
 intro env H K A s he rm R F k
 have hpl:BH [b]=true:=by unfold BH;rw[hp];rfl
 refine Cn hs hl hpl (by simp) (PV.mo (ha env H _ A s he rm R F k) λv sb d H0a x R0a na k0a pl=>?_)
 obtain⟨⟨bb,ds,q⟩,k0a⟩:=k0a
 cases bb with
 |true =>
  refine DD PySem.F.slot_list_index PySem.F.type_list_index R0a x q ?_
  refine DZ BD hpl (Cz (λenv=>CB hp env) hb Eh) he rm R0a (F.step na.2) (K:=λds H=>match BC H d,MW ds with
   |some (_,ds),.int i=>∃ns,ds=AC ns/\i∈ns/\K (.int (ns.idxOf i:Nat)) H
   |_,_=>False) k0a ?_
  intro vs ds' H0b se y R0b ng l₂ k0b
  refine Ex (UR l₂) λe mN=>?_;subst mN
  refine BG y.one λw mN yy=>?_;subst mN
  refine Cv (Qs k0b) λb' i ns q' mN hm kk=>?_;subst mN
  refine yy.intE λ_=>?_
  obtain rfl:=Vy q q'
  exact PV.then (na.trans ng) (ON (b:=true) R0b (x.step ng.2) q' hm kk)
 |false =>
  refine Cv (KJ R0a x q) λa1 vs1 m1 mN ho l rs=>?_;subst mN
  refine getMethod_builtin (T:="tuple") ⟨_,ho,rfl⟩ ?_ PySem.F.slot_tuple_index PySem.F.type_tuple_index (λa e=>by cases e;exact⟨_,ho,rfl⟩) ?_
  ·exact PySem.F.plainAttrs_tuple
  refine DZ BD hpl (Cz (λenv=>CB hp env) hb Eh) he rm R0a (F.step na.2) (K:=λds H=>match BC H d,MW ds with
   |some (_,ds),.int i=>∃ns,ds=AC ns/\i∈ns/\K (.int (ns.idxOf i:Nat)) H
   |_,_=>False) k0a ?_
  intro vs ds' H0b se y R0b ng l₂ k0b
  refine Ex (UR l₂) λe mN=>?_;subst mN
  refine BG y.one λw mN yy=>?_;subst mN
  cases x with
  |tup e' q'' l r =>
   cases q
   refine Cv (Qs k0b) λb' i ns q' mN hm kk=>?_;subst mN
   cases q'
   refine yy.intE λ_=>?_
   have x1:BN sb.heap H0a (.ref a1) (.tup (AC ns)):=.tup e' q'' l r
   exact PV.then (na.trans ng) (Pr R0b (x1.step ng.2) rfl hm kk)
  |lst e' q'' l r=>cases q
  |ref a=>simp only[BC] at q;split at q<;>cases q
end
structure Bt(X:Addr->Prop)(H:KH)(h:Heap)(H':KH)(h':Heap):Prop where
 keep:∀a o,h.get? a=some o->H a=none->¬X a->h'.get? a=some o/\H' a=none
theorem aW{X:Addr->Prop}(hX:∀a,X a->Cd h a)(S:Bt X H h H' h'):T5 h H h' H':=λa o xs n z e q=>S.keep a o e q λx=>hX a x o e xs n z
theorem BN.stepX{X:Addr->Prop}(hX:∀a,X a->Cd h a)(S:Bt X H h H' h'){v d}(x:BN h H v d):BN h' H' v d:=x.map (aW hX S)
theorem AR.stepX{X:Addr->Prop}(hX:∀a,X a->Cd h a)(S:Bt X H h H' h'){vs ds}(x:AR h H vs ds):AR h' H' vs ds:=x.map (aW hX S)
theorem Fe.stepX{X:Addr->Prop}(hX:∀a,X a->Cd h a)(S:Bt X H h H' h'){mQ mP}(x:Fe h H mQ mP):Fe h' H' mQ mP:=by
 induction x with
 |nil=>exact .nil
 |cons a _ ih=>exact .cons (a.stepX hX S) ih
theorem EW.stepX{X:Addr->Prop}(hX:∀a,X a->Cd h a)(S:Bt X H h H' h'){es mP}(x:EW h H es mP):EW h' H' es mP:=by
 induction x with
 |nil=>exact .nil
 |cons a _ ih=>exact .cons (a.stepX hX S) ih
theorem Bt.of{X:Addr->Prop}(hk:∀a o,¬X a->h.get? a=some o->h'.get? a=some o):Bt X H h H h':=⟨λa o e q f=>⟨hk a o f e,q⟩⟩
theorem BP.butX{X:Addr->Prop}(R:BP B H h)(hb:∀b,X b->H b=none)(h0:∀b,X b->B.h0a.get? b=none)(hs:∀b,X b->Cd h b)(hk:∀a o,¬X a->h.get? a=some o->h'.get? a=some o):BP B H h':=by
 have S:Bt X H h H h':=Bt.of hk
 refine⟨λc o e=>⟨hk c o (λx=>by rw[h0 c x] at e;exact nS e) (R.base c o e).1,(R.base c o e).2⟩,λa A e=>?_⟩
 obtain⟨⟨o,ho⟩,r⟩:=R.know a A e
 have hab:¬X a:=λx=>by rw[hb a x] at e;exact nS e
 refine⟨⟨o,hk a o hab ho⟩,?_⟩
 have mv:∀o,h.get? a=some o->h'.get? a=some o:=λo e=>hk a o hab e
 cases A with
 |list ds=>refine CJ r λvs n q l z=>?_;exact⟨vs,n,mv _ q,l,z.stepX hs S⟩
 |dict mP=>refine DO r λmQ q l z=>?_;refine BG (Heap.dictOf_iff.mp q) λo ho hd=>?_;exact⟨mQ,Heap.dictOf_iff.mpr ⟨o,mv _ ho,hd⟩,l,z.stepX hs S⟩
 |inst C dx=>exact mv _ r
 |attrs mP=>refine CJ r λes n q l z=>?_;exact⟨es,n,mv _ q,l,z.stepX hs S⟩
 |idict=>refine BG r λmQ q l=>?_;refine BG (Heap.dictOf_iff.mp q) λo ho hd=>?_;exact⟨mQ,Heap.dictOf_iff.mpr ⟨o,mv _ ho,hd⟩,l⟩
 |pair=>refine OI r λv w q=>?_;exact⟨v,w,mv _ q⟩
noncomputable def KL(h:Heap)(a:Addr):Prop:=∃o,h.get? a=some o/\((∃xs n,o.data= .seq xs n)\/∃fs,o.data= .fields fs)
theorem KL.ne_ns{m:Str->Option Value}(x:KL h a)(n:h.Ns b m):a≠b:=by
 rintro rfl
 refine BG x λo ho hd=>?_
 refine F3 n λo' es ep ho' hd' _=>?_
 obtain rfl:=Option.some.inj (ho.symm.trans ho')
 rcases hd with⟨xs,k,e⟩|⟨fs,e⟩<;>(rw[hd'] at e;cases e)
theorem KL.ne_cell{v:Option Value}(x:KL h a)(n:h.IsCell b v):a≠b:=by
 rintro rfl
 refine BG x λo ho hd=>?_
 refine BG n λo' ho' hd'=>?_
 obtain rfl:=Option.some.inj (ho.symm.trans ho')
 rcases hd with⟨xs,k,e⟩|⟨fs,e⟩<;>(rw[hd'] at e;cases e)
theorem BQ.butX{ρ:Bw}{X:Addr->Prop}(F:BQ B env ρ H h)(hs:∀b,X b->Cd h b)(hf:∀b,X b->KL h b)(hk:∀a o,¬X a->h.get? a=some o->h'.get? a=some o):BQ B env ρ H h':=by
 obtain⟨ok,len,hL,bL,cells,m,hn',vals⟩:=F
 have cl:∀{c v},h.IsCell c v->h'.IsCell c v:=λy=>IsCell.at y λo e'=>hk _ o (λz=>(hf _ z).ne_cell y rfl) e'
 refine⟨ok,len,hL,bL,λx k hm hk'=>?_,m,hn'.at' λo e=>hk _ o (λz=>(hf _ z).ne_ns hn' rfl) e,λi x k d hi hρ hv=>?_⟩
 ·refine DX (cells x k hm hk') λc v a b e z=>?_
  exact⟨c,v,a,cl b,e,z⟩
 ·refine BG (vals i x k d hi hρ hv) λv a q=>?_
  refine⟨v,?_,q.stepX hs (Bt.of hk)⟩
  cases k with
  |«local»=>exact a
  |cell=>refine BG a λc a1 a2=>?_;exact⟨c,a1,cl a2⟩
  |free=>refine BG a λc a1 a2=>?_;exact⟨c,a1,cl a2⟩
  |_=>exact a
theorem DP{α β:Type}[BEq α][LawfulBEq α]{x:α}{k:β}:∀{l:List (α×β)},l.lookup x=some k->(x,k)∈l
 |[],h=>by cases h
 |(y,k')::r,h=>by
  rw[List.lookup_cons] at h
  split at h
  ·obtain rfl:=Option.some.inj h;rename_i e;rw[beq_iff_eq.mp e];exact List.mem_cons_self ..
  ·exact List.mem_cons_of_mem _ (DP h)
theorem BQ.notIn{ρ:Bw}(F:BQ B env ρ H h)(x:KL h b):¬I3 env b:=by
 rintro(rfl|⟨y,hk,hc⟩)
 ·refine BG F.vals λm hn _=>?_
  exact x.ne_ns hn rfl
 ·refine CJ (F.cells y .cell (DP hk) (.inl rfl)) λc v a q _=>?_
  obtain rfl:=Option.some.inj (hc.symm.trans a)
  exact x.ne_cell q rfl
structure F0(B:Base)(A:Around)(tgt:Expr)(I:Addr)(items:List D)(fp wr:List Addr)(B3:Heap->KH->Prop)(St:Nat->Heap->Prop):Prop where
 inv:∀(X:Addr->Prop) h H h' H',(∀a,X a->Cd h a)->Bt X H h H' h'->B3 h H->B3 h' H'
 sub:∀b∈wr,b∈fp
 nofr:∀i h,St i h->∀b∈fp,KL h b
 wrs:∀i h,St i h->∀b∈wr,Cd h b
 frame:∀i h h',St i h->(∀b∈fp,∀o,h.get? b=some o->h'.get? b=some o)->St i h'
 item:∀i (s:Shared) H d (Q:Value->Shared->Prop),items[i]? = some d->St i s.heap->B3 s.heap H->BP B H s.heap ->
  (∀v s',BN s'.heap H v d->St (i+1) s'.heap->(∃h tk,s'={s with heap:=h,toks:=tk})->(∀b o,b∉wr->s.heap.get? b=some o->s'.heap.get? b=some o)->Q v s') ->
  wpAny (model B.prog B.w) A (pyNext (.ref I)) (λr sb=>∃v,r=some v/\wpAny (model B.prog B.w) A (letOwnedTupleGo tgt (.ref I) v) (λ_ se=>Q v se) B9 sb) B9 s
 done:∀(s:Shared) (Q:Shared->Prop),St items.length s.heap->(∀s',(∃h tk,s'={s with heap:=h,toks:=tk})->(∀b o,b∉wr->s.heap.get? b=some o->s'.heap.get? b=some o)->Q s') ->
  wpAny (model B.prog B.w) A (pyNext (.ref I)) (λr sb=>r=none/\Q sb) B9 s
 self:∀i (s:Shared) (Q:Value->Shared->Prop),St i s.heap->Q (.ref I) s->wpAny (model B.prog B.w) A (pyIter (.ref I)) Q B9 s
noncomputable def dF:Expr->Bool
 |.Tuple .. => false
 |.List .. => false
 |_=>true
theorem iW{tgt:Expr}{it:Value}(h:dF tgt=true):letOwnedTupleGo tgt it v=pure ():=by
 cases tgt<;>first|rfl|exact Jf h
theorem dG{prog:Program}{w:World}{Q:Unit->Shared->Prop}{kx:Nat}{p:Pos}{o:Obj}{T:String}(ho:s.heap.get? I=some o)(hc:o.cls= .type T)(hT:["enumerate","zip","dict_itemiterator","dict_reverseitemiterator","odict_iterator","itertools.zip_longest","itertools.pairwise"].contains T=false)
  (h:Q () s):wpAny (model prog w) A (letOwnedTupleGo (.Tuple es kx p) (.ref I) v) Q E s:=by
 cases v with
 |ref a =>
  refine wpAny_bind (wpAny_load ho ?_)
  obtain⟨c,d,data,sl⟩:=o
  obtain rfl:c= .type T:=hc
  cases data with
  |fields vs=>show wpAny _ _ (if(List.contains _ T&&_)=true then _ else _) _ _ _;rw[hT];exact wpAny_pure h
  |_=>exact wpAny_pure h
 |_=>exact wpAny_pure h
theorem NL{prog:Program}{w:World}{Q:Unit->Shared->Prop}{tgt:Expr}{o:Obj}{T:String}(ho:s.heap.get? I=some o)(hc:o.cls= .type T)(hT:["enumerate","zip","dict_itemiterator","dict_reverseitemiterator","odict_iterator","itertools.zip_longest","itertools.pairwise"].contains T=false)
  (h:Q () s):wpAny (model prog w) A (letOwnedTupleGo tgt (.ref I) v) Q E s:=by
 cases tgt<;>first|exact wpAny_pure h|exact dG (es:=[]) (kx:=0) (p:=⟨0,0,0,0⟩) ho hc hT h
section
variable {B:Base} {A:Around} {tgt:Expr} {n:Nat}
theorem SC(rm:Rm n A){ax:Addr}(hne:ax≠I)(hl:vs.length=ds.length) :
  F0 B A tgt I ds [I,ax] [I] (λh H=>AR h H vs ds) (λi h=>h.IsListIter I ax i/\h.IsList ax vs.toArray) where
 inv:=λX h H h' H' hX S x=>x.stepX hX S
 sub:=λb hb=>by simp at hb;simp[hb]
 nofr:=λi h st b hb=>by
  simp at hb
  rcases hb with rfl|rfl
  ·refine DO st.1 λo ho _ hd=>?_;exact⟨o,ho,.inr ⟨_,hd⟩⟩
  ·refine Qf st.2 λo ho _ m hd=>?_;exact⟨o,ho,.inl ⟨_,_,hd⟩⟩
 wrs:=λi h st b hb=>by
  simp at hb;subst hb
  refine DO st.1 λo ho _ hd=>?_
  intro o' ho' xs m e;obtain rfl:=Option.some.inj (ho.symm.trans ho');rw[hd] at e;cases e
 frame:=λ_ _ _ st hk=>⟨st.1.at λo e=>hk I (by simp) o e,st.2.at λo e=>hk ax (by simp) o e⟩
 item:=λi s H d Q hi st x R hQ=>by
  refine BG (x.get hi) λv hv hd=>?_
  refine wpAny_pyNext_list_item st.1 st.2 (x:=v) (by simpa using hv) λh' hit' hs'=>?_
  have hit'':=hit'
  refine DO hit'' λo ho hc _=>?_
  refine⟨v,rfl,NL (s:={s with heap:=h'}) ho hc rfl (hQ v _ (hd.stepX (X:=(· = I)) ?_ (Bt.of λa o f e=>hs'.extBut a o f e)) ⟨hit',st.2.extBut hs'.extBut hne⟩ ⟨h',s.toks,rfl⟩ λb o hb e=>hs'.extBut b o (λh=>hb (by simp[h])) e)⟩
  rintro a rfl
  refine DO st.1 λo1 ho1 _ hd1=>?_
  intro o' ho' xs m e;obtain rfl:=Option.some.inj (ho1.symm.trans ho');rw[hd1] at e;cases e
 done:=λs Q st hQ=>by
  refine wpAny_pyNext_list_end rm.hd st.1 st.2 (by simp;exact AA [_,_] [] [.e Aa Ab] (.l Aa Ab) rfl hl) λh' he'=>⟨rfl,hQ _ ⟨h',s.toks,rfl⟩ λb o hb e=>he' b o (λh=>hb (by simp[h])) e⟩
 self:=λ_ _ _ st hQ=>wpAny_pyIter_listiter st.1 hQ
theorem Qt(rm:Rm n A){ax:Addr}(hne:ax≠I)(hl:vs.length=ds.length) :
  F0 B A tgt I ds [I,ax] [I] (λh H=>AR h H vs ds) (λi h=>h.IsTupleIter I ax i/\h.IsTuple ax vs.toArray) where
 inv:=λX h H h' H' hX S x=>x.stepX hX S
 sub:=λb hb=>by simp at hb;simp[hb]
 nofr:=λi h st b hb=>by
  simp at hb
  rcases hb with rfl|rfl
  ·refine DO st.1 λo ho _ hd=>?_;exact⟨o,ho,.inr ⟨_,hd⟩⟩
  ·refine Qf st.2 λo ho _ m hd=>?_;exact⟨o,ho,.inl ⟨_,_,hd⟩⟩
 wrs:=λi h st b hb=>by
  simp at hb;subst hb
  refine DO st.1 λo ho _ hd=>?_
  intro o' ho' xs m e;obtain rfl:=Option.some.inj (ho.symm.trans ho');rw[hd] at e;cases e
 frame:=λ_ _ _ st hk=>⟨st.1.at λo e=>hk I (by simp) o e,st.2.at λo e=>hk ax (by simp) o e⟩
 item:=λi s H d Q hi st x R hQ=>by
  refine BG (x.get hi) λv hv hd=>?_
  refine wpAny_pyNext_tuple_item st.1 st.2 (x:=v) (by simpa using hv) λh' hit' hs'=>?_
  have hit'':=hit'
  refine DO hit'' λo ho hc _=>?_
  refine⟨v,rfl,NL (s:={s with heap:=h'}) ho hc rfl (hQ v _ (hd.stepX (X:=(· = I)) ?_ (Bt.of λa o f e=>hs'.extBut a o f e)) ⟨hit',st.2.extBut hs'.extBut hne⟩ ⟨h',s.toks,rfl⟩ λb o hb e=>hs'.extBut b o (λh=>hb (by simp[h])) e)⟩
  rintro a rfl
  refine DO st.1 λo1 ho1 _ hd1=>?_
  intro o' ho' xs m e;obtain rfl:=Option.some.inj (ho1.symm.trans ho');rw[hd1] at e;cases e
 done:=λs Q st hQ=>by
  refine wpAny_pyNext_tuple_end rm.hd st.1 st.2 (by simp;exact AA [_,_] [] [.e Aa Ab] (.l Aa Ab) rfl hl) λh' he'=>⟨rfl,hQ _ ⟨h',s.toks,rfl⟩ λb o hb e=>he' b o (λh=>hb (by simp[h])) e⟩
 self:=λ_ _ _ st hQ=>wpAny_pyIter_tupleiter st.1 hQ
theorem Qu(rm:Rm n A){a b:Int} :
  F0 B A tgt I (upto a b) [I] [I] (λ_ _=>True) (λi h=>IsRangeIter h I (a+(i:Nat)*1) (((b-a).toNat:Int)-(i:Nat)) 1) where
 inv:=λX h H h' H' hX S x=>trivial
 sub:=λb hb=>hb
 nofr:=λi h st b hb=>by
  simp at hb;subst hb
  exact⟨_,st,.inr ⟨_,rfl⟩⟩
 wrs:=λi h st b hb=>by
  simp at hb;subst hb
  intro o' ho' xs m e;obtain rfl:=Option.some.inj (st.symm.trans ho');cases e
 frame:=λ_ _ _ st hk=>hk I (by simp) _ st
 item:=λi s H d Q hi st x R hQ=>by
  have hlt:i<(b-a).toNat:=by have:=(List.getElem?_eq_some_iff.mp hi).1;rwa [DS] at this
  rw[NA a b i hlt] at hi;obtain rfl:=Option.some.inj hi
  refine wpAny_pyNext_range_item st (by exact AA [_,_] [] [.u Ab Aa] (.U Ak (.s Ag Al)) rfl hlt) λh' hit' hs'=>?_
  have hst:IsRangeIter h' I (a+((i+1:Nat):Int)*1) (((b-a).toNat:Int)-((i+1:Nat):Int)) 1:=by
   have e1:a+((i+1:Nat):Int)*1=a+(i:Int)*1+1:=by rw[Int.mul_one,Int.mul_one];exact(Int.add_assoc a i 1).symm
   have e2:((b-a).toNat:Int)-((i+1:Nat):Int)=((b-a).toNat:Int)-(i:Int)-1:=by exact Int.le_antisymm (AA [_,_] [] [] (.L (.s Ag (.c (.p Ab Ae))) (.s (.s Ag Al) Ah)) rfl) (AA [_,_] [] [] (.L (.s (.s Ag Al) Ah) (.s Ag (.c (.p Ab Ae)))) rfl)
   rw[e1,e2];exact hit'
  refine⟨_,rfl,NL (s:=_) hit' rfl rfl (hQ _ _ (by rw[Int.mul_one];exact .int _ _) hst ⟨_,_,rfl⟩ λb o hb e=>hs'.extBut b o (λh=>hb (by simp[h])) e)⟩
 done:=λs Q st hQ=>by
  rw[DS] at st
  exact wpAny_pyNext_range_end rm.hd st (by exact AA [] [_] [] (.L (.s Ac Ac) Ak) rfl) λh' he'=>⟨rfl,hQ _ ⟨h',s.toks,rfl⟩ λb o hb e=>he' b o (λh=>hb (by simp[h])) e⟩
 self:=λ_ _ _ st hQ=>wpAny_pyIter_rangeiter st hQ
end
section
open AutoSeq1 (wpAny_loadPart')
section
variable {prog:Program} {w:World} {A:Around} {E:Value->Shared->Prop} {s:Shared}
theorem Fi{it l:Addr}{items:Array Value}{x:Value}(hit:s.heap.IsTupleIter it l i)
  (hl:s.heap.IsTuple l items) (hx:items[i]? = some x)
  (hQ:∀h',h'.IsTupleIter it l (i+1)->Heap.SameBut it s.heap h'->Q x {s with heap:=h'}) :
  wpAny (model prog w) A (Builtin.SmallTypes.nextOf (.ref it)) Q E s:=by
 refine DO (id hit) λo ho hc hd=>?_
 refine Qf hl λol hol _ nl hdl=>?_
 unfold Builtin.SmallTypes.nextOf
 refine wpAny_bind (wpAny_callSpecial?_slot (name:=Str.ofString "__next__") hit.typeIs F.slot_tuple_iterator_next
  (wpAny_call_entry F.slot_tuple_iterator_next hit.typeIs F.entry_tuple_iterator_next ?_ (F.args_tuple_iterator_next_1 _)))
 show wpAny _ _ (field (.ref it) 0>>=_) _ _ s
 refine wpAny_bind (wpAny_field ho hd (x:=.ref l) rfl ?_)
 show wpAny _ _ (if(Value.ref l==Value.none)=true then _ else _) _ _ s
 rw[if_neg (show ¬((Value.ref l==Value.none)=true) from Bool.false_ne_true)]
 show wpAny _ _ (field (.ref it) 1>>=_) _ _ s
 refine wpAny_bind (wpAny_field ho hd (x:=.int i 0) rfl ?_)
 show wpAny _ _ (seqItems? (.ref l)>>=_) _ _ s
 refine wpAny_bind (wpAny_seqItems hol hdl ?_)
 simp only[Int.toNat_natCast,hx]
 refine wpAny_bind (wpAny_setField ho hd (by simp) (wpAny_pure ⟨x,rfl,wpAny_pure (hQ _ ?_ (Heap.SameBut.update ..))⟩))
 exact⟨_,Heap.get?_update_self _ ho (Obj.isFreed_of_fields (Obj.data_mapFields hd _)),(Obj.cls_mapFields ..).trans hc,by
  rw[Obj.data_mapFields hd];simp[rawInt]⟩
theorem GN{it l:Addr}{items:Array Value}(hh:A.handled=none)
  (hit:s.heap.IsTupleIter it l i) (hl:s.heap.IsTuple l items) (hx:items[i]? = none)
  (hE:∀h' e,Heap.ExtBut it s.heap h'->(∃o,h'.get? e=some o/\o.cls= .type "StopIteration")->E (.ref e) {s with heap:=h'}) :
  wpAny (model prog w) A (Builtin.SmallTypes.nextOf (.ref it)) Q E s:=by
 refine DO (id hit) λo ho hc hd=>?_
 refine Qf hl λol hol _ nl hdl=>?_
 unfold Builtin.SmallTypes.nextOf
 refine wpAny_bind (wpAny_callSpecial?_slot (name:=Str.ofString "__next__") hit.typeIs F.slot_tuple_iterator_next
  (wpAny_call_entry F.slot_tuple_iterator_next hit.typeIs F.entry_tuple_iterator_next ?_ (F.args_tuple_iterator_next_1 _)))
 show wpAny _ _ (field (.ref it) 0>>=_) _ _ s
 refine wpAny_bind (wpAny_field ho hd (x:=.ref l) rfl ?_)
 show wpAny _ _ (if(Value.ref l==Value.none)=true then _ else _) _ _ s
 rw[if_neg (show ¬((Value.ref l==Value.none)=true) from Bool.false_ne_true)]
 show wpAny _ _ (field (.ref it) 1>>=_) _ _ s
 refine wpAny_bind (wpAny_field ho hd (x:=.int i 0) rfl ?_)
 show wpAny _ _ (seqItems? (.ref l)>>=_) _ _ s
 refine wpAny_bind (wpAny_seqItems hol hdl ?_)
 simp only[Int.toNat_natCast,hx]
 refine wpAny_bind (wpAny_rule (wpAny_bind (wpAny_setField ho hd (by simp) ?_)))
 show wpAny _ _ (newExc (.type "StopIteration") []>>=_) _ _ _
 refine wpAny_bind ?_
 simp only[newExc,newTuple]
 refine wpAny_bind (wpAny_newObj_type ?_ (by size_fits))
 refine wpAny_bind (m:=firstArgMember _ _) (wpAny_of_eq (a:=Value.none) (by first|rfl|(simp only[firstArgMember];rfl)) ?_)
 refine wpAny_newObj_type ?_ (by size_fits)
 simp only[raiseNew]
 refine wpAny_bind (wpAny_handled ?_)
 first|rw[show A.in1.handled=none from hh]|rw[hh]
 refine wpAny_bind (wpAny_pure (wpAny_throw ?_))
 exact hE _ _ (((Heap.SameBut.update ..).extBut.push _).push _) ⟨_,Heap.get?_push_size _ rfl,rfl⟩
theorem L5(hh:A.handled=none)(it l:Addr)(hne:l≠it)(items:Array Value) :
  Draws prog w A it [it,l] items.size (λi v=>items[i]? = some v) (λi h=>h.IsTupleIter it l i/\h.IsTuple l items) where
 live:=λ_ _ st=>let ⟨o,ho,_⟩:=st.1;⟨o,ho⟩
 frame:=λ_ _ _ st hk=>⟨st.1.at λo e=>hk it (by simp) o e,st.2.at λo e=>hk l (by simp) o e⟩
 item:=λi s Q E hi st hQ=>by
  refine Fi st.1 st.2 (x:=items[i]) (by simp[hi]) λh' hit' hs'=>?_
  exact hQ _ h' s.toks (by simp[hi]) ⟨hit',st.2.extBut hs'.extBut hne⟩ hs'
 done:=λs Q E st hE=>GN hh st.1 st.2 (by simp) hE
theorem IG(l:Addr)(items:Array Value)(n:Nat)(dct:Option Addr)(sl:Array (Option Value)) :
  Meets (Builtin.«enumerate.__new__» ⟨[.type "enumerate",.ref l],[]⟩) (λ_ R s=>s.heap.get? l=some {cls:=.type "tuple",dict:=dct,data:=.seq items n,slots:=sl} /\
   R (.ok (.ret (.ref (s.heap.push {cls:=.type "tuple_iterator",data:=.fields #[.ref l,.int 0 0]}).objs.size)))
    {s with heap:=(s.heap.push {cls:=.type "tuple_iterator",data:=.fields #[.ref l,.int 0 0]}).push {cls:=.type "enumerate",data:=.fields #[.none,.bool false,.ref s.heap.objs.size,rawInt 0,.none,.none]}}) :=
 .of_wp λprog w A R s h=>by
  obtain⟨hp,g,d,tk,os⟩:=s;refine Ea h λhl h=>?_
  have hsub:=sub_enumerate
  have hL:Heap.IsTuple (Shared.heap ⟨hp,g,d,tk,os⟩) l items:=⟨_,hl,rfl,n,rfl⟩
  wp_walk using wpAny_loadPart' hl
  refine wpAny_stack_any λst=>wpAny_pure ?_
  split
  ·rename_i c _ _ _ _ _
   cases (c==Value.type "enumerate")
   ·wp_walk using wpAny_loadPart' hl,wpAny_pyIter_tuple hL
    exact⟨_,rfl,h⟩
   ·wp_walk using wpAny_loadPart' hl,wpAny_pyIter_tuple hL
    exact⟨_,rfl,h⟩
  ·wp_walk using wpAny_loadPart' hl,wpAny_pyIter_tuple hL
   exact⟨_,rfl,h⟩
theorem IH{l:Addr}{items:Array Value}(hL:s.heap.IsTuple l items)
  (h:∀h',IsEnum h' (s.heap.objs.size+1) s.heap.objs.size 0 .none->h'.IsTupleIter s.heap.objs.size l 0->h'.objs.size=s.heap.objs.size+2 ->
   (∀b o,s.heap.get? b=some o->h'.get? b=some o)->Q (.ref (s.heap.objs.size+1)) {s with heap:=h'}) :
  wpAny (model prog w) A (call (.type "enumerate") [.ref l]) Q E s:=by
 obtain⟨⟨c,dct,dt,sl⟩,hl,hc,n,hd⟩:=hL
 replace hc:c= .type "tuple":=hc
 replace hd:dt= .seq items n:=hd
 subst hc hd
 refine callType_new F.called_enumerate (by decide) (F.typeCall_enumerate_1 _) (F.newCall_enumerate_1 _) (λobj=>F.args_object_init_2 obj _) F.entry_enumerate_new
  (IG l items n dct sl) ⟨hl,?_⟩
 have hz:(s.heap.push {cls:=.type "tuple_iterator",data:=.fields #[.ref l,.int 0 0]}).objs.size=s.heap.objs.size+1:=Heap.size_push ..
 show _/\_
 rw[hz]
 have he:IsEnum ((s.heap.push {cls:=.type "tuple_iterator",data:=.fields #[.ref l,.int 0 0]}).push
   {cls:=.type "enumerate",data:=.fields #[.none,.bool false,.ref s.heap.objs.size,rawInt 0,.none,.none]}) (s.heap.objs.size+1) s.heap.objs.size 0 .none:=by
  have:=Heap.get?_push_size (s.heap.push {cls:=.type "tuple_iterator",data:=.fields #[.ref l,.int 0 0]})
   (o:={cls:=.type "enumerate",data:=.fields #[.none,.bool false,.ref s.heap.objs.size,rawInt 0,.none,.none]}) rfl
  rw[hz] at this;exact this
 refine⟨⟨_,he,rfl⟩,h _ he ⟨_,Heap.get?_push_of_some _ (Heap.get?_push_size _ rfl),rfl,rfl⟩ (by rw[Heap.size_push,hz]) λb o x=>Heap.get?_push_of_some _ (Heap.get?_push_of_some _ x)⟩
end
section
variable {B:Base} {A:Around} {n:Nat}
theorem HO:∀(i:Nat) (ds:List D),(Bc i ds).length=ds.length
 |_,[]=>rfl
 |i,d::ds=>by rw[Bc,List.length_cons,List.length_cons,HO]
theorem KM:∀(a i:Nat) (ds:List D) (d:D),(Bc a ds)[i]? = some d->∃e,ds[i]? = some e/\d= .tup [.int ((a+i:Nat):Int),e]
 |_,_,[],_,h=>by simp[Bc] at h
 |a,0,e::ds,d,h=>by simp[Bc] at h;exact⟨e,rfl,by rw[←h];simp⟩
 |a,i+1,e::ds,d,h=>by
  refine BG (KM (a+1) i ds d (by simpa[Bc] using h)) λe' h1 h2=>?_
  exact⟨e',by simpa using h1,by rw[h2];congr 4;exact Nat.le_antisymm (AA [_,_] [] [] (.l (.p (.p Aa Ae) Ab) (.p Aa (.p Ab Ae))) rfl) (AA [_,_] [] [] (.l (.p Aa (.p Ab Ae)) (.p (.p Aa Ae) Ab)) rfl)⟩
theorem SD(rm:Rm n A){elts:List Expr}{k:Nat}{e it ax:Addr}(h1:e≠it)(h2:ax≠it)(h3:ax≠e)(hl:vs.length=ds.length) :
  F0 B A (.Tuple elts k pos) e (Bc 0 ds) [e,it,ax] [e,it] (λh H=>AR h H vs ds) (λi h=>(∃old,IsEnum h e it i old)/\h.IsTupleIter it ax i/\h.IsTuple ax vs.toArray) where
 inv:=λX h H h' H' hX S x=>x.stepX hX S
 sub:=λb hb=>by simp at hb;rcases hb with rfl|rfl<;>simp
 nofr:=λi h st b hb=>by
  simp at hb
  rcases hb with rfl|rfl|rfl
  ·refine Ex st.1 λold ho=>?_;exact⟨_,ho,.inr ⟨_,rfl⟩⟩
  ·refine DO st.2.1 λo ho _ hd=>?_;exact⟨o,ho,.inr ⟨_,hd⟩⟩
  ·refine Qf st.2.2 λo ho _ m hd=>?_;exact⟨o,ho,.inl ⟨_,_,hd⟩⟩
 wrs:=λi h st b hb=>by
  simp at hb
  rcases hb with rfl|rfl
  ·refine Ex st.1 λold ho=>?_;intro o' ho' xs m q;obtain rfl:=Option.some.inj (ho.symm.trans ho');cases q
  ·refine DO st.2.1 λo ho _ hd=>?_;intro o' ho' xs m q;obtain rfl:=Option.some.inj (ho.symm.trans ho');rw[hd] at q;cases q
 frame:=λ_ _ _ st hk=>by
  obtain⟨⟨old,ho⟩,b,c⟩:=st
  exact⟨⟨old,hk e (by simp) _ ho⟩,b.at λo q=>hk it (by simp) o q,c.at λo q=>hk ax (by simp) o q⟩
 item:=λi s H d Q hi st x R hQ=>by
  refine BG (KM 0 i ds d hi) λd' hd' mN=>?_;subst mN
  refine BG (x.get hd') λv hv hd=>?_
  obtain⟨⟨old,ho⟩,hit,ht⟩:=st
  have hlt:i<vs.toArray.size:=by rw[List.size_toArray];exact(List.getElem?_eq_some_iff.mp hv).1
  have hef:e∉[it,ax]:=by simp;exact⟨h1,λq=>h3 q.symm⟩
  refine wpAny_pyNext_enum_itemD (P:=λi v=>vs.toArray[i]? = some v) (St:=λi h=>h.IsTupleIter it ax i/\h.IsTuple ax vs.toArray) (L5 (show A.in1.handled=none from rm.hd) it ax h2 vs.toArray) ho ⟨hit,ht⟩ hlt h1 hef λx' h' tk hP ho' hst' hT hsz hk=>?_
  have hvx:x'=v:=by
   have:vs[i]? = some x':=by simpa using hP
   rw[hv] at this;exact(Option.some.inj this).symm
  subst hvx
  refine⟨_,rfl,wpAny_letOwnedTupleGo_enum (s:={s with heap:=h',toks:=tk+1}) ho' λh0c he2 hsb=>?_⟩
  have helt:e<s.heap.objs.size:=Heap.lt_size ho
  have kk:∀b o,b∉[e,it]->s.heap.get? b=some o->h0c.get? b=some o:=λb o hb q=>by
   have q1:=hk b o (λz=>hb (by simp[z])) (λz=>hb (by simp[z])) q
   exact(hsb.2 b λz=>hb (by simp[z])).trans q1
  have hT2:h0c.get? s.heap.objs.size=some (Cy [.int i tk,x'] 0):=(hsb.2 _ (Nat.ne_of_gt helt)).trans hT
  have S:Bt (·∈[e,it]) H s.heap H h0c:=Bt.of λa o f q=>kk a o f q
  have hX:∀a,a∈[e,it]->Cd s.heap a:=λa ha=>by
   simp at ha
   rcases ha with rfl|rfl
   ·intro o' ho' xs m q;obtain rfl:=Option.some.inj (ho.symm.trans ho');cases q
   ·refine DO hit λo ho1 _ hd1=>?_;intro o' ho' xs m q;obtain rfl:=Option.some.inj (ho1.symm.trans ho');rw[hd1] at q;cases q
  refine hQ _ _ (.tup hT2 R.free (by rw[sizeLine_eq];simp) (.cons ?_ (.cons (hd.stepX hX S) .nil))) ⟨⟨_,by simpa using he2⟩,hst'.1.at λo q=>(hsb.2 it h1.symm).trans q,hst'.2.at λo q=>(hsb.2 ax h3).trans q⟩ ⟨h0c,tk+1,rfl⟩ kk
  have:((0+i:Nat):Int)=(i:Int):=by exact Int.le_antisymm (AA [_] [] [] (.L (.c (.p Am Aa)) Ag) rfl) (AA [_] [] [] (.L Ag (.c (.p Am Aa))) rfl)
  rw[this];exact .int _ _
 done:=λs Q st hQ=>by
  rw[HO] at st
  obtain⟨⟨old,ho⟩,hit,ht⟩:=st
  have hz:vs.toArray.size=ds.length:=by rw[List.size_toArray];exact hl
  refine wpAny_pyNext_enum_endD (n:=ds.length) (P:=λi v=>vs.toArray[i]? = some v) (St:=λi h=>h.IsTupleIter it ax i/\h.IsTuple ax vs.toArray) (hz▸L5 (show A.in1.handled=none from rm.hd) it ax h2 vs.toArray) ho ⟨hit,ht⟩ λh' hx=>⟨rfl,hQ _ ⟨h',s.toks,rfl⟩ λb o hb q=>hx b o (λz=>hb (by simp[z])) q⟩
 self:=λi s Q st hQ=>by
  obtain⟨⟨old,ho⟩,_⟩:=st
  exact wpAny_pyIter_enum ho hQ
end
end
noncomputable def PF(h:Heap)(H:KH)(K:KS)(ρ:Bw):Flow->Prop
 |.next=>K .next ρ H
 |.brk=>K .brk ρ H
 |.cont=>K .cont ρ H
 |.ret v=>∃d,BN h H v d/\K (.ret d) ρ H
inductive PS(B:Base)(env:Env)(H:KH)(s:Shared)(K:KS)(f:Flow)(s':Shared):Prop
 |mk (ρ':Bw) (H':KH) (n:ID env H s H' s') (R:BP B H' s'.heap) (F:BQ B env ρ' H' s'.heap) (k:PF s'.heap H' K ρ' f)
theorem PS.mo{K:KS}{t:Sem Flow}{Q:Flow->Shared->Prop}(h:wpAny (model B.prog B.w) A t (PS B env H s K) B9 s0)
  (k:∀f sb ρ1 H0a,ID env H s H0a sb->BP B H0a sb.heap->BQ B env ρ1 H0a sb.heap->PF sb.heap H0a K ρ1 f->Q f sb):wpAny (model B.prog B.w) A t Q E s0:=wpAny_mono h (λv sb p=>PS.casesOn (motive:=λ_=>Q v sb) p (k v sb)) λ_ _ x=>x.elim
abbrev WS:=Bw->KH->KS->Prop
def F4(B:Base)(n:Nat)(sc:Scope)(t:Env->Sem Flow)(W:WS):Prop :=
 ∀(env:Env) (ρ:Bw) (H:KH) (K:KS) (A:Around) (s:Shared),env.scope=sc->Rm n A->BP B H s.heap->BQ B env ρ H s.heap->W ρ H K->wpAny (model B.prog B.w) A (t env) (PS B env H s K) B9 s
theorem PS.after{K:KS}{f:Flow}(n:ID env H s H0a sb)(p:PS B env H0a sb K f s'):PS B env H s K f s' :=
 let ⟨ρ',H',a,b,c,d⟩:=p;⟨ρ',H',n.trans a,b,c,d⟩
theorem PS.then{K:KS}{t:Sem Flow}(n:ID env H s H0a sb)(h:wpAny (model B.prog B.w) A t (PS B env H0a sb K) B9 sb):wpAny (model B.prog B.w) A t (PS B env H s K) B9 sb :=
 wpAny_mono h (λv s' p=>PS.after n p) λ_ _ x=>x
theorem V0{M:Model}{α:Type}{t:Sem α}{Q:α->Shared->Prop}(h:wpAny M A t Q B9 s):wpAny M A t Q E s:=wpAny_mono h (λ_ _ x=>x) λ_ _ x=>x.elim
noncomputable def NM:NameKind->Bool
 |.local| .cell=>true
 |_=>false
noncomputable def dH:Expr->Option Str
 |.Name x _=>some x
 |_=>none
theorem TY(h:dH e=some x):∃p,e= .Name x p:=by
 cases e<;>first|exact nS h|exact⟨_,congrArg (Expr.Name · _) (Option.some.inj h)⟩
noncomputable def V1:Expr->Option (List Expr)
 |.Tuple es _ _=>some es
 |_=>none
theorem Ms{x:List Expr}(h:V1 e=some x):∃k p,e= .Tuple x k p:=by
 cases e<;>first|exact nS h|exact⟨_,_,congrArg (Expr.Tuple · _ _) (Option.some.inj h)⟩
noncomputable def Zp{α:Type}(o:Option α)(f:α->Bool):Bool:=match o with
 |some a=>f a
 |none=>false
theorem II{α:Type}{o:Option α}{f:α->Bool}(h:Zp o f=true):∃a,o=some a/\f a=true:=by
 cases o with
 |none=>exact Jf h
 |some a=>exact⟨a,rfl,h⟩
def NN(sc:Scope)(i:Nat)(e:Expr):Bool:=Zp (dH e) λx=>Zp sc.names[i]? λq=>x==q.1&&NM q.2
noncomputable def KN(sc:Scope):List Nat->List Expr->Bool
 |[],[]=>true
 |i::is,e::es=>NN sc i e&&KN sc is es
 |_,_=>false
noncomputable def GO(sc:Scope):Qb->Expr->Bool
 |.v i,e=>NN sc i e
 |.t is,e=>Zp (V1 e) λes=>KN sc is es
theorem LY{sc:Scope}(h:NN sc i e=true):∃x p k,e= .Name x p/\sc.names[i]? = some (x,k)/\NM k=true:=by
 refine BG (II h) λx h1 h=>?_
 refine BG (II h) λq h2 h=>?_
 refine Ea (Bool.and_eq_true_iff.mp h) λh3 h4=>?_
 refine Ex (TY h1) λp e=>?_
 exact⟨x,p,q.2,e,h2.trans (congrArg some (Prod.ext (beq_iff_eq.mp h3).symm rfl)),h4⟩
section
variable {B:Base} {n:Nat} {sc:Scope} {env:Env} {ρ:Bw} {H:KH} {A:Around} {s:Shared} {tgt:Expr} {T:Qb}
theorem V2{k:NameKind}(h:NM k=true):k= .local\/k= .cell:=by cases k<;>first|exact .inl rfl|exact .inr rfl|cases h
theorem Qv{k:NameKind}{p:Pos}{Q:Unit->Shared->Prop}(he:env.scope=sc)(hi:sc.names[i]? = some (x,k))(hk:NM k=true)(R:BP B H s.heap)(F:BQ B env ρ H s.heap)(hd:BN s.heap H v d)
  (h:∀s',BQ B env (ρ.set i (some d)) H s'.heap->BP B H s'.heap->ID env H s H s'->(∀{v d},BN s.heap H v d->BN s'.heap H v d)->Q () s'):wpAny (model B.prog B.w) A (assign (.Name x p) env v) Q B9 s:=by
 subst he
 show wpAny _ A (do standAt p;bindName env x v) _ _ _
 exact wpAny_bind (wpAny_standAt (Pg F R hi (V2 hk) hd λs' a b c d _=>h s' a b c d))
theorem UV{Q:Unit->Shared->Prop}(he:env.scope=sc):∀(is:List Nat) (es:List Expr) (vs:List Value) (ds:List D) (ρ:Bw) (s:Shared),KN sc is es=true->is.length=ds.length->BP B H s.heap->BQ B env ρ H s.heap->AR s.heap H vs ds ->
  (∀s',BQ B env (Fg is ds ρ) H s'.heap->BP B H s'.heap->ID env H s H s'->Q () s')->wpAny (model B.prog B.w) A (assignInOrder ((assignEach es env).map (·.2)) vs) Q B9 s:=by
 intro is
 induction is with
 |nil =>
  intro es vs ds ρ s ht hl R F r h
  cases es with
  |cons=>cases ht
  |nil=>cases r with
   |nil=>exact wpAny_assignInOrder_none (h s F R (ID.refl ..))
   |cons=>cases hl
 |cons i is ih =>
  intro es vs ds ρ s ht hl R F r h
  cases es with
  |nil=>cases ht
  |cons e es =>
   refine Ea (Bool.and_eq_true_iff.mp ht) λh1 h2=>?_
   refine F3 (LY h1) λx p k mN hi hk=>?_;subst mN
   cases r with
   |nil=>cases hl
   |@cons v vs d ds a r =>
    refine wpAny_assignInOrder_more (Qv he hi hk R F a λsb F0a R0a na mv=>?_)
    exact ih es _ _ _ _ h2 (by simpa using hl) R0a F0a (I8 r.length λj v d hv hd=>by
     refine BG (r.get hd) λv' e1 e2=>?_
     obtain rfl:=Option.some.inj (hv.symm.trans e1);exact mv e2) λs' F' R' n'=>h s' F' R' (na.trans n')
theorem SE:∀(is:List Nat) (es:List Expr),KN sc is es=true->(assignEach es env).length=is.length/\(assignEach es env).findIdx? (·.1)=none:=by
 intro is
 induction is with
 |nil =>
  intro es ht
  cases es with
  |nil=>exact⟨rfl,rfl⟩
  |cons=>cases ht
 |cons i is ih =>
  intro es ht
  cases es with
  |nil=>cases ht
  |cons e es =>
   refine Ea (Bool.and_eq_true_iff.mp ht) λh1 h2=>?_
   refine F3 (LY h1) λx p k mN hi hk=>?_;subst mN
   refine Ea (ih es h2) λh1 h2=>?_
   refine⟨by show(assignEach es env).length+1=_;rw[h1];rfl,?_⟩
   show List.findIdx? _ ((false,assign (.Name x p) env)::assignEach es env)=none
   rw[List.findIdx?_cons,h2];rfl
theorem Ps(h:GO sc (.t is) tgt=true):∃es k p,tgt= .Tuple es k p/\KN sc is es=true:=by
 refine BG (II h) λes h1 h=>?_
 refine OI (Ms h1) λk p e=>?_
 exact⟨es,k,p,e,h⟩
theorem TZ(h:GO sc (.v i) tgt=true):∃x p k,tgt= .Name x p/\sc.names[i]? = some (x,k)/\NM k=true:=LY h
theorem Ta{ρ':Bw}(h:D5 (.t is) d ρ=some ρ'):∃ds,d= .tup ds/\is.length=ds.length/\ρ'=Fg is ds ρ:=by
 cases d with
 |tup ds =>
  unfold D5 at h
  dsimp only at h
  split at h
  ·obtain rfl:=Option.some.inj h;exact⟨ds,rfl,by assumption,rfl⟩
  ·exact nS h
 |_=>cases h
theorem Er{ρ':Bw}{Q:Unit->Shared->Prop}(he:env.scope=sc)(ht:GO sc T tgt=true)(rm:Rm n A)(R:BP B H s.heap)(F:BQ B env ρ H s.heap)(hd:BN s.heap H v d)(hb:D5 T d ρ=some ρ')
  (h:∀s',BQ B env ρ' H s'.heap->BP B H s'.heap->ID env H s H s'->Q () s'):wpAny (model B.prog B.w) A (assign tgt env v) Q B9 s:=by
 cases T with
 |v i =>
  refine F3 (TZ ht) λx p k mN hi hk=>?_;subst mN
  cases hb
  exact Qv he hi hk R F hd λs' F' R' n' _=>h s' F' R' n'
 |t is =>
  refine J8 (Ps ht) λes k p mN ht=>?_;subst mN
  obtain⟨ds,rfl,hlen,rfl⟩:=Ta hb
  refine hd.tupE ?_
  ·intro a vs m e q l r
   refine Ea (SE (env:=env) is es ht) λh1 h2=>?_
   refine wpAny_assign_Tuple (items:=vs.toArray) rm.hd ⟨_,e,rfl,m,rfl⟩ (by rw[h1,hlen,List.size_toArray];exact r.length.symm) h2 λh' hx=>?_
   have hx':∀a o,s.heap.get? a=some o->h'.get? a=some o:=λa o e=>hx a o (Nat.ne_of_lt (Heap.lt_size e)) e
   have na:Nx H s H {s with heap:=h'}:=⟨⟨h',s.toks,rfl⟩,BE.ext hx'⟩
   exact UV he is es _ ds _ {s with heap:=h'} ht hlen (R.ext hx') (F.step na.2) (r.step na.2) λs' F' R' n'=>h s' F' R' (na.toF.trans n')
end
noncomputable def IJ:Expr->Bool
 |.ListComp .. => false
 |.SetComp .. => false
 |.DictComp .. => false
 |_=>true
theorem Gy{t:Option Expr}{l:Nat}(h:IJ e=true):swapsWith e t l env=pure false:=by
 cases e<;>first|rfl|cases h
section
variable {B:Base} {n:Nat} {sc:Scope} {env:Env} {e tgt a i:Expr} {pos p:Pos} {T:Qb} {Wx Wa Wi:Bw->W1} {WA WB:WS}
theorem jP{ρ:Bw}{K:KS}{A:Around}(R:BP B H s.heap)(F:BQ B env ρ H s.heap)(k:K .next ρ H):PS B env H s K .next s:=⟨ρ,H,ID.refl ..,R,F,k⟩
theorem Zq(hc:IJ e=true)(h:∀ρ,B4 B n sc ρ (eval e) (Wx ρ)):F4 B n sc (exec (.Expr e pos)) (λρ H K=>Wx ρ H λ_ H=>K .next ρ H):=by
 intro env ρ H K A s he rm R F k
 refine wpAny_Expr_any (PV.mo (h ρ env H _ A s he rm R F k) λv sb d H0a x R0a na k0a=>?_) ?_ (Gy hc)
 ·exact⟨ρ,H0a,na.toF,R0a,F.step na.2,k0a⟩
 ·unfold interactive;rw[F.ok.kind];rfl
theorem Zr:F4 B n sc (exec (.Pass pos)) (λρ H K=>K .next ρ H):=by
 intro env ρ H K A s he rm R F k
 show wpAny _ A (do standAt pos;pure Flow.next) _ _ _
 exact wpAny_bind (wpAny_standAt (wpAny_pure ⟨ρ,H,ID.refl ..,R,F,k⟩))
theorem dI:F4 B n sc (exec (.Break pos)) (λρ H K=>K .brk ρ H):=by
 intro env ρ H K A s he rm R F k
 show wpAny _ A (do standAt pos;pure Flow.brk) _ _ _
 exact wpAny_bind (wpAny_standAt (wpAny_pure ⟨ρ,H,ID.refl ..,R,F,k⟩))
theorem Zs:F4 B n sc (exec (.Continue pos)) (λρ H K=>K .cont ρ H):=by
 intro env ρ H K A s he rm R F k
 show wpAny _ A (do standAt pos;pure Flow.cont) _ _ _
 exact wpAny_bind (wpAny_standAt (wpAny_pure ⟨ρ,H,ID.refl ..,R,F,k⟩))
theorem dJ(h:∀ρ,B4 B n sc ρ (eval e) (Wx ρ)):F4 B n sc (exec (.Return (some e) pos)) (λρ H K=>Wx ρ H λd H=>K (.ret d) ρ H):=by
 intro env ρ H K A s he rm R F k
 exact wpAny_Return_some (wpAny_mono (h ρ env H _ A s he rm R F k) (λv sb ⟨d,H0a,x,R0a,na,k0a⟩=>⟨ρ,H0a,na.toF,R0a,F.step na.2,d,x,k0a⟩) λ_ _ x=>x)
theorem Zt:F4 B n sc (exec (.Return none pos)) (λρ H K=>K (.ret .none) ρ H):=by
 intro env ρ H K A s he rm R F k
 exact wpAny_Return_none ⟨ρ,H,ID.refl ..,R,F,.none,.none,k⟩
theorem gn{b1 b2:List Stmt}(ht:∀ρ,LP B n sc ρ e (Wx ρ))(ha:F4 B n sc (execs b1) WA)(hb:F4 B n sc (execs b2) WB) :
  F4 B n sc (exec (.If e b1 b2 pos)) (λρ H K=>Wx ρ H (CX λc H=>if c then WA ρ H K else WB ρ H K)):=by
 intro env ρ H K A s he rm R F k
 refine wpAny_If (PB.mo (ht ρ env H _ A s he rm R F k) λc sb H0a R0a na k0a=>?_)
 cases c with
 |true=>exact PS.then na.toF (ha env ρ H0a K A sb he rm R0a (F.step na.2) k0a)
 |false=>exact PS.then na.toF (hb env ρ H0a K A sb he rm R0a (F.step na.2) k0a)
theorem Zu:F4 B n sc (execs []) (λρ H K=>K .next ρ H):=by
 intro env ρ H K A s he rm R F k
 exact wpAny_execs_nil ⟨ρ,H,ID.refl ..,R,F,k⟩
theorem V3{st:Stmt}{r:List Stmt}(ha:F4 B n sc (exec st) WA)(hb:F4 B n sc (execs r) WB) :
  F4 B n sc (execs (st::r)) (λρ H K=>WA ρ H λf ρ H=>match f with| .next=>WB ρ H K|f=>K f ρ H):=by
 intro env ρ H K A s he rm R F k
 refine wpAny_execs_cons (PS.mo (ha env ρ H _ A s he rm R F k) λf sb ρ1 H0a na R0a F0a k0a=>?_)
 cases f with
 |next=>exact PS.then na (hb env ρ1 H0a K A sb he rm R0a F0a k0a)
 |brk=>exact⟨ρ1,H0a,na,R0a,F0a,k0a⟩
 |cont=>exact⟨ρ1,H0a,na,R0a,F0a,k0a⟩
 |ret v=>exact⟨ρ1,H0a,na,R0a,F0a,k0a⟩
theorem SG{i:Nat}{r:List Stmt}(hb:F4 B n sc (execs r) WB):F4 B n sc (execs r) (λρ H K=>aP (GM ρ i) H λds a=>WB (ρ.set i (some (.lst ds))) (H.erase a) K):=by
 intro env ρ H K A s he rm R F k
 obtain⟨ha,hH,k⟩:=k
 rename_i a ds
 refine Ea (R.erase a (R.out hH)) λR0a S0b=>?_
 have F0a:BQ B env ρ (H.erase a) s.heap:=F.step S0b
 have F0c:BQ B env (ρ.set i (some (.lst ds))) (H.erase a) s.heap:=by
  refine BG F0a.vals λm hn vals=>?_
  refine⟨F0a.ok,by rw[List.length_set];exact F0a.len,F0a.hL,F0a.bL,F0a.cells,m,hn,λj x k' d hi hρ hv=>?_⟩
  by_cases hji:j=i
  ·subst hji
   obtain⟨o,ho⟩:∃o,ρ[j]? = some o:=by
    unfold GM at ha
    cases e:ρ[j]? with
    |none=>rw[e] at ha;cases ha
    |some o=>exact⟨o,rfl⟩
   have hlt:j<ρ.length:=(List.getElem?_eq_some_iff.mp ho).1
   rw[List.getElem?_set_self hlt] at hρ;cases hρ
   have hρ':ρ[j]? = some (some (.ref a)):=by
    unfold GM at ha;rw[ho] at ha ⊢;simpa using ha
   refine BG (vals j x k' (.ref a) hi hρ' hv) λv q1 q2=>?_
   cases q2
   refine F2 (R.know _ _ hH) λ_ vs n q l r=>?_
   exact⟨_,q1,.lst q (KH.erase_self _ _) l (r.step S0b)⟩
  ·rw[List.getElem?_set_ne (Ne.symm hji)] at hρ
   exact vals j x k' d hi hρ hv
 exact PS.then (Nx.toF ⟨⟨s.heap,s.toks,rfl⟩,S0b⟩) (hb env _ _ K A s he rm R0a F0c k)
theorem LZ{t value:Expr}(hs:swapsWith value (some t) pos.line env=pure false)(hw:swappedStores [t] value env=pure none)(hst:assignEach [t] env=[(false,assign t env)]){Q:Flow->Shared->Prop}
  (h:wpAny (model B.prog B.w) A (eval value env) (λv sb=>wpAny (model B.prog B.w) A (assign t env v) (λ_=>Q .next) B9 sb) B9 s):wpAny (model B.prog B.w) A (exec (.Assign [t] value pos) env) Q B9 s:=by
 refine wpAny_Assign_stores (wpAny_mono h (λv sb h0b=>?_) λ_ _ x=>x) hs hw
 rw[hst]
 exact h0b
theorem Zv{value:Expr}:swappedStores [.Name x p] value env=pure none:=rfl
theorem OQ{t:Expr}{value:Expr}(h:∀es k p,value≠.Tuple es k p):swappedStores [t] value env=pure none:=by
 cases t<;>first|rfl|(cases value<;>first|rfl|exact absurd rfl (h _ _ _))
theorem aX{t:Expr}(h:GO sc T t=true):assignEach [t] env=[(false,assign t env)]:=by
 cases T with
 |v i=>refine F3 (TZ h) λx p k mN _ _=>?_;subst mN;rfl
 |t is=>refine J8 (Ps h) λes k p mN _=>?_;subst mN;rfl
theorem dK(hc:IJ e=true)(hw:(∀es k p,e≠.Tuple es k p)\/∃x p,tgt= .Name x p)(ht:GO sc T tgt=true)(h:∀ρ,B4 B n sc ρ (eval e) (Wx ρ)) :
  F4 B n sc (exec (.Assign [tgt] e pos)) (λρ H K=>Wx ρ H λd H=>match D5 T d ρ with|some ρ'=>K .next ρ' H|none=>False):=by
 intro env ρ H K A s he rm R F k
 refine LZ (Gy hc) ?_ (aX ht) (PV.mo (h ρ env H _ A s he rm R F k) λv sb d H0a x R0a na k0a=>?_)
 ·rcases hw with h|⟨x,p,rfl⟩
  ·exact OQ h
  ·rfl
 ·skip
  split at k0a<;>try exact k0a.elim
  rename_i ρ' hb
  exact Er he ht rm R0a (F.step na.2) x hb λs' F' R' n'=>⟨ρ',H0a,na.toF.trans n',R',F',k0a⟩
end
section
variable {B:Base} {n:Nat} {sc:Scope} {env:Env} {e tgt a i:Expr} {pos p:Pos} {T:Qb} {Wx Wa Wi:Bw->W1} {WA WB:WS}
theorem PU.go{K:KH->Prop}{α:Type}{t:Sem α}{ρ:Bw}{H0c:KH}{KK:KS}(h:wpAny (model B.prog B.w) A t (λ_=>PU B H s K) B9 s)(nh:ID env H0c s0 H s)(F:BQ B env ρ H s.heap)(hk:∀H,K H->KK .next ρ H) :
  wpAny (model B.prog B.w) A t (λ_=>PS B env H0c s0 KK .next) B9 s :=
 wpAny_mono h (λ_ s' ⟨H',R',n',k⟩=>⟨ρ,H',nh.trans n'.toF,R',F.step n'.2,hk _ k⟩) λ_ _ x=>x
theorem SH{o:Expr}(hc:IJ e=true)(h:∀ρ,B4 B n sc ρ (eval e) (Wx ρ))(ha:∀ρ,B4 B n sc ρ (eval o) (Wa ρ)) :
  F4 B n sc (exec (.Assign [.Attribute o name p] e pos)) (λρ H K=>Wx ρ H λe H=>Wa ρ H λd H=>Fd d name e H B.K λH=>K .next ρ H):=by
 intro env ρ H K A s he rm R F k
 refine plainObj_wpAny_Assign_Attribute (PV.mo (h ρ env H _ A s he rm R F k) λv sb d H0a x R0a na k0a=>?_) (Gy hc)
 refine PV.mo (ha ρ env H0a _ A sb he rm R0a (F.step na.2) k0a) λw se d0a H0b y R0b ng k0b=>?_
 exact PU.go (Rv R0b y (x.step ng.2) k0b) (na.trans ng).toF ((F.step na.2).step ng.2) λH h=>h
theorem UW{o v:Expr}{l:Nat}:swapsWith v (some (.Subscript o i p)) l env=pure false:=by
 cases v<;>rfl
theorem SI{o:Expr}(h:∀ρ,B4 B n sc ρ (eval e) (Wx ρ))(ha:∀ρ,B4 B n sc ρ (eval o) (Wa ρ))(hi:∀ρ,B4 B n sc ρ (eval i) (Wi ρ)) :
  F4 B n sc (exec (.Assign [.Subscript o i p] e pos)) (λρ H K=>Wx ρ H λe H=>Wa ρ H λd H=>Wi ρ H λj H=>match d with
  |.ref l=>TF l j e H λH=>K .next ρ H
  |_=>False):=by
 intro env ρ H K A s he rm R F k
 refine wpAny_Assign_Subscript (PV.mo (h ρ env H _ A s he rm R F k) λv sb d H0a x R0a na k0a=>?_) UW
 refine PV.mo (ha ρ env H0a _ A sb he rm R0a (F.step na.2) k0a) λw se d0a H0b y R0b ng k0b=>?_
 refine PV.mo (hi ρ env H0b _ A se he rm R0b ((F.step na.2).step ng.2) k0b) λu sf d0e H0d z R0c n3 k0c=>?_
 split at k0c<;>try exact k0c.elim
 refine y.refE ?_
 exact PU.go (cn R0c z ((x.step ng.2).step n3.2) k0c) ((na.trans ng).trans n3).toF (((F.step na.2).step ng.2).step n3.2) λH h=>h
noncomputable def I9:Expr->Bool
 |.Starred .. => true
 |_=>false
noncomputable def BV(sc:Scope)(ts:List Expr):List Str :=
 let line:=(ts.head?.map (·.pos.line)).getD 0
 ts.filterMap fun
  |.Name id pos=>if sc.names.lookup id==some .local&&pos.line==line then some id else none
  |_=>none
def Pt(sc:Scope)(ts vs:List Expr)(is:List Nat):Bool :=
 (ts.length==2||ts.length==3)&&vs.length==ts.length && !(vs.any I9)&&(BV sc ts).length==ts.length&&(BV sc ts).eraseDups.length==(BV sc ts).length &&
 !(vs.all (foldedForSure 8)) && !(vs.all (constantsAlone 8))&&decide (is.map (λi=>sc.names[i]?)=(BV sc ts).map λx=>some (x,NameKind.local))
theorem SJ{ts vs:List Expr}{k k':Nat}{p':Pos}(he:env.scope=sc)(hk:env.scope.kind= .function)(h:Pt sc ts vs is=true) :
  swappedStores [.Tuple ts k p] (.Tuple vs k' p') env=pure (some (BV sc ts))/\is.map (λi=>sc.names[i]?)=(BV sc ts).map λx=>some (x,NameKind.local):=by
 unfold Pt at h
 simp only[Bool.and_eq_true] at h
 obtain⟨⟨⟨⟨⟨⟨⟨h1,h2⟩,h3⟩,h4⟩,h5⟩,h6⟩,h7⟩,h8⟩:=h
 refine⟨?_,of_decide_eq_true h8⟩
 have hb:env.blockKind= .function:=by unfold Env.blockKind;rw[hk];rfl
 have key:swappedStores [.Tuple ts k p] (.Tuple vs k' p') env=(if(!(ts.length==2||ts.length==3)||vs.length != ts.length||env.blockKind != .function)=true then pure none
  else if vs.any I9=true then pure none
  else if((BV env.scope ts).length != ts.length||(BV env.scope ts).eraseDups.length != (BV env.scope ts).length)=true then pure none
  else if vs.all (foldedForSure 8)=true then pure none
  else if vs.all (constantsAlone 8)=true then (do unsupported "assign.tuple-of-constant-expressions:order-of-the-stores";pure (some (BV env.scope ts)))
  else pure (some (BV env.scope ts))):=rfl
 rw[key,he,h1,beq_iff_eq.mp h2,hb,beq_iff_eq.mp h4,beq_iff_eq.mp h5]
 simp only[Bool.not_eq_true'] at h3 h6 h7
 rw[h3,h6,h7,beq_iff_eq.mp h4]
 simp
theorem SK{Q:Unit->Shared->Prop}(he:env.scope=sc):∀(is:List Nat) (xs:List Str) (vs:List Value) (ds:List D) (ρ:Bw) (s:Shared),is.map (λi=>sc.names[i]?)=xs.map (λx=>some (x,NameKind.local))->is.length=ds.length->BP B H s.heap->BQ B env ρ H s.heap->AR s.heap H vs ds ->
  (∀s',BQ B env (Fg is ds ρ) H s'.heap->BP B H s'.heap->ID env H s H s'->Q () s')->wpAny (model B.prog B.w) A (assignInOrder (xs.map λn=>bindName env n) vs) Q B9 s:=by
 intro is
 induction is with
 |nil =>
  intro xs vs ds ρ s ht hl R F r h
  cases xs with
  |cons=>cases ht
  |nil=>cases r with
   |nil=>exact wpAny_assignInOrder_none (h s F R (ID.refl ..))
   |cons=>cases hl
 |cons i is ih =>
  intro xs vs ds ρ s ht hl R F r h
  cases xs with
  |nil=>cases ht
  |cons x xs =>
   refine Ea (List.cons.inj ht) λh1 h2=>?_
   cases r with
   |nil=>cases hl
   |@cons v vs d ds a r =>
    have h1':env.scope.names[i]? = some (x,NameKind.local):=by rw[he];exact h1
    refine wpAny_assignInOrder_more (Pg F R h1' (.inl rfl) a λsb F0a R0a na mv _=>?_)
    exact ih xs _ _ _ _ h2 (by simpa using hl) R0a F0a (I8 r.length λj v d hv hd=>by
     refine BG (r.get hd) λv' e1 e2=>?_
     obtain rfl:=Option.some.inj (hv.symm.trans e1);exact mv e2) λs' F' R' n'=>h s' F' R' (na.trans n')
theorem Zw{ts vs:List Expr}{k k':Nat}{p':Pos}{Ws:Bw->KH->(List D->KH->Prop)->Prop}(hz:vs.length<=1000)(hp:Pt sc ts vs is=true)(h:∀ρ,LV B n sc ρ vs (Ws ρ)) :
  F4 B n sc (exec (.Assign [.Tuple ts k p] (.Tuple vs k' p') pos)) (λρ H K=>Ws ρ H λds H=>is.length=ds.length/\K .next (Fg is.reverse ds.reverse ρ) H):=by
 intro env ρ H K A s he rm R F kk
 refine Ea (SJ (env:=env) (k:=k) (k':=k') (p:=p) (p':=p') he F.ok.kind hp) λh1 h2=>?_
 refine Assign_Tuple_swapped (Tuple_ (aQ.mo (h ρ env H _ A s p' he rm R F kk) λus s0 ds H0c y R0e nh l₀ k0g=>?_)) rfl h1
 refine wpAny_mono (L0 (K:=λd H=>d= .tup ds/\H=H0c) R0e y (by rw[y.length,sizeLine_eq];exact AA [_,_] [] [.e Aa Ab,.l Ab Aj] (.l Aa Au) rfl l₀ hz) ⟨rfl,rfl⟩) (λv sb ⟨d,H0a,x,R0a,n1',e1,e2⟩=>?_) λ_ _ x=>x
 subst e1 e2
 have na:=nh.trans n1'
 ·refine Ea k0g λhl k0a=>?_
  refine x.tupE ?_
  ·intro a ws m e q l r
   have hlen:(BV sc ts).length=ws.toArray.size:=by
    have:=congrArg List.length h2
    simp only[List.length_map] at this
    rw[List.size_toArray,r.length,←hl,this]
   rw[hlen]
   refine unpackItems_tuple (items:=ws.toArray) rm.hd ⟨_,e,rfl,m,rfl⟩ λh' hx=>?_
   have hx':∀a o,sb.heap.get? a=some o->h'.get? a=some o:=λa o e=>hx a o (Nat.ne_of_lt (Heap.lt_size e)) e
   have ng:Nx H0a sb H0a {sb with heap:=h'}:=⟨⟨h',sb.toks,rfl⟩,BE.ext hx'⟩
   refine SK he is.reverse _ _ ds.reverse ρ {sb with heap:=h'} ?_ (by simpa using hl) (R0a.ext hx') ((F.step na.2).step ng.2) (r.step ng.2).reverse λs' F' R' n'=>⟨_,H0a,(na.trans ng).toF.trans n',R',F',k0a⟩
   rw[List.map_reverse,List.map_reverse,h2]
inductive WL(B:Base)(env:Env)(H:KH)(s:Shared)(Z:Nat->Bw->KH->Prop)(k:Nat)(s':Shared):Prop
 |mk (ρ':Bw) (H':KH) (n:ID env H s H' s') (R:BP B H' s'.heap) (F:BQ B env ρ' H' s'.heap) (g:Z k ρ' H')
theorem V4{b:List Stmt}{Wt:Bw->W1}(ht:∀ρ,LP B n sc ρ e (Wt ρ))(hb:F4 B n sc (execs b) WB):F4 B n sc (exec (.While e b [] pos)) (λρ H K=>∃m,Cw Wt WB m ρ H K):=by
 intro env ρ H K A s he rm R F ⟨m,k⟩
 refine wpAny_While (codeAny_whileLoop (R:=λr s'=>match r with| .ok f=>PS B env H s K f s'| .error e=>cameBackBy (model B.prog B.w) A env B9 e s')
  (WL B env H s λk ρ' H'=>Cw Wt WB k ρ' H' K) ?_ m ⟨ρ,H,ID.refl ..,R,F,k⟩)
 rintro k s' ⟨ρ',H',n',R',F',g⟩
 cases k with
 |zero=>exact g.elim
 |succ k =>
  refine PB.mo (ht ρ' env H' _ A s' he rm R' F' g) λc sb H0a R0a na k0a=>?_
  have F0a:=F'.step na.2
  have n1':=n'.trans na.toF
  cases c with
  |false=>exact wpAny_execs_nil ⟨ρ',H0a,n1',R0a,F0a,k0a⟩
  |true =>
   refine PS.mo (hb env ρ' H0a _ A sb he rm R0a F0a k0a) λf se ρ2 H0b ng R0b F0c k0b=>?_
   cases f with
   |next=>exact⟨k,Nat.lt_succ_self _,ρ2,H0b,n1'.trans ng,R0b,F0c,k0b⟩
   |cont=>exact⟨k,Nat.lt_succ_self _,ρ2,H0b,n1'.trans ng,R0b,F0c,k0b⟩
   |brk=>exact⟨ρ2,H0b,n1'.trans ng,R0b,F0c,k0b⟩
   |ret v =>
    refine BG k0b λd hd k0b=>?_
    exact⟨ρ2,H0b,n1'.trans ng,R0b,F0c,d,hd,k0b⟩
inductive FL(B:Base)(env:Env)(H0c:KH)(s0:Shared)(fp:List Addr)(B3:Heap->KH->Prop)(St:Nat->Heap->Prop)(len:Nat)(Z:Nat->Bw->KH->Prop)(k:Nat)(s':Shared):Prop
 |mk (i:Nat) (ρ':Bw) (H':KH) (e:k=len-i) (hi:i<=len) (n:ID env H0c s0 H' s') (R:BP B H' s'.heap) (F:BQ B env ρ' H' s'.heap) (st:St i s'.heap) (iv:B3 s'.heap H') (hfp:∀b∈fp,H' b=none) (g:Z i ρ' H')
theorem dL{b:List Stmt}{items:List D}{fp wr:List Addr}{B3:Heap->KH->Prop}{St:Nat->Heap->Prop}{ρ:Bw}{H0c:KH}{K:KS}{R:Result->Shared->Prop}
  (W:F0 B A tgt I items fp wr B3 St) (ht:GO sc T tgt=true) (hb:F4 B n sc (execs b) WB) (he:env.scope=sc) (rm:Rm n A) (Rp:BP B H s.heap) (F:BQ B env ρ H s.heap) (nh:ID env H0c s0 H s)
  (st:St 0 s.heap) (iv:B3 s.heap H) (hfp:∀b∈fp,H b=none) (hw0:∀b∈wr,B.h0a.get? b=none) (hws:∀b∈wr,∀o,s0.heap.get? b=some o->H0c b=none->False) (k:Bm WB T items ρ H K) (hR:∀f s',PS B env H0c s0 K f s'->R (.ok f) s') :
  codeAny (model B.prog B.w) A (.forLoop tgt (.ref I) b [] env) R s:=by
 refine codeAny_forLoop_any (FL B env H0c s0 fp B3 St items.length λi ρ' H'=>Bm WB T (items.drop i) ρ' H' K) ?_ items.length
  ⟨0,ρ,H,rfl,Nat.zero_le _,nh,Rp,F,st,iv,hfp,k⟩
 rintro k s' ⟨i,ρ',H',rfl,hi,n',R',F',st',iv',hfp',g⟩
 have turn:∀s'':Shared,(∃h tk,s''={s' with heap:=h,toks:=tk})->(∀b o,b∉wr->s'.heap.get? b=some o->s''.heap.get? b=some o)->ID env H0c s0 H' s''/\BP B H' s''.heap/\BQ B env ρ' H' s''.heap/\B3 s''.heap H':=by
  rintro s'' ⟨h,tk,rfl⟩ hk
  have hS:∀b,b∈wr->Cd s'.heap b:=W.wrs _ _ st'
  have hN:∀b,b∈wr->KL s'.heap b:=λb hb=>W.nofr _ _ st' b (W.sub b hb)
  have kk:∀a o,¬(a∈wr)->s'.heap.get? a=some o->h.get? a=some o:=λa o hb e=>hk a o hb e
  refine⟨⟨?_,⟨λa o e q f=>?_⟩⟩,R'.butX (X:=(·∈wr)) (λb hb=>hfp' b (W.sub b hb)) hw0 hS kk,F'.butX (X:=(·∈wr)) hS hN kk,W.inv (·∈wr) _ _ _ _ hS (Bt.of kk) iv'⟩
  ·obtain⟨⟨h1,t1,rfl⟩,-⟩:=n';exact⟨h,tk,rfl⟩
  ·refine Ea (n'.2.keep a o e q f) λe' q'=>?_
   exact⟨kk a o (λhb=>hws a hb o e q) e',q'⟩
 by_cases hlt:i<items.length
 ·have hd:items[i]? = some items[i]:=List.getElem?_eq_getElem hlt
  rw[List.drop_eq_getElem_cons hlt] at g
  unfold Bm at g
  split at g<;>try exact g.elim
  rename_i ρ1 hb1
  refine wpAny_mono (W.item i s' H' _ (λv sb=>BN sb.heap H' v items[i]/\St (i+1) sb.heap/\(∃h tk,sb={s' with heap:=h,toks:=tk})/\(∀b o,b∉wr->s'.heap.get? b=some o->sb.heap.get? b=some o)) hd st' iv' R'
   λv sb hv st1 hsa hk1=>⟨hv,st1,hsa,hk1⟩) (λr sb hh=>BG hh λv e hr=>?_) λ_ _ x=>x.elim
  subst e
  refine wpAny_mono hr (λ_ se ⟨hv,st1,hsa,hk1⟩=>?_) λ_ _ x=>x.elim
  refine Pf (turn se hsa hk1) λna R0a F0a iv1=>?_
  refine V0 (Er he ht rm R0a F0a hv hb1 λsf F0b R0c n3=>?_)
  refine PS.mo (hb env ρ1 H' _ A sf he rm R0c F0b g) λf si ρ4 H0e n4 R0d F0d k0d=>?_
  have nn:=n3.trans n4
  have again:Bm WB T (items.drop (i+1)) ρ4 H0e K->∃m,m<items.length-i/\FL B env H0c s0 fp B3 St items.length (λi ρ' H'=>Bm WB T (items.drop i) ρ' H' K) m si:=by
   intro g'
   have hk4:∀b∈fp,∀o,se.heap.get? b=some o->si.heap.get? b=some o/\H0e b=none:=λb hb' o e=>nn.2.keep b o e (hfp' b hb') (F0a.notIn (W.nofr _ _ st1 b hb'))
   refine⟨items.length-(i+1),Nat.sub_lt_sub_left hlt (Nat.lt_succ_self _),i+1,ρ4,H0e,rfl,hlt,na.trans nn,R0d,F0d,W.frame _ _ _ st1 λb hb' o e=>(hk4 b hb' o e).1,W.inv (I3 env) _ _ _ _ ?_ ⟨λa o e q f=>nn.2.keep a o e q f⟩ iv1,λb hb'=>?_,g'⟩
   ·rintro a (rfl|⟨y,hk,hc⟩)
    ·refine BG F0a.vals λm hn _=>?_;exact Eg hn
    ·refine CJ (F0a.cells y .cell (DP hk) (.inl rfl)) λc v a' q _=>?_
     obtain rfl:=Option.some.inj (hc.symm.trans a');exact LR q
   ·refine BG (W.nofr _ _ st1 b hb') λo ho _=>?_
    exact(hk4 b hb' o ho).2
  cases f with
  |next=>exact again k0d
  |cont=>exact again k0d
  |brk=>exact hR _ _ ⟨ρ4,H0e,na.trans nn,R0d,F0d,k0d⟩
  |ret v =>
   refine BG k0d λd hd' k0d=>?_
   exact hR _ _ ⟨ρ4,H0e,na.trans nn,R0d,F0d,d,hd',k0d⟩
 ·have hin:i=items.length:=by exact Nat.le_antisymm (AA [_,_] [] [.l Aa Ab] (.l Aa Ab) rfl hi) (AA [_,_] [] [.l Ab Aa] (.l Ab Aa) rfl (Nat.le_of_not_lt hlt))
  subst hin
  rw[List.drop_length] at g
  refine wpAny_mono (W.done s' (λsb=>ID env H0c s0 H' sb/\BP B H' sb.heap/\BQ B env ρ' H' sb.heap/\B3 sb.heap H') st' λsb hs hk=>turn sb hs hk) (λr sb hh=>aS hh λe h1 h2 h3 h4=>?_) λ_ _ x=>x.elim
  subst e
  exact wpAny_execs_nil (hR _ _ ⟨ρ',H',h1,h2,h3,g⟩)
end
inductive Rk(B:Base)(P:Expr->Prop)(A:Around)(H:KH)(s:Shared)(K:List D->KH->Prop)(it:Value)(se:Shared):Prop
 |mk (I:Addr) (items:List D) (H0b:KH) (fp wr:List Addr) (B3:Heap->KH->Prop) (St:Nat->Heap->Prop) (e:it= .ref I) (W:∀tgt,P tgt->F0 B A tgt I items fp wr B3 St) (R:BP B H0b se.heap) (n:Nx H s H0b se) (st:St 0 se.heap) (iv:B3 se.heap H0b) (hfp:∀b∈fp,H0b b=none) (hw0:∀b∈wr,B.h0a.get? b=none) (hws:∀b∈wr,∀o,s.heap.get? b=some o->H b=none->False) (k:K items H0b)
theorem Rk.mo{P:Expr->Prop}{A':Around}{K:List D->KH->Prop}{t:Sem Value}(h:wpAny (model B.prog B.w) A t (Rk B P A' H s K) B9 s0)
  (k:∀it se I items H0b fp wr (B3:Heap->KH->Prop) (St:Nat->Heap->Prop),it= .ref I->(∀tgt,P tgt->F0 B A' tgt I items fp wr B3 St)->BP B H0b se.heap->Nx H s H0b se->St 0 se.heap->B3 se.heap H0b->(∀b∈fp,H0b b=none)->(∀b∈wr,B.h0a.get? b=none)->(∀b∈wr,∀o,s.heap.get? b=some o->H b=none->False)->K items H0b->Q it se) :
  wpAny (model B.prog B.w) A t Q E s0:=wpAny_mono h (λv sb p=>Rk.casesOn (motive:=λ_=>Q v sb) p (k v sb)) λ_ _ x=>x.elim
def Tb(B:Base)(n:Nat)(sc:Scope)(ρ:Bw)(e:Expr)(P:Expr->Prop)(W:KH->(List D->KH->Prop)->Prop):Prop :=
 ∀(env:Env) (H:KH) (K:List D->KH->Prop) (A:Around) (s:Shared),env.scope=sc->Rm n A->BP B H s.heap->BQ B env ρ H s.heap->W H K ->
  wpAny (model B.prog B.w) A (eval e env) (λxv sb=>wpAny (model B.prog B.w) A (pyIter xv) (λit se=>Rk B P A H s K it se) B9 sb) B9 s
section
variable {B:Base} {n:Nat} {sc:Scope} {env:Env} {ρ:Bw} {e a b tgt:Expr} {pos p:Pos} {T:Qb} {W Wa Wb:W1} {WI:KH->(List D->KH->Prop)->Prop} {P:Expr->Prop} {WB:WS}
theorem Nx.fresh(n:Nx H s H' s'){a:Addr}(h:s'.heap.get? a=none):∀o,s.heap.get? a=some o->H a=none->False:=λo e q=>by
 rw[(n.2.keep a o e q).1] at h;exact sN h
theorem Zx(hW:∀H K,WI H K->W H λd H=>match d with| .tup ds=>K ds H| .lst ds=>K ds H|_=>False)(h:B4 B n sc ρ (eval e) W):Tb B n sc ρ e (λ_=>True) WI:=by
 intro env H K A s he rm R F k
 refine PV.mo (h env H _ A s he rm R F (hW H K k)) λv sb d H0a x R0a na k0a=>?_
 have hx:=CE (h:=sb.heap)
 have hI:sb.heap.get? sb.heap.objs.size=none:=Bq
 cases x with
 |@tup a vs m ds e q l r =>
  refine wpAny_pyIter_tuple (items:=vs.toArray) ⟨_,e,rfl,m,rfl⟩ ?_
  have hne:a≠sb.heap.objs.size:=Nat.ne_of_lt (Heap.lt_size e)
  refine⟨_,ds,H0a,_,_,_,_,rfl,λtgt _=>Qt rm hne r.length,R0a.ext (hx _),na.trans ⟨⟨_,sb.toks,rfl⟩,BE.ext (hx _)⟩,⟨⟨_,Heap.get?_push_size _ rfl,rfl,rfl⟩,⟨_,hx _ _ _ e,rfl,m,rfl⟩⟩,r.step (BE.ext (hx _)),λb hb=>?_,λb hb=>?_,λb hb o e=>?_,k0a⟩
  ·simp at hb
   rcases hb with rfl|rfl
   ·exact R0a.free
   ·exact q
  ·simp at hb;subst hb
   exact(By R0a hI).2
  ·simp at hb;subst hb
   exact na.fresh hI o e
 |@lst a vs m ds e q l r =>
  refine wpAny_pyIter_list (items:=vs.toArray) ⟨_,e,rfl,m,rfl⟩ ?_
  have hne:a≠sb.heap.objs.size:=Nat.ne_of_lt (Heap.lt_size e)
  refine⟨_,ds,H0a,_,_,_,_,rfl,λtgt _=>SC rm hne r.length,R0a.ext (hx _),na.trans ⟨⟨_,sb.toks,rfl⟩,BE.ext (hx _)⟩,⟨⟨_,Heap.get?_push_size _ rfl,rfl,rfl⟩,⟨_,hx _ _ _ e,rfl,m,rfl⟩⟩,r.step (BE.ext (hx _)),λb hb=>?_,λb hb=>?_,λb hb o e=>?_,k0a⟩
  ·simp at hb
   rcases hb with rfl|rfl
   ·exact R0a.free
   ·exact q
  ·simp at hb;subst hb
   exact(By R0a hI).2
  ·simp at hb;subst hb
   exact na.fresh hI o e
 |_=>exact k0a.elim
theorem NO{K:List D->KH->Prop}(rm:Rm n A)(h:PR B H s (λi j H=>BA i/\BA j/\K (Internal.upto i j) H) v sb) :
  wpAny (model B.prog B.w) A (pyIter v) (λit se=>Rk B (λ_=>True) A H s K it se) B9 sb:=by
 obtain⟨i,j,r,t,u,z,H0a,rfl,hr,R0a,na,hi,hj,k0a⟩:=h
 have hx:=CE (h:=sb.heap)
 have hI:sb.heap.get? sb.heap.objs.size=none:=Bq
 refine wpAny_pyIter_range hr (Qk hi.1 hi.2 hj.1 hj.2) ?_
 rw[Vi]
 refine⟨_,Internal.upto i j,H0a,_,_,_,_,rfl,λtgt _=>Qu (a:=i) (b:=j) rm,R0a.ext (hx _),na.trans ⟨⟨_,sb.toks,rfl⟩,BE.ext (hx _)⟩,?_,trivial,λb hb=>?_,λb hb=>?_,λb hb o e=>?_,k0a⟩
 ·have e1:i+((0:Nat):Int)*1=i:=by simp
  have e2:((j-i).toNat:Int)-((0:Nat):Int)=((j-i).toNat:Int):=by exact Int.le_antisymm (AA [_] [] [] (.L (.s Ag (.c Am)) Ag) rfl) (AA [_] [] [] (.L Ag (.s Ag (.c Am))) rfl)
  rw[e1,e2]
  exact Heap.get?_push_size _ rfl
 ·simp at hb;subst hb;exact R0a.free
 ·simp at hb;subst hb;exact(By R0a hI).2
 ·simp at hb;subst hb;exact na.fresh hI o e
theorem SL(hx:sc.names.lookup ("range":Str)=some .globalImplicit)(hp:Be a=true)(ha:B4 B n sc ρ (eval a) Wa) :
  Tb B n sc ρ (.Call (.Name ("range":Str) np) [a] [] pos) (λ_=>True) (λH K=>Wa H λd H=>match d with| .int j=>BA j/\K (Internal.upto 0 j) H|_=>False):=by
 intro env H K A s he rm R F k
 refine wpAny_mono (gm (K:=λi j H=>BA j/\K (Internal.upto i j) H) hx hp ha he rm R F k) (λv sb h=>NO rm ?_) λ_ _ x=>x
 obtain⟨i,j,r,t,u,z,H0a,e,hr,R0a,na,rfl,hj,k0a⟩:=h
 exact⟨0,j,r,t,u,z,H0a,e,hr,R0a,na,⟨by decide,by decide⟩,hj,k0a⟩
theorem SM(hx:sc.names.lookup ("range":Str)=some .globalImplicit)(hp:Be a=true)(hp':Be b=true)(ha:B4 B n sc ρ (eval a) Wa)(hb:B4 B n sc ρ (eval b) Wb) :
  Tb B n sc ρ (.Call (.Name ("range":Str) np) [a,b] [] pos) (λ_=>True) (λH K=>Wa H λd H=>Wb H λe H=>match d,e with| .int i,.int j=>BA i/\BA j/\K (Internal.upto i j) H|_,_=>False):=by
 intro env H K A s he rm R F k
 exact wpAny_mono (Vx (K:=λi j H=>BA i/\BA j/\K (Internal.upto i j) H) hx hp hp' ha hb he rm R F k) (λv sb h=>NO rm h) λ_ _ x=>x
theorem V5(hx:sc.names.lookup ("enumerate":Str)=some .globalImplicit)(hp:Be a=true)(ha:B4 B n sc ρ (eval a) Wa) :
  Tb B n sc ρ (.Call (.Name ("enumerate":Str) np) [a] [] pos) (λt=>∃es k p,t= .Tuple es k p) (λH K=>Wa H λd H=>match d with| .tup ds=>K (Bc 0 ds) H|_=>False):=by
 intro env H K A s he rm R F k
 have hk:env.kindOf ("enumerate":Str)=some .globalImplicit:=by subst he;exact hx
 have hpl:BH [a]=true:=by unfold BH;rw[hp];rfl
 show wpAny _ A (do let fv ←eval (.Name "enumerate" np) env;callWith pos fv [] (backTo pos (starEach [a] env)) []) _ _ _
 refine wpAny_bind (Do R F hk rfl (B.nb _ (by simp[C6])) (by decide) NJ ?_)
 refine DZ DT hpl (Cz (λenv=>CB hp env) ha Eh) he rm R F (K:=λds H=>match MW ds with| .tup ds=>K (Bc 0 ds) H|_=>False) k ?_
 intro vs ds H0a sb y R0a na l₁ k0a
 refine Ex (UR l₁) λd mN=>?_;subst mN
 dsimp only[MW] at k0a
 split at k0a<;>try exact k0a.elim
 rename_i ds
 refine BG y.one λv mN q=>?_;subst mN
 refine q.tupE ?_
 ·intro ax vs m e q l r
  show wpAny _ A (call (.type "enumerate") [.ref ax]) _ _ _
  refine IH (items:=vs.toArray) ⟨_,e,rfl,m,rfl⟩ λh' hE hI hsz hk=>?_
  refine wpAny_pyIter_enum (s:={sb with heap:=h'}) hE ?_
  have hlt:ax<sb.heap.objs.size:=Heap.lt_size e
  have f0:sb.heap.get? sb.heap.objs.size=none:=Bq
  have f1:sb.heap.get? (sb.heap.objs.size+1)=none:=by
   cases q:sb.heap.get? (sb.heap.objs.size+1) with
   |none=>rfl
   |some o=>exact absurd (Heap.lt_size q) (Nat.not_lt.mpr (Nat.le_succ _))
  refine⟨sb.heap.objs.size+1,Bc 0 ds,H0a,[sb.heap.objs.size+1,sb.heap.objs.size,ax],[sb.heap.objs.size+1,sb.heap.objs.size],λh H=>AR h H vs ds,λi h=>(∃old,IsEnum h (sb.heap.objs.size+1) sb.heap.objs.size i old)/\h.IsTupleIter sb.heap.objs.size ax i/\h.IsTuple ax vs.toArray,rfl,?_,R0a.ext hk,na.trans ⟨⟨h',sb.toks,rfl⟩,BE.ext hk⟩,⟨⟨_,hE⟩,hI,⟨_,hk _ _ e,rfl,m,rfl⟩⟩,r.step (BE.ext hk),λb hb=>?_,λb hb=>?_,λb hb o e=>?_,k0a⟩
  ·rintro tgt ⟨es,kk,p,rfl⟩
   exact SD rm (Nat.succ_ne_self _) (Nat.ne_of_lt hlt) (Nat.ne_of_lt (Nat.lt_succ_of_lt hlt)) r.length
  ·simp at hb
   rcases hb with rfl|rfl|rfl
   ·exact(By R0a f1).1
   ·exact R0a.free
   ·exact q
  ·simp at hb
   rcases hb with rfl|rfl
   ·exact(By R0a f1).2
   ·exact(By R0a f0).2
  ·simp at hb
   rcases hb with rfl|rfl
   ·exact na.fresh f1 o e
   ·exact na.fresh f0 o e
noncomputable def HP:Expr->Bool
 |.Set .. => false
 |_=>true
theorem IK{x:Value}(h:HP e=true):foldedSetIterable e env x=pure x:=by
 cases e<;>first|rfl|cases h
theorem dM{st:List Stmt}{WI:Bw->KH->(List D->KH->Prop)->Prop}(hs:HP e=true)(hI:∀ρ,Tb B n sc ρ e P (WI ρ))(hP:P tgt)(ht:GO sc T tgt=true)(hb:F4 B n sc (execs st) WB) :
  F4 B n sc (exec (.For tgt e st [] pos)) (λρ H K=>WI ρ H λitems H=>Bm WB T items ρ H K):=by
 intro env ρ H K A s he rm R F k
 refine wpAny_For (wpAny_mono (hI ρ env H _ A s he rm R F k) (λxv sb h0b=>Rk.mo h0b λit se I items H0b fp wr B3 St e1 W R0b ng st iv hfp hw0 hws k0b=>?_) λ_ _ x=>x) (λx=>IK hs)
 subst e1
 exact dL (W tgt hP) ht hb he rm R0b (F.step ng.2) ng.toF st iv hfp hw0 hws k0b λf s' h=>h
end
noncomputable def JM(env:Env):List (Str×NameKind)->List (Str×Addr)->List (Str×Addr)
 |[],acc=>acc
 |(x,k)::r,acc=>JM env r (if k == .free then (x,(env.cells.lookup x).getD 0)::acc else acc)
theorem SN{scope:Scope}(h:∀x k,(x,k)∈scope.names->k= .free->∃c,env.cells.lookup x=some c):closureFor scope env=pure (JM env scope.names []):=by
 have key:∀(l:List (Str×NameKind)) (acc:List (Str×Addr)),(∀x k,(x,k)∈l->k= .free->∃c,env.cells.lookup x=some c) ->
   (forIn l acc λx r=>match x with|(name,kind)=>if(kind==NameKind.free)=true then do let c ←cellOf env name;pure (ForInStep.yield ((name,c)::r)) else pure (ForInStep.yield r))=(pure (JM env l acc):Sem _):=by
  intro l
  induction l with
  |nil=>intro acc _;rfl
  |cons p r ih =>
   intro acc hl
   obtain⟨x,k⟩:=p
   rw[List.forIn_cons]
   have hr:=λx' k' (hm:(x',k')∈r)=>hl x' k' (List.mem_cons_of_mem _ hm)
   by_cases hk:(k==NameKind.free)=true
   ·refine Ex (hl x k (List.mem_cons_self ..) (by simpa using hk)) λc hc=>?_
    have e:cellOf env x=pure c:=by unfold cellOf;rw[hc]
    simp only[hk,if_true,e,pure_bind]
    rw[ih _ hr]
    simp only[JM,hk,if_true,hc,Option.getD_some]
   ·simp only[hk,if_false,pure_bind,Bool.false_eq_true]
    rw[ih _ hr]
    simp only[JM,hk,if_false,Bool.false_eq_true]
 unfold closureFor
 show(forIn scope.names [] _>>=pure)=_
 rw[bind_pure]
 exact key _ _ h
theorem L6{y:Str}{c:Addr}:∀{l:List (Str×NameKind)} {acc:List (Str×Addr)},(JM env l acc).lookup y=some c->acc.lookup y=some c\/((y,NameKind.free)∈l/\c=(env.cells.lookup y).getD 0)
 |[],acc,h=>.inl h
 |(x,k)::r,acc,h=>by
  rcases L6 (l:=r) h with h|⟨h1,h2⟩
  ·split at h
   ·rename_i hk
    rw[List.lookup_cons] at h
    split at h
    ·rename_i e
     obtain rfl:=Option.some.inj h
     obtain rfl:=beq_iff_eq.mp e
     have:k= .free:=by simpa using hk
     exact .inr ⟨by rw[this];exact List.mem_cons_self ..,rfl⟩
    ·exact .inl h
   ·exact .inl h
  ·exact .inr ⟨List.mem_cons_of_mem _ h1,h2⟩
theorem Qw{y:Str}:∀{l:List (Str×NameKind)} {acc:List (Str×Addr)},((y,NameKind.free)∈l\/acc.lookup y=some ((env.cells.lookup y).getD 0))->(JM env l acc).lookup y=some ((env.cells.lookup y).getD 0)
 |[],acc,h=>by
  rcases h with h|h
  ·cases h
  ·exact h
 |(x,k)::r,acc,h=>by
  unfold JM
  refine Qw ?_
  by_cases hyx:y=x
  ·subst hyx
   rcases h with h|h
   ·rcases List.mem_cons.mp h with h|h
    ·cases h
     refine .inr ?_
     simp
    ·exact .inl h
   ·refine .inr ?_
    split
    ·simp
    ·exact h
  ·rcases h with h|h
   ·rcases List.mem_cons.mp h with h|h
    ·cases h;exact absurd rfl hyx
    ·exact .inl h
   ·refine .inr ?_
    split
    ·rw[List.lookup_cons]
     have:(y==x)=false:=by simpa using hyx
     rw[this];exact h
    ·exact h
noncomputable def Qx(sc:Scope)(p:Str×NameKind)(c:Option Nat):Bool:=match p.2,c with
 |.free,some j=>(match sc.names[j]? with
  |some (y,.cell)=>p.1==y
  |some (y,.free)=>p.1==y
  |_=>false)
 |.free,none=>false
 |.cell,_=>false
 |_,c=>c.isNone
def IL(sc scope:Scope)(caps:List (Option Nat)):Bool :=
 scope.kind == .function&&decide ((scope.names.map (·.1)).Nodup)&&(caps.length==scope.names.length)&&(scope.names.zip caps).all λpc=>Qx sc pc.1 pc.2
noncomputable def F5(sc scope:Scope):Scope :=
 {scope with names:=scope.names.map λ(n,k)=>if(k == .free&&sc.kind == .function&&sc.names.lookup n==some .cell) then (n,.cell) else (n,k)}
noncomputable def Pu(sc:Scope)(n:Str)(k:NameKind):NameKind:=if(k == .free&&sc.kind == .function&&sc.names.lookup n==some .cell) then .cell else k
theorem SO(sc scope:Scope):(F5 sc scope).names=scope.names.map λp=>(p.1,Pu sc p.1 p.2):=by
 unfold F5
 refine List.map_congr_left λp _=>?_
 obtain⟨n,k⟩:=p
 show(if _ then _ else _)=_
 unfold Pu
 split<;>rfl
theorem Jm{sc:Scope}{c:Option Nat}(h:Qx sc (x,.free) c=true):∃j k,c=some j/\sc.names[j]? = some (x,k)/\(k= .cell\/k= .free):=by
 cases c with
 |none=>cases h
 |some j =>
  simp only[Qx] at h
  split at h
  ·rename_i y e;obtain rfl:=beq_iff_eq.mp h;exact⟨j,_,rfl,e,.inl rfl⟩
  ·rename_i y e;obtain rfl:=beq_iff_eq.mp h;exact⟨j,_,rfl,e,.inr rfl⟩
  ·exact Jf h
theorem IM{sc:Scope}{k:NameKind}{c:Option Nat}(h:Qx sc (x,k) c=true)(hk:k≠.free):k≠.cell/\c=none:=by
 cases c with
 |none=>exact⟨(by rintro rfl;cases h),rfl⟩
 |some j =>
  exfalso
  cases k<;>first|exact hk rfl|cases h
section
variable {B:Base} {env:Env} {ρ:Bw} {H:KH} {h:Heap} {C:Addr} {m:Str->Option Value} {sc scope:Scope} {caps:List (Option Nat)}
theorem O0(ok:IL sc scope caps=true):scope.kind= .function/\(scope.names.map (·.1)).Nodup/\caps.length=scope.names.length/\∀(i:Nat) p,scope.names[i]? = some p->∃c,caps[i]? = some c/\Qx sc p c=true:=by
 unfold IL at ok
 simp only[Bool.and_eq_true] at ok
 obtain⟨⟨⟨a,b⟩,c⟩,d⟩:=ok
 have hl:caps.length=scope.names.length:=beq_iff_eq.mp c
 refine⟨by simpa using a,of_decide_eq_true b,hl,λi p hi=>?_⟩
 have hlt:i<scope.names.length:=(List.getElem?_eq_some_iff.mp hi).1
 have hc:caps[i]? = some caps[i]:=List.getElem?_eq_getElem (by exact AA [_,_,_] [] [.u Aa Af,.r Ab Af] (.u Aa Ab) rfl hlt hl)
 refine⟨_,hc,?_⟩
 have:=List.all_eq_true.mp d (p,caps[i]) (List.mem_of_getElem? (i:=i) (by rw[List.getElem?_zip_eq_some];exact⟨hi,hc⟩))
 exact this
theorem UX(ok:IL sc scope caps=true)(he:env.scope=sc)(F:BQ B env ρ H h)(hn:h.Ns C m)(hC:H C=none)(h0:B.h0a.get? C=none):BQ B (compEnvC scope (JM env scope.names []) C env) (EJ caps ρ) H h:=by
 refine Pf (O0 ok) λhk hnd hl at_=>?_
 have hnames:(compEnvC scope (JM env scope.names []) C env).scope.names=scope.names.map λp=>(p.1,Pu sc p.1 p.2):=by subst he;exact SO _ _
 have free_:∀x,(x,NameKind.free)∈scope.names->∃c v,env.cells.lookup x=some c/\(JM env scope.names []).lookup x=some c/\h.IsCell c v/\H c=none/\(sc.names.lookup x=some .cell->B.h0a.get? c=none):=by
  intro x hx
  refine Ex (List.mem_iff_getElem?.mp hx) λi hi=>?_
  refine BG (at_ i _ hi) λc hc hck=>?_
  refine CJ (Jm hck) λj k mN hj hkk=>?_;subst mN
  subst he
  have hm:=List.mem_of_getElem? hj
  refine DX (F.cells x k hm hkk) λc v a b e z=>?_
  refine⟨c,v,a,?_,b,e,λhcell=>?_⟩
  ·have:=Qw (env:=env) (y:=x) (l:=scope.names) (acc:=[]) (.inl hx)
   rw[a] at this;exact this
  ·have:=Cg F.ok.nodup hj
   obtain rfl:=Option.some.inj (hcell.symm.trans this)
   exact z rfl
 have hcl:∀y c,(JM env scope.names []).lookup y=some c->env.cells.lookup y=some c:=by
  intro y c hy
  rcases L6 hy with h|⟨h1,h2⟩
  ·cases h
  ·refine M5 (free_ y h1) λc' v a _=>?_
   rw[a] at h2;rw[a,h2];rfl
 have Ie:∀x k',(x,k')∈(compEnvC scope (JM env scope.names []) C env).scope.names->(k'= .cell\/k'= .free)->(x,NameKind.free)∈scope.names/\(k'= .cell->sc.names.lookup x=some .cell):=by
  intro x k' hm hk'
  rw[hnames] at hm
  obtain⟨⟨y,k⟩,hy,e⟩:=List.mem_map.mp hm
  cases e
  have hkf:k= .free:=by
   refine Ex (List.mem_iff_getElem?.mp hy) λi hi=>?_
   refine BG (at_ i _ hi) λc hc hck=>?_
   by_cases hkf:k= .free
   ·exact hkf
   ·have:=(IM hck hkf).1
    exfalso
    have hrel:Pu sc y k=k:=by unfold Pu;rw[if_neg];simp[hkf]
    rcases hk' with h|h
    ·rw[hrel] at h;exact this h
    ·rw[hrel] at h;exact hkf h
  subst hkf
  refine⟨hy,λhc=>?_⟩
  unfold Pu at hc
  split at hc
  ·rename_i hh;simp only[Bool.and_eq_true] at hh;simpa using hh.2
  ·cases hc
 refine⟨⟨hk,F.ok.glob,F.ok.blt,?_,λx y c hx hy=>F.ok.inj x y c (hcl _ _ hx) (hcl _ _ hy)⟩,?_,hC,h0,λx k' hm hk'=>?_,m,hn,λi x k' d hi hρ hv=>?_⟩
 ·rw[hnames,List.map_map];exact hnd
 ·rw[hnames,List.length_map];unfold EJ;rw[List.length_map];exact hl
 ·refine Ea (Ie x k' hm hk') λh1 h2=>?_
  refine Mp (free_ x h1) λc v a b e z w=>?_
  exact⟨c,v,b,e,z,λhc=>w (h2 hc)⟩
 ·unfold EJ at hρ
  rw[List.getElem?_map] at hρ
  cases hci:caps[i]? with
  |none=>rw[hci] at hρ;cases hρ
  |some c =>
   rw[hci] at hρ
   cases c with
   |none=>cases hρ
   |some j =>
    have hρ':GM ρ j=some d:=by simpa using hρ
    have hlt:i<scope.names.length:=by
     have:=(List.getElem?_eq_some_iff.mp hi).1;rwa [hnames,List.length_map] at this
    refine BG (at_ i _ (List.getElem?_eq_getElem hlt)) λc' hc' hck=>?_
    obtain rfl:=Option.some.inj (hci.symm.trans hc')
    have hi':(Pu sc scope.names[i].1 scope.names[i].2,scope.names[i].1)=(k',x):=by
     rw[hnames,List.getElem?_map,List.getElem?_eq_getElem hlt] at hi
     cases hi;rfl
    have hfree:scope.names[i].2= .free:=by
     by_cases hf:scope.names[i].2= .free
     ·exact hf
     ·have:=(IM (x:=scope.names[i].1) (k:=scope.names[i].2) hck hf).2;exact sN this
    have hx:scope.names[i]=(x,NameKind.free):=by
     have e1:scope.names[i].1=x:=congrArg Prod.snd hi'
     rw[←e1,←hfree]
    rw[hx] at hck
    refine CJ (Jm hck) λj' k e1 hj hkk=>?_
    obtain rfl:=Option.some.inj e1
    subst he
    have hρj:ρ[j]? = some (some d):=by
     unfold GM at hρ'
     cases e:ρ[j]? with
     |none=>rw[e] at hρ';cases hρ'
     |some o=>rw[e] at hρ';cases o with
      |none=>cases hρ'
      |some d'=>cases hρ';rfl
    refine BG F.vals λm' hm' vals=>?_
    refine BG (vals j x k d hj hρj (by rcases hkk with rfl|rfl<;>rfl)) λv a q=>?_
    have hcell:∃c,env.cells.lookup x=some c/\h.IsCell c (some v):=by rcases hkk with rfl|rfl<;>exact a
    refine BG hcell λc hc1 hc2=>?_
    have hmem:(x,NameKind.free)∈scope.names:=hx▸List.getElem_mem hlt
    have hcl2:(JM env scope.names []).lookup x=some c:=by
     refine CJ (free_ x hmem) λc2 v2 a2 b2 _=>?_
     obtain rfl:=Option.some.inj (hc1.symm.trans a2);exact b2
    refine⟨v,?_,q⟩
    have hk'':k'=Pu env.scope x .free:=by
     have:=congrArg Prod.fst hi'
     rw[hx] at this;exact this.symm
    subst hk''
    unfold Pu
    split
    ·exact⟨c,hcl2,hc2⟩
    ·exact⟨c,hcl2,hc2⟩
end
section
variable {prog:Program} {w:World} {A:Around} {R:Result->Shared->Prop} {s:Shared} {env:Env}
theorem OR{elt target iter:Expr}{ifs:List Expr}{scope:Scope}{pos:Pos}{it acc:Value}(I:Nat->Shared->Prop)
  (turn:∀n s,I n s->wpAny (model prog w) A (pyNext it) (λr sb=>match r with
   |none=>R (.ok .next) sb
   |some v=>wpAny (model prog w) A (letOwnedTupleGo target it v) (λ_ s1'=>wpAny (model prog w) A (assign target env v) (λ_ se =>
     wpAny (model prog w) A (forIn ifs true λc r=>if r=true then do let ok ←isTrue c env (eval c env);pure (ForInStep.yield ok) else pure (ForInStep.yield r)) (λok sf =>
      if ok=true then wpAny (model prog w) A (eval elt env) (λx si =>
       wpAny (model prog w) A (call (.builtin "list.append") [acc,x]) (λ_ sj=>∃m,m<n/\I m sj) B9 si) B9 sf
      else ∃m,m<n/\I m sf) B9 se) B9 s1') B9 sb) B9 s)
  (n:Nat) (h:I n s):codeAny (model prog w) A (.compLoop (.ListComp elt [⟨target,iter,ifs,0⟩] scope pos) 0 it acc env) R s:=by
 refine codeAny_loop rfl I (λn s hI=>?_) n h
 show wpAny _ A ((compTurn (.ListComp elt [⟨target,iter,ifs,0⟩] scope pos) 0 it acc env).onRaise (λx=>do noteFrame x env;theTreesLotGoes x)) _ _ s
 refine wpAny_noted ?_
 rw[compTurn_list]
 refine wpAny_bind (wpAny_standAt (wpAny_bind (wpAny_mono (turn n s hI) (λr sb h0b=>?_) λ_ _ h'=>h'.elim)))
 cases r with
 |none=>exact wpAny_pure h0b
 |some v =>
  refine wpAny_bind (wpAny_mono h0b (λ_ s1' h'a=>?_) λ_ _ h'=>h'.elim)
  refine wpAny_bind (wpAny_mono h'a (λ_ se h0c=>wpAny_bind (wpAny_mono h0c (λok sf h0f=>?_) λ_ _ h'=>h'.elim)) λ_ _ h'=>h'.elim)
  cases ok with
  |false=>exact wpAny_pure ⟨rfl,h0f⟩
  |true =>
   exact wpAny_bind (wpAny_bind (wpAny_mono h0f (λx si h0e=>wpAny_bind (wpAny_mono h0e (λ_ sj h0d=>wpAny_pure (wpAny_pure ⟨rfl,h0d⟩)) λ_ _ h'=>h'.elim)) λ_ _ h'=>h'.elim))
theorem SP(elt t1 i1 t2 i2:Expr)(scope:Scope)(pos:Pos)(it acc:Value)(env:Env) :
  compTurn (.ListComp elt [⟨t1,i1,[],0⟩,⟨t2,i2,[],0⟩] scope pos) 0 it acc env=(standAt i1.pos>>=λ_=>pyNext it>>=λr=>match r with
   |none=>pure (.done .next)
   |some v=>letOwnedTupleGo t1 it v>>=λ_=>assign t1 env v>>=λ_ =>
    (eval i2 env>>=λx=>standAt i2.pos>>=λ_=>foldedSetIterable i2 env x>>=λx=>holding [x] (pyIter x)>>=λit2 =>
     runOwn (.compStart (.ListComp elt [⟨t1,i1,[],0⟩,⟨t2,i2,[],0⟩] scope pos) 1 it2 acc env) env>>=λ_ =>
     again (.compLoop (.ListComp elt [⟨t1,i1,[],0⟩,⟨t2,i2,[],0⟩] scope pos) 0 it acc env))):=by rfl
theorem SQ(elt t1 i1 t2 i2:Expr)(scope:Scope)(pos:Pos)(it acc:Value)(env:Env) :
  compTurn (.ListComp elt [⟨t1,i1,[],0⟩,⟨t2,i2,[],0⟩] scope pos) 1 it acc env=(standAt i2.pos>>=λ_=>pyNext it>>=λr=>match r with
   |none=>pure (.done .next)
   |some v=>letOwnedTupleGo t2 it v>>=λ_=>assign t2 env v>>=λ_ =>
    (eval elt env>>=λx=>call (.builtin "list.append") [acc,x]>>=λ_=>pure ())>>=λ_ =>
     again (.compLoop (.ListComp elt [⟨t1,i1,[],0⟩,⟨t2,i2,[],0⟩] scope pos) 1 it acc env)):=by rfl
end
noncomputable def aY:NameKind->Bool
 |.local=>true
 |_=>false
theorem V6{k:NameKind}(h:aY k=true):k= .local:=by cases k<;>first|rfl|exact Jf h
def Mt(sc:Scope)(i:Nat)(e:Expr):Bool:=Zp (dH e) λx=>Zp sc.names[i]? λq=>x==q.1&&aY q.2
noncomputable def IN(sc:Scope):List Nat->List Expr->Bool
 |[],[]=>true
 |i::is,e::es=>Mt sc i e&&IN sc is es
 |_,_=>false
noncomputable def Dp(sc:Scope):Qb->Expr->Bool
 |.v i,e=>Mt sc i e
 |.t is,e=>Zp (V1 e) λes=>IN sc is es
theorem Jn{sc:Scope}(h:Mt sc i e=true):∃x p,e= .Name x p/\sc.names[i]? = some (x,.local):=by
 refine BG (II h) λx h1 h=>?_
 refine BG (II h) λq h2 h=>?_
 refine Ea (Bool.and_eq_true_iff.mp h) λh3 h4=>?_
 refine Ex (TY h1) λp e=>?_
 exact⟨x,p,e,h2.trans (congrArg some (Prod.ext (beq_iff_eq.mp h3).symm (V6 h4)))⟩
noncomputable def L7(env:Env)(s s':Shared):Prop:=(∃h tk,s'={s with heap:=h,toks:=tk})/\∀a o,a≠env.locals->s.heap.get? a=some o->s'.heap.get? a=some o
theorem L7.trans{se:Shared}(x:L7 env s sb)(y:L7 env sb se):L7 env s se:=by
 obtain⟨⟨h1,t1,rfl⟩,a⟩:=x
 obtain⟨⟨h2,t2,rfl⟩,b⟩:=y
 exact⟨⟨h2,t2,rfl⟩,λc o hc e=>b c o hc (a c o hc e)⟩
section
variable {B:Base} {n:Nat} {sc:Scope} {env:Env} {ρ:Bw} {H:KH} {A:Around} {s:Shared} {tgt:Expr} {T:Qb}
theorem O2{p:Pos}{Q:Unit->Shared->Prop}(he:env.scope=sc)(hi:sc.names[i]? = some (x,.local))(R:BP B H s.heap)(F:BQ B env ρ H s.heap)(hd:BN s.heap H v d)
  (h:∀s',BQ B env (ρ.set i (some d)) H s'.heap->BP B H s'.heap->L7 env s s'->(∀{v d},BN s.heap H v d->BN s'.heap H v d)->Q () s'):wpAny (model B.prog B.w) A (assign (.Name x p) env v) Q B9 s:=by
 subst he
 show wpAny _ A (do standAt p;bindName env x v) _ _ _
 exact wpAny_bind (wpAny_standAt (Pg F R hi (.inl rfl) hd λs' a b c d e=>h s' a b ⟨c.1,e rfl⟩ d))
theorem SR{Q:Unit->Shared->Prop}(he:env.scope=sc):∀(is:List Nat) (es:List Expr) (vs:List Value) (ds:List D) (ρ:Bw) (s:Shared),IN sc is es=true->is.length=ds.length->BP B H s.heap->BQ B env ρ H s.heap->AR s.heap H vs ds ->
  (∀s',BQ B env (Fg is ds ρ) H s'.heap->BP B H s'.heap->L7 env s s'->Q () s')->wpAny (model B.prog B.w) A (assignInOrder ((assignEach es env).map (·.2)) vs) Q B9 s:=by
 intro is
 induction is with
 |nil =>
  intro es vs ds ρ s ht hl R F r h
  cases es with
  |cons=>cases ht
  |nil=>cases r with
   |nil=>exact wpAny_assignInOrder_none (h s F R ⟨⟨s.heap,s.toks,rfl⟩,λ_ _ _ e=>e⟩)
   |cons=>cases hl
 |cons i is ih =>
  intro es vs ds ρ s ht hl R F r h
  cases es with
  |nil=>cases ht
  |cons e es =>
   refine Ea (Bool.and_eq_true_iff.mp ht) λh1 h2=>?_
   refine M5 (Jn h1) λx p mN hi=>?_;subst mN
   cases r with
   |nil=>cases hl
   |@cons v vs d ds a r =>
    refine wpAny_assignInOrder_more (O2 he hi R F a λsb F0a R0a na mv=>?_)
    exact ih es _ _ _ _ h2 (by simpa using hl) R0a F0a (I8 r.length λj v d hv hd=>by
     refine BG (r.get hd) λv' e1 e2=>?_
     obtain rfl:=Option.some.inj (hv.symm.trans e1);exact mv e2) λs' F' R' n'=>h s' F' R' (na.trans n')
theorem Qy:∀(is:List Nat) (es:List Expr),IN sc is es=true->(assignEach es env).length=is.length/\(assignEach es env).findIdx? (·.1)=none:=by
 intro is
 induction is with
 |nil =>
  intro es ht
  cases es with
  |nil=>exact⟨rfl,rfl⟩
  |cons=>cases ht
 |cons i is ih =>
  intro es ht
  cases es with
  |nil=>cases ht
  |cons e es =>
   refine Ea (Bool.and_eq_true_iff.mp ht) λh1 h2=>?_
   refine M5 (Jn h1) λx p mN hi=>?_;subst mN
   refine Ea (ih es h2) λh1 h2=>?_
   refine⟨by show(assignEach es env).length+1=_;rw[h1];rfl,?_⟩
   show List.findIdx? _ ((false,assign (.Name x p) env)::assignEach es env)=none
   rw[List.findIdx?_cons,h2];rfl
theorem V7(h:Dp sc (.t is) tgt=true):∃es k p,tgt= .Tuple es k p/\IN sc is es=true:=by
 refine BG (II h) λes h1 h=>?_
 refine OI (Ms h1) λk p e=>?_
 exact⟨es,k,p,e,h⟩
theorem SS{ρ':Bw}{Q:Unit->Shared->Prop}(he:env.scope=sc)(ht:Dp sc T tgt=true)(rm:Rm n A)(R:BP B H s.heap)(F:BQ B env ρ H s.heap)(hd:BN s.heap H v d)(hb:D5 T d ρ=some ρ')
  (h:∀s',BQ B env ρ' H s'.heap->BP B H s'.heap->L7 env s s'->Q () s'):wpAny (model B.prog B.w) A (assign tgt env v) Q B9 s:=by
 cases T with
 |v i =>
  refine M5 (Jn (show Mt sc i tgt=true from ht)) λx p mN hi=>?_;subst mN
  cases hb
  exact O2 he hi R F hd λs' F' R' n' _=>h s' F' R' n'
 |t is =>
  refine J8 (V7 ht) λes k p mN ht=>?_;subst mN
  obtain⟨ds,rfl,hlen,rfl⟩:=Ta hb
  refine hd.tupE ?_
  ·intro a vs m e q l r
   refine Ea (Qy (env:=env) is es ht) λh1 h2=>?_
   refine wpAny_assign_Tuple (items:=vs.toArray) rm.hd ⟨_,e,rfl,m,rfl⟩ (by rw[h1,hlen,List.size_toArray];exact r.length.symm) h2 λh' hx=>?_
   have hx':∀a o,s.heap.get? a=some o->h'.get? a=some o:=λa o e=>hx a o (Nat.ne_of_lt (Heap.lt_size e)) e
   have na:Nx H s H {s with heap:=h'}:=⟨⟨h',s.toks,rfl⟩,BE.ext hx'⟩
   exact SR he is es _ ds _ {s with heap:=h'} ht hlen (R.ext hx') (F.step na.2) (r.step na.2) λs' F' R' n'=>h s' F' R' (L7.trans ⟨⟨h',s.toks,rfl⟩,λa o _ e=>hx' a o e⟩ n')
structure CI(B:Base)(C:Addr)(H:KH)(s:Shared)(H':KH)(s':Shared):Prop where
 rep:BP B H' s'.heap
 nx:Nx H s H' s'
 ns:∃m,s'.heap.Ns C m
 hC:H' C=none
theorem CI.step{H'':KH}{s'':Shared}(x:CI B C H s H' s')(R:BP B H'' s''.heap)(n:Nx H' s' H'' s''):CI B C H s H'' s'':=by
 refine Ex x.ns λm hn=>?_
 refine J8 (id hn) λo es ep ho r=>?_
 refine Ea (n.2.keep _ _ ho x.hC) λk1 k2=>?_
 exact⟨R,x.nx.trans n,⟨m,o,es,ep,k1,r⟩,k2⟩
theorem CI.turn{X:Addr->Prop}{s'':Shared}(x:CI B C H s H' s')(hs:∃h tk,s''={s' with heap:=h,toks:=tk})(hk:∀a o,¬X a->s'.heap.get? a=some o->s''.heap.get? a=some o)(hb:∀b,X b->H' b=none)(h0:∀b,X b->B.h0a.get? b=none)(hq:∀b,X b->Cd s'.heap b)
  (hX:∀b,X b->∀o,s.heap.get? b=some o->H b=none->False) (hm:∃m,s''.heap.Ns C m):CI B C H s H' s'':=by
 refine⟨x.rep.butX hb h0 hq hk,⟨?_,⟨λa o e q=>?_⟩⟩,hm,x.hC⟩
 ·obtain⟨⟨h1,t1,rfl⟩,-⟩:=x.nx
  refine OI hs λh2 t2 mN=>?_;subst mN
  exact⟨h2,t2,rfl⟩
 ·refine Ea (x.nx.2.keep a o e q) λe' q'=>?_
  exact⟨hk a o (λz=>hX a z o e q) e',q'⟩
end
section
variable {B:Base} {n:Nat} {scC:Scope} {cenv:Env} {ρc:Bw} {H:KH} {A:Around} {s:Shared} {tgt:Expr} {T:Qb} {C:Addr}
variable {I:Addr} {items:List D} {fp wr:List Addr} {B3:Heap->KH->Prop} {St:Nat->Heap->Prop}
structure Rl(B:Base)(fp wr:List Addr)(B3:Heap->KH->Prop)(St:Nat->Heap->Prop)(H:KH)(s:Shared)(i:Nat)(H':KH)(s':Shared):Prop where
 st:St i s'.heap
 iv:B3 s'.heap H'
 hfp:∀b∈fp,H' b=none
 hw0:∀b∈wr,B.h0a.get? b=none
 hws:∀b∈wr,∀o,s.heap.get? b=some o->H b=none->False
theorem Rl.step(W:F0 B A tgt I items fp wr B3 St){H'':KH}{s'':Shared}(x:Rl B fp wr B3 St H s i H' s')(n:Nx H' s' H'' s''):Rl B fp wr B3 St H s i H'' s'':=by
 have hk:∀b∈fp,∀o,s'.heap.get? b=some o->s''.heap.get? b=some o/\H'' b=none:=λb hb o e=>n.2.keep b o e (x.hfp b hb)
 refine⟨W.frame _ _ _ x.st λb hb o e=>(hk b hb o e).1,W.inv (λ_=>False) _ _ _ _ (λ_ z=>z.elim) ⟨λa o e q _=>n.2.keep a o e q⟩ x.iv,λb hb=>?_,x.hw0,x.hws⟩
 refine BG (W.nofr _ _ x.st b hb) λo ho _=>?_
 exact(hk b hb o ho).2
theorem ST(W:F0 B A tgt I items fp wr B3 St)(hcs:cenv.scope=scC)(hcl:cenv.locals=C)(hCf:∀o,s.heap.get? C=some o->H C=none->False)(hC0:B.h0a.get? C=none)
  (ht:Dp scC T tgt=true) (rm:Rm n A) {i:Nat} {H':KH} {s':Shared} {d:D} {ρ':Bw} (x:CI B C H s H' s') (F':BQ B cenv ρc H' s'.heap) (y:Rl B fp wr B3 St H s i H' s') (hd:items[i]? = some d) (hb:D5 T d ρc=some ρ') {Q:Shared->Prop}
  (h:∀sf,CI B C H s H' sf->BQ B cenv ρ' H' sf.heap->Rl B fp wr B3 St H s (i+1) H' sf->(∀a o,a∉wr->a≠C->s'.heap.get? a=some o->sf.heap.get? a=some o)->Q sf) :
  wpAny (model B.prog B.w) A (pyNext (.ref I)) (λr sb=>∃v,r=some v/\wpAny (model B.prog B.w) A (letOwnedTupleGo tgt (.ref I) v) (λ_ se=>wpAny (model B.prog B.w) A (assign tgt cenv v) (λ_ sf=>Q sf) B9 se) B9 sb) B9 s':=by
 refine wpAny_mono (W.item i s' H' d (λv sb=>BN sb.heap H' v d/\St (i+1) sb.heap/\(∃h tk,sb={s' with heap:=h,toks:=tk})/\(∀b o,b∉wr->s'.heap.get? b=some o->sb.heap.get? b=some o)) hd y.st y.iv x.rep
  λv sb hv st1 hsa hk1=>⟨hv,st1,hsa,hk1⟩) (λr sb ⟨v,e,hr⟩=>⟨v,e,?_⟩) λ_ _ x=>x
 refine wpAny_mono hr (λ_ se ⟨hv,st2,hsb,hk2⟩=>?_) λ_ _ x=>x
 have hS:∀b,b∈wr->Cd s'.heap b:=W.wrs _ _ y.st
 have hNo:∀b,b∈wr->KL s'.heap b:=λb hb=>W.nofr _ _ y.st b (W.sub b hb)
 have kk:∀a o,¬(a∈wr)->s'.heap.get? a=some o->se.heap.get? a=some o:=λa o hb e=>hk2 a o hb e
 have x2:CI B C H s H' se:=x.turn (X:=(·∈wr)) hsb kk (λb hb=>y.hfp b (W.sub b hb)) y.hw0 hS y.hws (by
  refine Ex x.ns λm hn=>?_
  exact⟨m,hn.at' λo e=>kk _ o (λhb=>(hNo _ hb).ne_ns hn rfl) e⟩)
 have iv2:B3 se.heap H':=W.inv (·∈wr) _ _ _ _ hS (Bt.of kk) y.iv
 have F0c:=F'.butX (X:=(·∈wr)) hS hNo kk
 refine SS hcs ht rm x2.rep F0c hv hb λsf F0b R0c k0c=>h sf ?_ F0b ?_ λa o ha hc e=>k0c.2 a o (by rw[hcl];exact hc) (kk a o ha e)
 ·refine Ex x2.ns λma hna=>?_
  exact x2.turn (X:=(· = C)) k0c.1 (λa o hne e=>k0c.2 a o (by rw[hcl];exact hne) e) (λb e=>e▸x2.hC) (λb e=>e▸hC0) (λb e=>e▸Eg hna) (λb e=>e▸hCf) (by
   refine BG F0b.vals λm hn _=>?_;rw[hcl] at hn;exact⟨m,hn⟩)
 ·refine Ex x2.ns λma hna=>?_
  refine⟨W.frame _ _ _ st2 λb hb o e=>k0c.2 b o (λz=>?_) e,W.inv (· = C) _ _ _ _ (λb e=>e▸Eg hna) (Bt.of λa o hne e=>k0c.2 a o (by rw[hcl];exact hne) e) iv2,y.hfp,y.hw0,y.hws⟩
  rw[hcl] at z
  exact(W.nofr _ _ st2 b hb).ne_ns hna z
theorem SU(W:F0 B A tgt I items fp wr B3 St)(x:CI B C H s H' s')(y:Rl B fp wr B3 St H s items.length H' s'){Q:Shared->Prop}(h:∀sb,CI B C H s H' sb->(∀b o,b∉wr->s'.heap.get? b=some o->sb.heap.get? b=some o)->(∃h tk,sb={s' with heap:=h,toks:=tk})->Q sb) :
  wpAny (model B.prog B.w) A (pyNext (.ref I)) (λr sb=>r=none/\Q sb) B9 s':=by
 refine wpAny_mono (W.done s' (λsb=>(∃h tk,sb={s' with heap:=h,toks:=tk})/\(∀b o,b∉wr->s'.heap.get? b=some o->sb.heap.get? b=some o)) y.st λsb hs hk=>⟨hs,hk⟩) (λr sb ⟨e,hs,hk⟩=>⟨e,h sb ?_ hk hs⟩) λ_ _ x=>x
 have hS:∀b,b∈wr->Cd s'.heap b:=W.wrs _ _ y.st
 have hNo:∀b,b∈wr->KL s'.heap b:=λb hb=>W.nofr _ _ y.st b (W.sub b hb)
 have kk:∀a o,¬(a∈wr)->s'.heap.get? a=some o->sb.heap.get? a=some o:=λa o hb e=>hk a o hb e
 exact x.turn (X:=(·∈wr)) hs kk (λb hb=>y.hfp b (W.sub b hb)) y.hw0 hS y.hws (by
  refine Ex x.ns λm hn=>?_
  exact⟨m,hn.at' λo e=>kk _ o (λhb=>(hNo _ hb).ne_ns hn rfl) e⟩)
def V8(B:Base)(n:Nat)(sc:Scope)(ρ:Bw)(ifs:List Expr)(W:W1):Prop :=
 ∀(env:Env) (H:KH) (K:Bool->KH->Prop) (A:Around) (s:Shared),env.scope=sc->Rm n A->BP B H s.heap->BQ B env ρ H s.heap->W H (CX K) ->
  wpAny (model B.prog B.w) A (forIn ifs true λc r=>if r=true then do let ok ←isTrue c env (eval c env);pure (ForInStep.yield ok) else pure (ForInStep.yield r)) (PB B H s K) B9 s
theorem V9{sc:Scope}{ρ:Bw}:V8 B n sc ρ [] (λH K=>K (.bool true) H):=λenv H K A s he rm R F k=>wpAny_tests_nil ⟨H,R,Nx.refl ..,k⟩
theorem WC{sc:Scope}{ρ:Bw}{c:Expr}{W:W1}(h:LP B n sc ρ c W):V8 B n sc ρ [c] W:=λenv H K A s he rm R F k=>wpAny_tests_one (h env H K A s he rm R F k)
inductive CL(B:Base)(C:Addr)(H:KH)(s:Shared)(fp wr:List Addr)(B3:Heap->KH->Prop)(St:Nat->Heap->Prop)(len:Nat)(Z:Nat->KH->List D->Shared->Prop)(k:Nat)(s':Shared):Prop
 |mk (i:Nat) (H':KH) (acc:List D) (e:k=len-i) (hi:i<=len) (x:CI B C H s H' s') (y:Rl B fp wr B3 St H s i H' s') (z:Z i H' acc s')
theorem dN{elt iter:Expr}{ifs:List Expr}{scope:Scope}{pos:Pos}{a:Addr}{Wt We:Bw->W1}{Kf:List D->KH->Prop}{R:Result->Shared->Prop}
  (W:F0 B A tgt I items fp wr B3 St) (hcs:cenv.scope=scC) (hcl:cenv.locals=C) (frok:∀H' s',CI B C H s H' s'->BQ B cenv ρc H' s'.heap) (hCf:∀o,s.heap.get? C=some o->H C=none->False) (hC0:B.h0a.get? C=none)
  (ht:Dp scC T tgt=true) (rm:Rm n A) (htest:∀ρ,V8 B n scC ρ ifs (Wt ρ)) (helt:∀ρ,B4 B n scC ρ (eval elt) (We ρ)) (x:CI B C H s H0a sb) (y:Rl B fp wr B3 St H s 0 H0a sb)
  (k:CK (λd H K=>match D5 T d ρc with
    |some ρ'=>Wt ρ' H (CX λc H=>if c then We ρ' H λr H=>K (some r) H else K none H)
    |none=>False) a items [] H0a Kf)
  (hR:∀s' H' acc,CI B C H s H' s'->Kf acc H'->R (.ok .next) s') :
  codeAny (model B.prog B.w) A (.compLoop (.ListComp elt [⟨tgt,iter,ifs,0⟩] scope pos) 0 (.ref I) (.ref a) cenv) R sb:=by
 refine OR (CL B C H s fp wr B3 St items.length λi H' acc s'=>CK (λd H K=>match D5 T d ρc with
    |some ρ'=>Wt ρ' H (CX λc H=>if c then We ρ' H λr H=>K (some r) H else K none H)
    |none=>False) a (items.drop i) acc H' Kf) ?_ items.length ⟨0,H0a,[],rfl,Nat.zero_le _,x,y,k⟩
 rintro k s' ⟨i,H',acc,rfl,hi,x',y',g⟩
 by_cases hlt:i<items.length
 ·have hd:items[i]? = some items[i]:=List.getElem?_eq_getElem hlt
  rw[List.drop_eq_getElem_cons hlt] at g
  unfold CK at g
  dsimp only at g
  split at g<;>try exact g.elim
  rename_i ρ' hb
  refine wpAny_mono (ST (Q:=λsf=>CI B C H s H' sf/\BQ B cenv ρ' H' sf.heap/\Rl B fp wr B3 St H s (i+1) H' sf) W hcs hcl hCf hC0 ht rm x' (frok _ _ x') y' hd hb λsf a b c _=>⟨a,b,c⟩) (λr se hh=>BG hh λv e hr=>?_) λ_ _ x=>x
  subst e
  refine wpAny_mono hr (λ_ s2' hr'=>wpAny_mono hr' (λ_ sf ⟨x3,F0b,y3⟩=>?_) λ_ _ x=>x) λ_ _ x=>x
  refine PB.mo (htest ρ' cenv H' _ A sf hcs rm x3.rep F0b g) λc si H0e R0d n4 k0d=>?_
  have x4:=x3.step R0d n4
  have y4:=y3.step W n4
  cases c with
  |false =>
   refine Ea k0d λ_ k0d=>?_
   exact⟨items.length-(i+1),Nat.sub_lt_sub_left hlt (Nat.lt_succ_self _),i+1,H0e,acc,rfl,hlt,x4,y4,k0d⟩
  |true =>
   refine PV.mo (helt ρ' cenv H0e _ A si hcs rm R0d (F0b.step n4.2) k0d) λw sj d H0f z R0f n5 k0e=>?_
   refine OK k0e λha hl k0e=>?_
   have x5:=x4.step R0f n5
   have y5:=y4.step W n5
   refine PV.mo (LT (K:=λ_ H=>H=H0f.set a (.list (acc++[d]))) R0f z ⟨ha,hl,rfl⟩) λu sm d0d H0g za R0g n6 e0b=>?_
   subst e0b
   exact⟨items.length-(i+1),Nat.sub_lt_sub_left hlt (Nat.lt_succ_self _),i+1,_,acc++[d],rfl,hlt,x5.step R0g n6,y5.step W n6,k0e⟩
 ·have hin:i=items.length:=Nat.le_antisymm hi (Nat.le_of_not_lt hlt)
  subst hin
  rw[List.drop_length] at g
  refine wpAny_mono (SU (Q:=λse=>CI B C H s H' se) W x' y' λse a _ _=>a) (λr se hh=>Ea hh λe x2=>?_) λ_ _ x=>x
  subst e
  exact hR _ _ _ x2 g
theorem Jo{elt t1 i1 t2 i2:Expr}{scope:Scope}{it acc:Value}{R:Result->Shared->Prop}
  (h0:codeAny (model B.prog B.w) A (.compLoop (.ListComp elt [⟨t1,i1,[],0⟩,⟨t2,i2,[],0⟩] scope pos) 1 it acc env) R s)
  (h:wpAny (model B.prog B.w) A (pyIter it) (λit' s'=>codeAny (model B.prog B.w) A (.compLoop (.ListComp elt [⟨t1,i1,[],0⟩,⟨t2,i2,[],0⟩] scope pos) 1 it' acc env) R s') B9 s) :
  codeAny (model B.prog B.w) A (.compStart (.ListComp elt [⟨t1,i1,[],0⟩,⟨t2,i2,[],0⟩] scope pos) 1 it acc env) R s:=by
 refine codeAny_of_tree ?_
 show wpAny _ _ ((compStart (.ListComp elt [⟨t1,i1,[],0⟩,⟨t2,i2,[],0⟩] scope pos) 1 it acc env).onRaise (λx=>do noteFrame x env;standAt theWindowsPlace)) _ _ s
 refine wpAny_notedAt ?_
 unfold compStart
 refine wpAny_bind (wpAny_askSetting (wpAny_ite ?_))
 split
 ·first
   |exact wpAny_bind (wpAny_pure (wpAny_pure (And.intro rfl h0)))
   |exact wpAny_pure (And.intro rfl h0)
 ·first
   |exact wpAny_bind (wpAny_rule (wpAny_bind (wpAny_standAt (wpAny_bind (wpAny_mono h (λit' s' h'=>wpAny_pure (And.intro rfl h')) λ_ _ x=>x.elim)))))
   |(refine wpAny_bind (wpAny_rule ?_);show wpAny _ _ (standAt i2.pos>>=_) _ _ s;exact wpAny_bind (wpAny_standAt (wpAny_bind (wpAny_mono h (λit' s' h'=>wpAny_pure (And.intro rfl h')) λ_ _ x=>x.elim))))
theorem OS{elt t1 i1 t2 i2:Expr}{scope:Scope}{pos:Pos}{it acc:Value}{env:Env}{R:Result->Shared->Prop}(J:Nat->Shared->Prop)
  (turn:∀n s,J n s->wpAny (model B.prog B.w) A (pyNext it) (λr sb=>match r with
   |none=>R (.ok .next) sb
   |some v=>wpAny (model B.prog B.w) A (letOwnedTupleGo t2 it v) (λ_ s1'=>wpAny (model B.prog B.w) A (assign t2 env v) (λ_ se =>
     wpAny (model B.prog B.w) A (eval elt env) (λx si=>wpAny (model B.prog B.w) A (call (.builtin "list.append") [acc,x]) (λ_ sj=>∃m,m<n/\J m sj) B9 si) B9 se) B9 s1') B9 sb) B9 s)
  (n:Nat) (h:J n s):codeAny (model B.prog B.w) A (.compLoop (.ListComp elt [⟨t1,i1,[],0⟩,⟨t2,i2,[],0⟩] scope pos) 1 it acc env) R s:=by
 refine codeAny_loop rfl J (λn s hI=>?_) n h
 show wpAny _ A ((compTurn (.ListComp elt [⟨t1,i1,[],0⟩,⟨t2,i2,[],0⟩] scope pos) 1 it acc env).onRaise (λx=>do noteFrame x env;theTreesLotGoes x)) _ _ s
 refine wpAny_noted ?_
 rw[SQ]
 refine wpAny_bind (wpAny_standAt (wpAny_bind (wpAny_mono (turn n s hI) (λr sb h0b=>?_) λ_ _ h'=>h'.elim)))
 cases r with
 |none=>exact wpAny_pure h0b
 |some v =>
  refine wpAny_bind (wpAny_mono h0b (λ_ s1' h'a=>?_) λ_ _ h'=>h'.elim)
  refine wpAny_bind (wpAny_mono h'a (λ_ se h0c=>?_) λ_ _ h'=>h'.elim)
  exact wpAny_bind (wpAny_bind (wpAny_mono h0c (λx si h0e=>wpAny_bind (wpAny_mono h0e (λ_ sj h0d=>wpAny_pure (wpAny_pure ⟨rfl,h0d⟩)) λ_ _ h'=>h'.elim)) λ_ _ h'=>h'.elim))
theorem OT{elt t1 i1 t2 i2:Expr}{scope:Scope}{pos:Pos}{it acc:Value}{env:Env}{R:Result->Shared->Prop}(J:Nat->Shared->Prop)(hs:HP i2=true)
  (turn:∀n s,J n s->wpAny (model B.prog B.w) A (pyNext it) (λr sb=>match r with
   |none=>R (.ok .next) sb
   |some v=>wpAny (model B.prog B.w) A (letOwnedTupleGo t1 it v) (λ_ s1'=>wpAny (model B.prog B.w) A (assign t1 env v) (λ_ se =>
     wpAny (model B.prog B.w) A (eval i2 env) (λx sf=>wpAny (model B.prog B.w) A (pyIter x) (λit2 si =>
      codeAny (model B.prog B.w) A (.compStart (.ListComp elt [⟨t1,i1,[],0⟩,⟨t2,i2,[],0⟩] scope pos) 1 it2 acc env) (λr s'=>match r with| .ok _=>∃m,m<n/\J m s'| .error _=>False) si) B9 sf) B9 se) B9 s1') B9 sb) B9 s)
  (n:Nat) (h:J n s):codeAny (model B.prog B.w) A (.compLoop (.ListComp elt [⟨t1,i1,[],0⟩,⟨t2,i2,[],0⟩] scope pos) 0 it acc env) R s:=by
 refine codeAny_loop rfl J (λn s hI=>?_) n h
 show wpAny _ A ((compTurn (.ListComp elt [⟨t1,i1,[],0⟩,⟨t2,i2,[],0⟩] scope pos) 0 it acc env).onRaise (λx=>do noteFrame x env;theTreesLotGoes x)) _ _ s
 refine wpAny_noted ?_
 rw[SP]
 refine wpAny_bind (wpAny_standAt (wpAny_bind (wpAny_mono (turn n s hI) (λr sb h0b=>?_) λ_ _ h'=>h'.elim)))
 cases r with
 |none=>exact wpAny_pure h0b
 |some v =>
  refine wpAny_bind (wpAny_mono h0b (λ_ s1' h'a=>?_) λ_ _ h'=>h'.elim)
  refine wpAny_bind (wpAny_mono h'a (λ_ se h0c=>?_) λ_ _ h'=>h'.elim)
  refine wpAny_bind (wpAny_mono h0c (λx sf h0f=>?_) λ_ _ h'=>h'.elim)
  refine wpAny_bind (wpAny_standAt ?_)
  rw[IK hs]
  refine wpAny_bind (wpAny_pure (wpAny_bind (wpAny_holding (wpAny_mono h0f (λit2 si h0e=>?_) λ_ _ h'=>h'.elim))))
  refine wpAny_bind (wpAny_runOwn (codeAny_mono h0e λr s' hr=>?_))
  cases r with
  |ok f=>exact wpAny_pure ⟨rfl,hr⟩
  |error e=>exact hr.elim
end
section
variable {B:Base} {n:Nat} {scC:Scope} {cenv:Env} {H:KH} {A:Around} {s:Shared} {C:Addr} {elt t1 i1 t2 i2:Expr} {scope:Scope} {pos:Pos} {a:Addr}
theorem Zy{ρ1:Bw}{items:List D}{fp wr:List Addr}{B3:Heap->KH->Prop}{St:Nat->Heap->Prop}{We:Bw->W1}{Kf:List D->KH->Prop}{R:Result->Shared->Prop}{H0d:KH}{sf:Shared}{acc0:List D}
  (W:F0 B A t2 I items fp wr B3 St) (hcs:cenv.scope=scC) (hcl:cenv.locals=C) (hCf:∀o,s.heap.get? C=some o->H C=none->False) (hC0:B.h0a.get? C=none)
  (ht:Dp scC (.v j) t2=true) (rm:Rm n A) (helt:∀ρ,B4 B n scC ρ (eval elt) (We ρ)) (hj:∀d,ρ1[j]?≠some (some d)) (x:CI B C H s H0a sb) (F:BQ B cenv ρ1 H0a sb.heap) (y:Rl B fp wr B3 St H s 0 H0a sb)
  (kx:Bt (· = C) H0d sf.heap H0a sb.heap) (hws3:∀b∈wr,∀o,sf.heap.get? b=some o->H0d b=none->False)
  (k:CK (λd H K=>We (ρ1.set j (some d)) H λr H=>K (some r) H) a items acc0 H0a Kf)
  (hR:∀s' H' acc,CI B C H s H' s'->Bt (· = C) H0d sf.heap H' s'.heap->Kf acc H'->R (.ok .next) s') :
  codeAny (model B.prog B.w) A (.compLoop (.ListComp elt [⟨t1,i1,[],0⟩,⟨t2,i2,[],0⟩] scope pos) 1 (.ref I) (.ref a) cenv) R sb:=by
 refine OS (CL B C H s fp wr B3 St items.length λi H' acc s'=>BQ B cenv ρ1 H' s'.heap/\Bt (· = C) H0d sf.heap H' s'.heap /\
  CK (λd H K=>We (ρ1.set j (some d)) H λr H=>K (some r) H) a (items.drop i) acc H' Kf) ?_ items.length ⟨0,H0a,acc0,rfl,Nat.zero_le _,x,y,F,kx,k⟩
 rintro k s' ⟨i,H',acc,rfl,hi,x',y',F',kx',g⟩
 by_cases hlt:i<items.length
 ·have hd:items[i]? = some items[i]:=List.getElem?_eq_getElem hlt
  rw[List.drop_eq_getElem_cons hlt] at g
  unfold CK at g
  dsimp only at g
  refine wpAny_mono (ST (T:=.v j) (Q:=λse=>CI B C H s H' se/\BQ B cenv (ρ1.set j (some items[i])) H' se.heap/\Rl B fp wr B3 St H s (i+1) H' se/\Bt (· = C) H0d sf.heap H' se.heap) W hcs hcl hCf hC0 ht rm x' F' y' hd rfl λse a b c kk=>⟨a,b,c,⟨λq o e hq hc=>?_⟩⟩) (λr se hh=>BG hh λv e hr=>?_) λ_ _ x=>x
  ·refine Ea (kx'.keep q o e hq hc) λe' q'=>?_
   exact⟨kk q o (λhb=>hws3 q hb o e hq) hc e',q'⟩
  ·subst e
   refine wpAny_mono hr (λ_ s2' hr'=>wpAny_mono hr' (λ_ s3' ⟨x3,F0b,y3,kx3⟩=>?_) λ_ _ x=>x) λ_ _ x=>x
   refine PV.mo (helt _ cenv H' _ A s3' hcs rm x3.rep F0b g) λw sj d H0f z R0f n5 k0e=>?_
   refine OK k0e λha hl k0e=>?_
   have x5:=x3.step R0f n5
   have y5:=y3.step W n5
   have F0e:=F0b.step n5.2
   refine PV.mo (LT (K:=λ_ H=>H=H0f.set a (.list (acc++[d]))) R0f z ⟨ha,hl,rfl⟩) λu sm d0d H0g za R0g n6 e0b=>?_
   subst e0b
   refine⟨items.length-(i+1),Nat.sub_lt_sub_left hlt (Nat.lt_succ_self _),i+1,_,acc++[d],rfl,hlt,x5.step R0g n6,y5.step W n6,?_,⟨λq o e hq hc=>?_⟩,k0e⟩
   ·refine(F0e.step n6.2).less (by rw[List.length_set]) λp d' hp=>?_
    by_cases hpj:p=j
    ·subst hpj;exact absurd hp (hj d')
    ·rw[List.getElem?_set_ne (Ne.symm hpj)];exact hp
   ·refine Ea (kx3.keep q o e hq hc) λe' q'=>?_
    exact(n5.trans n6).2.keep q o e' q'
 ·have hin:i=items.length:=Nat.le_antisymm hi (Nat.le_of_not_lt hlt)
  subst hin
  rw[List.drop_length] at g
  refine wpAny_mono (SU (Q:=λse=>CI B C H s H' se/\Bt (· = C) H0d sf.heap H' se.heap) W x' y' λse a hk _=>⟨a,⟨λq o e hq hc=>?_⟩⟩) (λr se hh=>OK hh λe x2 kx2=>?_) λ_ _ x=>x
  ·refine Ea (kx'.keep q o e hq hc) λe' q'=>?_
   exact⟨hk q o (λhb=>hws3 q hb o e hq) e',q'⟩
  ·subst e
   exact hR _ _ _ x2 kx2 g
theorem dO{ρc:Bw}{items:List D}{fp wr:List Addr}{B3:Heap->KH->Prop}{St:Nat->Heap->Prop}{i0a:Nat}{P2:Expr->Prop}{W2:Bw->KH->(List D->KH->Prop)->Prop}{We:Bw->W1}{Kf:List D->KH->Prop}{R:Result->Shared->Prop}
  (W:F0 B A t1 I items fp wr B3 St) (hcs:cenv.scope=scC) (hcl:cenv.locals=C) (frok:∀H' s',CI B C H s H' s'->BQ B cenv ρc H' s'.heap) (hCf:∀o,s.heap.get? C=some o->H C=none->False) (hC0:B.h0a.get? C=none)
  (ht1:Dp scC (.v i0a) t1=true) (ht2:Dp scC (.v j) t2=true) (hP2:P2 t2) (hs2:HP i2=true) (rm:Rm n A) (hI2:∀ρ,Tb B n scC ρ i2 P2 (W2 ρ)) (helt:∀ρ,B4 B n scC ρ (eval elt) (We ρ))
  (hj:∀d,ρc[j]?≠some (some d)) (hij:i0a≠j) (x:CI B C H s H0a sb) (y:Rl B fp wr B3 St H s 0 H0a sb)
  (k:Fh (λd acc H K=>W2 (ρc.set i0a (some d)) H λes H=>CK (λd' H K=>We ((ρc.set i0a (some d)).set j (some d')) H λr H=>K (some r) H) a es acc H K) items [] H0a Kf)
  (hR:∀s' H' acc,CI B C H s H' s'->Kf acc H'->R (.ok .next) s') :
  codeAny (model B.prog B.w) A (.compLoop (.ListComp elt [⟨t1,i1,[],0⟩,⟨t2,i2,[],0⟩] scope pos) 0 (.ref I) (.ref a) cenv) R sb:=by
 refine OT (CL B C H s fp wr B3 St items.length λi H' acc s' =>
  Fh (λd acc H K=>W2 (ρc.set i0a (some d)) H λes H=>CK (λd' H K=>We ((ρc.set i0a (some d)).set j (some d')) H λr H=>K (some r) H) a es acc H K) (items.drop i) acc H' Kf) hs2 ?_ items.length ⟨0,H0a,[],rfl,Nat.zero_le _,x,y,k⟩
 rintro k s' ⟨i,H',acc,rfl,hi,x',y',g⟩
 by_cases hlt:i<items.length
 ·have hd:items[i]? = some items[i]:=List.getElem?_eq_getElem hlt
  rw[List.drop_eq_getElem_cons hlt] at g
  unfold Fh at g
  refine wpAny_mono (ST (T:=.v i0a) (Q:=λse=>CI B C H s H' se/\BQ B cenv (ρc.set i0a (some items[i])) H' se.heap/\Rl B fp wr B3 St H s (i+1) H' se) W hcs hcl hCf hC0 ht1 rm x' (frok _ _ x') y' hd rfl λse a b c _=>⟨a,b,c⟩) (λr se hh=>BG hh λv e hr=>?_) λ_ _ x=>x
  subst e
  refine wpAny_mono hr (λ_ s2' hr'=>wpAny_mono hr' (λ_ sf ⟨x3,F0b,y3⟩=>?_) λ_ _ x=>x) λ_ _ x=>x
  refine wpAny_mono (hI2 _ cenv H' _ A sf hcs rm x3.rep F0b g) (λxv si h0e=>Rk.mo h0e λit2 sj I2 es H0f fp2 wr2 Inv2 St2 e1 Wt R0f n5 st5 iv5 hfp5 hw05 hws5 k0e=>?_) λ_ _ x=>x
  subst e1
  have W0a:=Wt t2 hP2
  have x5:=x3.step R0f n5
  have y5:Rl B fp2 wr2 Inv2 St2 H s 0 H0f sj:=⟨st5,iv5,hfp5,hw05,λb hb o e q=>by
   refine Ea (x3.nx.2.keep b o e q) λe' q'=>?_
   exact hws5 b hb o e' q'⟩
  have F0e:=F0b.step n5.2
  have loop:codeAny (model B.prog B.w) A (.compLoop (.ListComp elt [⟨t1,i1,[],0⟩,⟨t2,i2,[],0⟩] scope pos) 1 (.ref I2) (.ref a) cenv) (λr s'=>match r with
    |.ok _=>∃m,m<items.length-i/\CL B C H s fp wr B3 St items.length (λi H' acc s' =>
     Fh (λd acc H K=>W2 (ρc.set i0a (some d)) H λes H=>CK (λd' H K=>We ((ρc.set i0a (some d)).set j (some d')) H λr H=>K (some r) H) a es acc H K) (items.drop i) acc H' Kf) m s'
    |.error _=>False) sj:=by
   refine Zy (ρ1:=ρc.set i0a (some items[i])) (H0d:=H') (sf:=sf) W0a hcs hcl hCf hC0 ht2 rm helt (λd hd=>?_) x5 F0e y5 ⟨λq o e hq _=>n5.2.keep q o e hq⟩ hws5 k0e λsm H0g acc6 x6 kx6 g0a=>?_
   ·rw[List.getElem?_set_ne hij] at hd;exact hj d hd
   ·have hCns:∃m,sf.heap.Ns C m:=x3.ns
    refine Ex hCns λm hn=>?_
    have hk:∀b∈fp,∀o,sf.heap.get? b=some o->sm.heap.get? b=some o/\H0g b=none:=λb hb o e=>kx6.keep b o e (y3.hfp b hb) ((W.nofr _ _ y3.st b hb).ne_ns hn)
    refine⟨items.length-(i+1),Nat.sub_lt_sub_left hlt (Nat.lt_succ_self _),i+1,H0g,acc6,rfl,hlt,x6,⟨W.frame _ _ _ y3.st λb hb o e=>(hk b hb o e).1,W.inv (· = C) _ _ _ _ (λb e=>e▸Eg hn) kx6 y3.iv,λb hb=>?_,y3.hw0,y3.hws⟩,g0a⟩
    refine BG (W.nofr _ _ y3.st b hb) λo ho _=>?_
    exact(hk b hb o ho).2
  exact Jo loop (W0a.self 0 _ _ st5 loop)
 ·have hin:i=items.length:=Nat.le_antisymm hi (Nat.le_of_not_lt hlt)
  subst hin
  rw[List.drop_length] at g
  refine wpAny_mono (SU (Q:=λse=>CI B C H s H' se) W x' y' λse a _ _=>a) (λr se hh=>Ea hh λe x2=>?_) λ_ _ x=>x
  subst e
  exact hR _ _ _ x2 g
end
def IO(B:Base)(n:Nat)(scC:Scope)(e t1:Expr)(caps:List (Option Nat))(WL:Bw->Addr->List D->KH->(List D->KH->Prop)->Prop):Prop :=
 ∀(A:Around) (cenv:Env) (C a:Addr) (ρ:Bw) (H:KH) (s:Shared) (H0a:KH) (sb:Shared) (Kf:List D->KH->Prop) (R:Result->Shared->Prop) (I:Addr) (items:List D) (fp wr:List Addr) (B3:Heap->KH->Prop) (St:Nat->Heap->Prop),
  Rm n A->F0 B A t1 I items fp wr B3 St->cenv.scope=scC->cenv.locals=C->(∀H' s',CI B C H s H' s'->BQ B cenv (EJ caps ρ) H' s'.heap)->(∀o,s.heap.get? C=some o->H C=none->False)->B.h0a.get? C=none ->
  CI B C H s H0a sb->Rl B fp wr B3 St H s 0 H0a sb->WL (EJ caps ρ) a items H0a Kf->(∀s' H' acc,CI B C H s H' s'->Kf acc H'->R (.ok .next) s')->codeAny (model B.prog B.w) A (.compLoop e 0 (.ref I) (.ref a) cenv) R sb
section
variable {B:Base} {n:Nat} {sc scope:Scope} {env:Env} {ρ:Bw} {H:KH} {A:Around} {s:Shared} {caps:List (Option Nat)} {elt t1 i1:Expr} {ifs:List Expr} {rest:List Comprehension} {pos:Pos} {P:Expr->Prop}
 {WI:Bw->KH->(List D->KH->Prop)->Prop} {WL:Bw->Addr->List D->KH->(List D->KH->Prop)->Prop}
theorem Tc{use:Option (Value->Sem Unit)}{Kf:Addr->List D->KH->Prop}(ok:IL sc scope caps=true)(hs:HP i1=true)(hP:P t1)(hI:∀ρ,Tb B n sc ρ i1 P (WI ρ))(hL:IO B n (F5 sc scope) (.ListComp elt (⟨t1,i1,ifs,0⟩::rest) scope pos) t1 caps WL)
  (he:env.scope=sc) (rm:Rm n A) (R:BP B H s.heap) (F:BQ B env ρ H s.heap)
  (k:WI ρ H λitems H=>∀a,H a=none->WL (EJ caps ρ) a items (H.set a (.list [])) λacc H=>Kf a acc H)
  (hQ:∀a C s' H' acc,CI B C H s H' s'->(∀o,s.heap.get? C=some o->H C=none->False)->B.h0a.get? C=none->Kf a acc H'->compPost (model B.prog B.w) A B9 use Q (.ref a) C (.ok .next) s') :
  wpAny (model B.prog B.w) A (comprehension (.ListComp elt (⟨t1,i1,ifs,0⟩::rest) scope pos) scope env (firstIterPos (⟨t1,i1,ifs,0⟩::rest) pos) (newList []) false (eval i1 env) use) Q B9 s:=by
 refine Pf (O0 ok) λhk hnd hl at_=>?_
 have hcl:∀x k,(x,k)∈scope.names->k= .free->∃c,env.cells.lookup x=some c:=by
  rintro x k hx rfl
  refine Ex (List.mem_iff_getElem?.mp hx) λi hi=>?_
  refine BG (at_ i _ hi) λc hc hck=>?_
  refine CJ (Jm hck) λj k mN hj hkk=>?_;subst mN
  subst he
  refine M5 (F.cells x k (List.mem_of_getElem? hj) hkk) λc v a _=>?_
  exact⟨c,a⟩
 have hcell:∀x∈scope.names,x.2≠.cell:=by
  intro x hx hc
  refine Ex (List.mem_iff_getElem?.mp hx) λi hi=>?_
  refine BG (at_ i _ hi) λc hcc hck=>?_
  obtain⟨y,k⟩:=x
  subst hc
  exact(IM hck (by intro z;cases z)).1 rfl
 have hnames:∀x∈scope.names,x.2= .local->scope.names.lookup x.1=some .local:=by
  intro x hx hl
  refine Ex (List.mem_iff_getElem?.mp hx) λi hi=>?_
  obtain⟨y,k⟩:=x
  subst hl
  exact Cg hnd hi
 refine wpAny_comprehension_free (use:=use) rfl (λx=>IK hs) (SN hcl) hk hnames ?_
 refine wpAny_mono (hI ρ env H _ A s he rm R F k) (λxv sb h0b=>Rk.mo h0b λit se I items H0b fp wr B3 St e1 Wt R0b ng st iv hfp hw0 hws k0b=>?_) λ_ _ x=>x
 subst e1
 have W:=Wt t1 hP
 refine wpAny_mono (M9 (H:=H0b) .nil (by simp)) (λv sf N=>?_) λ_ _ x=>x
 obtain⟨d,H0d,hv,R0c,n3,a,rfl,ha,rfl⟩:=N.booked (K:=λd H'=>∃a,d= .ref a/\H0b a=none/\H'=H0b.set a (.list [])) R0b (λa ha=>⟨a,rfl,ha,rfl⟩)
 refine hv.refE ?_
 refine wpAny_newFunctionEnv hcell (by intro y hy;simp at hy) (λh0b hns1 hsb1=>?_) hk
 have old:∀b o,sf.heap.get? b=some o->h0b.get? b=some o:=λb o e=>hsb1.extBut b o (Nat.ne_of_lt (Heap.lt_size e)) (Heap.get?_push_of_some _ e)
 have n4:Nx (H0b.set a (.list [])) sf (H0b.set a (.list [])) {sf with heap:=h0b,toks:=sf.toks+([]:List (Str×Value)).length}:=⟨⟨_,_,rfl⟩,BE.ext old⟩
 have n03:=ng.trans n3
 have hC:(H0b.set a (.list [])) sf.heap.objs.size=none:=R0c.free
 have hC0:B.h0a.get? sf.heap.objs.size=none:=(By R0c Bq).2
 have hCf:∀o,s.heap.get? sf.heap.objs.size=some o->H sf.heap.objs.size=none->False:=n03.fresh Bq
 have x4:CI B sf.heap.objs.size H s (H0b.set a (.list [])) {sf with heap:=h0b,toks:=sf.toks+([]:List (Str×Value)).length}:=⟨R0c.ext old,n03.trans n4,⟨_,hns1⟩,hC⟩
 have y2:Rl B fp wr B3 St H s 0 H0b se:=⟨st,iv,hfp,hw0,hws⟩
 have y4:=y2.step W (n3.trans n4)
 have loop:codeAny (model B.prog B.w) A (.compLoop (.ListComp elt (⟨t1,i1,ifs,0⟩::rest) scope pos) 0 (.ref I) (.ref a) (compEnvC scope (JM env scope.names []) sf.heap.objs.size env)) (compPost (model B.prog B.w) A B9 use Q (.ref a) sf.heap.objs.size) {sf with heap:=h0b,toks:=sf.toks+([]:List (Str×Value)).length} :=
  hL A (compEnvC scope (JM env scope.names []) sf.heap.objs.size env) sf.heap.objs.size a ρ H s _ _ _ _ I items fp wr B3 St rm W (by subst he;rfl) rfl (λH' s' x=>by
   refine Ex x.ns λm hn=>?_
   exact UX ok he (F.step x.nx.2) hn x.hC hC0) hCf hC0 x4 y4 (k0b a ha) λs' H' acc x hk=>hQ a _ s' H' acc x hCf hC0 hk
 exact codeAny_compStart_list loop (W.self 0 _ _ y4.st loop |> λq=>wpAny_mono q (λ_ _ x=>x) λ_ _ x=>x.elim)
theorem CI.end_(x:CI B C H s H' s')(hCf:∀o,s.heap.get? C=some o->H C=none->False)(hC0:B.h0a.get? C=none)(hs:Heap.SameBut C s'.heap h') :
  BP B H' h'/\Nx H s H' {s' with heap:=h'}/\(∀{v d},BN s'.heap H' v d->BN h' H' v d):=by
 refine Ex x.ns λm hn=>?_
 refine⟨x.rep.butX (X:=(· = C)) (λb e=>e▸x.hC) (λb e=>e▸hC0) (λb e=>e▸Eg hn) (λa o ha e=>hs.extBut a o ha e),⟨?_,⟨λa o e q=>?_⟩⟩,λz=>z.stepX (X:=(· = C)) (λb e=>e▸Eg hn) (Bt.of λa o ha e=>hs.extBut a o ha e)⟩
 ·obtain⟨⟨h1,t1,rfl⟩,-⟩:=x.nx;exact⟨h',t1,rfl⟩
 ·refine Ea (x.nx.2.keep a o e q) λe' q'=>?_
  exact⟨hs.extBut a o (λz=>hCf o (z▸e) (z▸q)) e',q'⟩
noncomputable def UY(fr:Bool)(K:D->KH->Prop)(a:Addr)(acc:List D)(H:KH):Prop:=H a=some (.list acc)/\if fr then K (.lst acc) (H.erase a) else K (.ref a) H
theorem UY.out{fr:Bool}{acc:List D}(R:BP B H' h)(k:UY fr K a acc H'):∃d H'',BN h H'' (.ref a) d/\BP B H'' h/\BE H' h H'' h/\K d H'':=by
 refine Ea k λha k=>?_
 cases fr with
 |false=>exact⟨.ref a,H',.ref a,R,BE.refl _ _,k⟩
 |true =>
  refine Ea (R.erase a (R.out ha)) λR' S'=>?_
  refine F2 (R.know _ _ ha) λ_ vs m ho l r=>?_
  exact⟨.lst acc,_,.lst ho (KH.erase_self _ _) l (r.step S'),R',S',k⟩
theorem Pv{fr:Bool}(ok:IL sc scope caps=true)(hs:HP i1=true)(hP:P t1)(hI:∀ρ,Tb B n sc ρ i1 P (WI ρ))(hL:IO B n (F5 sc scope) (.ListComp elt (⟨t1,i1,ifs,0⟩::rest) scope pos) t1 caps WL) :
  B4 B n sc ρ (eval (.ListComp elt (⟨t1,i1,ifs,0⟩::rest) scope pos)) (λH K=>WI ρ H λitems H=>∀a,H a=none->WL (EJ caps ρ) a items (H.set a (.list [])) λacc H=>UY fr K a acc H):=by
 intro env H K A s he rm R F k
 show wpAny _ A (comprehension (.ListComp elt (⟨t1,i1,ifs,0⟩::rest) scope pos) scope env (firstIterPos (⟨t1,i1,ifs,0⟩::rest) pos) (newList []) false (eval i1 env)) _ _ _
 refine Tc (use:=none) (Kf:=λa acc H=>UY fr K a acc H) ok hs hP hI hL he rm R F k λa C s' H' acc x hCf hC0 hk=>?_
 refine Ex x.ns λm hn=>?_
 refine⟨m,hn,λh' hs'=>?_⟩
 refine OK (x.end_ hCf hC0 hs') λR' n' mv=>?_
 refine DX (hk.out R') λd H'' z R'' S'' k''=>?_
 exact⟨d,H'',z,R'',n'.trans ⟨⟨h',s'.toks,rfl⟩,S''⟩,k''⟩
end
theorem BQ.butN{ρ:Bw}{X:Addr->Prop}(F:BQ B env ρ H h)(hs:∀b,X b->Cd h b)(hl:∀b,X b->b≠env.locals)(hc:∀b v,X b->¬h.IsCell b v)(hk:∀a o,¬X a->h.get? a=some o->h'.get? a=some o):BQ B env ρ H h':=by
 obtain⟨ok,len,hL,bL,cells,m,hn',vals⟩:=F
 have cl:∀{c v},h.IsCell c v->h'.IsCell c v:=λy=>IsCell.at y λo e'=>hk _ o (λz=>hc _ _ z y) e'
 refine⟨ok,len,hL,bL,λx k hm hk'=>?_,m,hn'.at' λo e=>hk _ o (λz=>hl _ z rfl) e,λi x k d hi hρ hv=>?_⟩
 ·refine DX (cells x k hm hk') λc v a b e z=>?_
  exact⟨c,v,a,cl b,e,z⟩
 ·refine BG (vals i x k d hi hρ hv) λv a q=>?_
  refine⟨v,?_,q.stepX hs (Bt.of hk)⟩
  cases k with
  |«local»=>exact a
  |cell=>refine BG a λc a1 a2=>?_;exact⟨c,a1,cl a2⟩
  |free=>refine BG a λc a1 a2=>?_;exact⟨c,a1,cl a2⟩
  |_=>exact a
section
variable {B:Base} {n:Nat} {sc scope:Scope} {env:Env} {ρ:Bw} {H:KH} {A:Around} {s:Shared} {caps:List (Option Nat)} {elt t1 i1:Expr} {ifs:List Expr} {rest:List Comprehension} {pos spos:Pos} {P:Expr->Prop}
 {WI:Bw->KH->(List D->KH->Prop)->Prop} {WL:Bw->Addr->List D->KH->(List D->KH->Prop)->Prop}
theorem NP{fr:Bool}{y:Str}{py:Pos}(ht:NN sc i (.Name y py)=true)(ok:IL sc scope caps=true)(hs:HP i1=true)(hP:P t1)(hI:∀ρ,Tb B n sc ρ i1 P (WI ρ))(hL:IO B n (F5 sc scope) (.ListComp elt (⟨t1,i1,ifs,0⟩::rest) scope pos) t1 caps WL) :
  F4 B n sc (exec (.Assign [.Name y py] (.ListComp elt (⟨t1,i1,ifs,0⟩::rest) scope pos) spos)) (λρ H K=>WI ρ H λitems H=>∀a,H a=none->WL (EJ caps ρ) a items (H.set a (.list [])) λacc H=>UY fr (λd H=>K .next (ρ.set i (some d)) H) a acc H):=by
 intro env ρ H K A s he rm R F k
 obtain⟨b,hb⟩:∃b,swapsWith (.ListComp elt (⟨t1,i1,ifs,0⟩::rest) scope pos) (some (.Name y py)) spos.line env=pure b:=⟨_,rfl⟩
 cases b with
 |false =>
  refine LZ hb rfl rfl (PV.mo (Pv (fr:=fr) ok hs hP hI hL env H (λd H=>K .next (ρ.set i (some d)) H) A s he rm R F k) λv sb d H0a x R0a na k0a=>?_)
  exact Er (T:=.v i) he ht rm R0a (F.step na.2) x rfl λs' F' R' n'=>⟨_,H0a,na.toF.trans n',R',F',k0a⟩
 |true =>
  rw[exec_Assign_Name_used y py _ spos hb]
  refine wpAny_bind (wpAny_standAt (wpAny_bind ?_))
  show wpAny _ A (do let _ ←comprehension (.ListComp elt (⟨t1,i1,ifs,0⟩::rest) scope pos) scope env (firstIterPos (⟨t1,i1,ifs,0⟩::rest) pos) (newList []) false (eval i1 env) (some (assign (.Name y py) env));pure ()) _ _ _
  refine wpAny_bind (Tc (Q:=λ_ s'=>wpAny (model B.prog B.w) A (pure ()) (λ_ s'=>wpAny (model B.prog B.w) A (pure Flow.next) (PS B env H s K) B9 s') B9 s') (use:=some (assign (.Name y py) env)) (Kf:=λa acc H=>UY fr (λd H=>K .next (ρ.set i (some d)) H) a acc H) ok hs hP hI hL he rm R F k λa C s' H' acc x hCf hC0 hk=>?_)
  refine DX (hk.out x.rep) λd H'' z R'' S'' k''=>?_
  refine Ex x.ns λm hn=>?_
  have na:Nx H s H'' s':=x.nx.trans ⟨⟨s'.heap,s'.toks,rfl⟩,S''⟩
  have hC'':H'' C=none:=by refine J8 hn λo es ep ho _=>?_;exact(S''.keep _ _ ho x.hC).2
  have notIn:∀v,env.cells.lookup v=some C->(∃k,(v,k)∈env.scope.names/\(k= .cell\/k= .free))->False:=by
   rintro v hv ⟨k,hm,hk⟩
   obtain⟨c,w,a1,⟨o,ho,-⟩,e,-⟩:=F.cells v k hm hk
   obtain rfl:=Option.some.inj (hv.symm.trans a1)
   exact hCf o ho e
  have hCL:C≠env.locals:=by
   rintro rfl
   obtain⟨m',⟨o,es,ep,ho,-⟩,-⟩:=F.vals
   exact hCf o ho F.hL
  have hCF:¬I3 env C:=by
   rintro(e|⟨v,hk,hc⟩)
   ·exact hCL e
   ·exact notIn v hc ⟨.cell,DP hk,.inl rfl⟩
  refine Er (T:=.v i) he ht rm R'' (F.step na.2) z rfl λse F0c R0b ng=>?_
  have hna:se.heap.Ns C m:=hn.at' λo e=>(ng.2.keep C o e hC'' hCF).1
  refine⟨m,hna,λh' hs'=>wpAny_pure (wpAny_pure ?_)⟩
  have kk:∀a o,¬(a=C)->se.heap.get? a=some o->h'.get? a=some o:=λa o ha e=>hs'.extBut a o ha e
  have hS:∀b,b=C->Cd se.heap b:=λb e=>e▸Eg hna
  refine⟨_,H'',⟨?_,⟨λa o e q f=>?_⟩⟩,R0b.butX (X:=(· = C)) (λb e=>e▸hC'') (λb e=>e▸hC0) hS kk,F0c.butN (X:=(· = C)) hS (λb e=>e▸hCL) (λb v e hb=>?_) kk,k''⟩
  ·obtain⟨⟨h1,t1,rfl⟩,-⟩:=na
   obtain⟨⟨h2,t2,rfl⟩,-⟩:=ng
   exact⟨h',t2,rfl⟩
  ·refine Ea (na.2.keep a o e q) λe' q'=>?_
   refine Ea (ng.2.keep a o e' q' f) λe'' q''=>?_
   exact⟨kk a o (λz=>hCf o (z▸e) (z▸q)) e'',q''⟩
  ·subst e
   refine F3 hna λo es ep ho hd _=>?_
   refine BG hb λo' ho' hd'=>?_
   obtain rfl:=Option.some.inj (ho.symm.trans ho');rw[hd] at hd';cases hd'
theorem aZ{T:Qb}{Wt We:Bw->W1}(ht:Dp (F5 sc scope) T t1=true)(htest:∀ρ,V8 B n (F5 sc scope) ρ ifs (Wt ρ))(helt:∀ρ,B4 B n (F5 sc scope) ρ (eval elt) (We ρ)) :
  IO B n (F5 sc scope) (.ListComp elt [⟨t1,i1,ifs,0⟩] scope pos) t1 caps (λρc a items H Kf=>CK (λd H K=>match D5 T d ρc with
    |some ρ'=>Wt ρ' H (CX λc H=>if c then We ρ' H λr H=>K (some r) H else K none H)
    |none=>False) a items [] H Kf) :=
 λA cenv C a ρ H s H0a sb Kf R I items fp wr B3 St rm W hcs hcl frok hCf hC0 x y k hR=>dN W hcs hcl frok hCf hC0 ht rm htest helt x y k hR
theorem aa{t2 i2:Expr}{i0a:Nat}{P2:Expr->Prop}{W2:Bw->KH->(List D->KH->Prop)->Prop}{We:Bw->W1}(ht1:Dp (F5 sc scope) (.v i0a) t1=true)(ht2:Dp (F5 sc scope) (.v j) t2=true)(hP2:P2 t2)(hs2:HP i2=true)(hI2:∀ρ,Tb B n (F5 sc scope) ρ i2 P2 (W2 ρ))(helt:∀ρ,B4 B n (F5 sc scope) ρ (eval elt) (We ρ))
  (hj:caps[j]? = some none) (hij:i0a≠j) :
  IO B n (F5 sc scope) (.ListComp elt [⟨t1,i1,[],0⟩,⟨t2,i2,[],0⟩] scope pos) t1 caps (λρc a items H Kf=>Fh (λd acc H K=>W2 (ρc.set i0a (some d)) H λes H=>CK (λd' H K=>We ((ρc.set i0a (some d)).set j (some d')) H λr H=>K (some r) H) a es acc H K) items [] H Kf) :=
 λA cenv C a ρ H s H0a sb Kf R I items fp wr B3 St rm W hcs hcl frok hCf hC0 x y k hR=>dO W hcs hcl frok hCf hC0 ht1 ht2 hP2 hs2 rm hI2 helt (λd hd=>by
  unfold EJ at hd;rw[List.getElem?_map,hj] at hd;cases hd) hij x y k hR
end
section
open PySem.F
section
variable {prog:Program} {w:World} {A:Around} {E:Value->Shared->Prop} {s:Shared}
theorem NQ{z TI TO i1 i2 l1 l2:Addr}{k1 k2:Nat}{xs ys:Array Value}{x y a b:Value}(D:ZipApart z TI TO i1 i2 l1 l2)
  (hz:IsZip s.heap z TI TO .none) (hTI:IsPair s.heap TI (.ref i1) (.ref i2)) (hTO:IsPair s.heap TO a b)
  (h1:s.heap.IsListIter i1 l1 k1) (h2:s.heap.IsTupleIter i2 l2 k2) (hl1:s.heap.IsList l1 xs) (hl2:s.heap.IsTuple l2 ys) (hx:xs[k1]? = some x) (hy:ys[k2]? = some y)
  (hQ:∀h',IsZip h' z TI TO (rawInt s.heap.objs.size)->IsPair h' TO x y->h'.IsListIter i1 l1 (k1+1)->h'.IsTupleIter i2 l2 (k2+1)->IsPair h' s.heap.objs.size x y->h'.objs.size=s.heap.objs.size+1 ->
   (∀c o,c≠z->c≠TO->c≠i1->c≠i2->s.heap.get? c=some o->h'.get? c=some o)->Q (.ref s.heap.objs.size) {s with heap:=h'}) :
  wpAny (model prog w) A (Builtin.«zip.__next__» ⟨[.ref z],[]⟩) (λC5 s'=>∃v,C5= .done (.ret v)/\Q v s') E s:=by
 show wpAny _ _ (field (.ref z) 2>>=_) _ _ _
 refine wpAny_bind (wpAny_field hz rfl (x:=.bool false) rfl ?_)
 show wpAny _ _ (field (.ref z) 3>>=_) _ _ _
 refine wpAny_bind (wpAny_field hz rfl (x:=.ref TI) rfl ?_)
 refine wpAny_bind (wpAny_seqItems hTI rfl ?_)
 show wpAny _ _ (Builtin.SmallTypes.ownedTupleIsFree (.ref z)>>=_) _ _ _
 refine wpAny_bind ?_
 unfold Builtin.SmallTypes.ownedTupleIsFree
 refine wpAny_bind (wpAny_field hz rfl (x:=.none) rfl (wpAny_pure ?_))
 simp only[if_true]
 refine wpAny_bind (wpAny_rule ?_)
 refine wpAny_bind (wpAny_field hz rfl (x:=.ref TO) rfl ?_)
 refine wpAny_bind (wpAny_setField_rec hz (by simp) λh0b hz1 hsa=>?_)
 replace hz1:IsZip h0b z TI TO .ellipsis:=hz1
 refine wpAny_bind ?_
 simp only[List.zipIdx_cons,List.zipIdx_nil,List.forIn_cons,List.forIn_nil]
 refine wpAny_bind (wpAny_bind (wpAny_onRaise ?_))
 show wpAny _ _ (Builtin.SmallTypes.nextOf (.ref i1)>>=_) _ _ _
 refine wpAny_bind (wpAny_nextOf_list_item (h1.extBut hsa.extBut D.i1z) (hl1.extBut hsa.extBut D.l1z) hx λh0c h1a hsb=>wpAny_pure ?_)
 have hTO2:IsPair h0c TO a b:=hsb.extBut _ _ D.TOi1 (hsa.extBut _ _ D.TOz hTO)
 refine wpAny_bind (wpAny_seqItems hTO2 rfl ?_)
 refine wpAny_bind (wpAny_updateSeq_pair hTO2 λh0f hTO3 hs3=>?_)
 replace hTO3:IsPair h0f TO x b:=hTO3
 refine wpAny_bind (wpAny_letGo (wpAny_pure ?_))
 refine wpAny_bind (wpAny_bind (wpAny_onRaise ?_))
 show wpAny _ _ (Builtin.SmallTypes.nextOf (.ref i2)>>=_) _ _ _
 refine wpAny_bind (Fi (((h2.extBut hsa.extBut D.i2z).extBut hsb.extBut D.i12.symm).extBut hs3.extBut D.TOi2.symm)
  (((hl2.extBut hsa.extBut D.l2z).extBut hsb.extBut D.l2i1).extBut hs3.extBut D.l2TO) hy λh0e h24 hs4=>wpAny_pure ?_)
 have hTO4:IsPair h0e TO x b:=hs4.extBut _ _ D.TOi2 hTO3
 refine wpAny_bind (wpAny_seqItems hTO4 rfl ?_)
 refine wpAny_bind (wpAny_updateSeq_pair hTO4 λh0d hTO5 hs5=>?_)
 replace hTO5:IsPair h0d TO x y:=hTO5
 refine wpAny_bind (wpAny_letGo (wpAny_pure (wpAny_pure ?_)))
 refine wpAny_bind (wpAny_seqItems hTO5 rfl ?_)
 refine wpAny_bind (wpAny_newTuple ?_)
 have hsz:h0d.objs.size=s.heap.objs.size:=by rw[hs5.1,hs4.1,hs3.1,hsb.1,hsa.1]
 have hz5:IsZip h0d z TI TO .ellipsis:=hs5.extBut _ _ D.TOz.symm (hs4.extBut _ _ D.i2z.symm (hs3.extBut _ _ D.TOz.symm (hsb.extBut _ _ D.i1z.symm hz1)))
 have hk5:∀c o,c≠z->c≠TO->c≠i1->c≠i2->s.heap.get? c=some o->h0d.get? c=some o:=λc o c1 c2 c3 c4 e =>
  hs5.extBut _ _ c2 (hs4.extBut _ _ c4 (hs3.extBut _ _ c2 (hsb.extBut _ _ c3 (hsa.extBut _ _ c1 e))))
 have h15:h0d.IsListIter i1 l1 (k1+1):=((h1a.extBut hs3.extBut D.TOi1.symm).extBut hs4.extBut D.i12).extBut hs5.extBut D.TOi1.symm
 have h25:h0d.IsTupleIter i2 l2 (k2+1):=h24.extBut hs5.extBut D.TOi2.symm
 have hzlt:z<h0d.objs.size:=Heap.lt_size hz5
 have hTOlt:TO<h0d.objs.size:=Heap.lt_size hTO5
 have hi1lt:i1<h0d.objs.size:=by refine BG h15 λ_ e _=>?_;exact Heap.lt_size e
 have hi2lt:i2<h0d.objs.size:=by refine BG h25 λ_ e _=>?_;exact Heap.lt_size e
 show wpAny _ _ (Builtin.SmallTypes.ownedTupleHandOut (.ref z) (.ref h0d.objs.size)>>=_) _ _ _
 refine wpAny_bind ?_
 unfold Builtin.SmallTypes.ownedTupleHandOut
 have hz6:IsZip (h0d.push {cls:=.type "tuple",data:=.seq #[x,y]}) z TI TO .ellipsis:=Heap.get?_push_of_some _ hz5
 refine wpAny_bind (wpAny_setField_rec hz6 (by simp) λh0h hz7 hs7=>?_)
 replace hz7:IsZip h0h z TI TO (rawInt h0d.objs.size):=hz7
 refine wpAny_setField_rec hz7 (by simp) λh0g hza hs8=>?_
 replace hza:IsZip h0g z TI TO (rawInt h0d.objs.size):=hza
 have up:∀c o,c≠z->h0d.get? c=some o->h0g.get? c=some o:=λc o c1 e=>hs8.extBut _ _ c1 (hs7.extBut _ _ c1 (Heap.get?_push_of_some _ e))
 have hT8:IsPair h0g h0d.objs.size x y:=hs8.extBut _ _ (Nat.ne_of_gt hzlt) (hs7.extBut _ _ (Nat.ne_of_gt hzlt) (Heap.get?_push_size _ rfl))
 have hz8:h0g.objs.size=h0d.objs.size+1:=by rw[hs8.1,hs7.1,Heap.size_push]
 rw[hsz] at hza hT8 hz8
 refine wpAny_pure ⟨_,rfl,?_⟩
 show Q (.ref h0d.objs.size) _
 rw[hsz]
 exact hQ h0g hza (up _ _ D.TOz hTO5) (h15.at λo e=>up _ o D.i1z e) (h25.at λo e=>up _ o D.i2z e) hT8 hz8 λc o c1 c2 c3 c4 e=>up c o c1 (hk5 c o c1 c2 c3 c4 e)
theorem OU{z TI TO i1 i2 l1 l2:Addr}{k1 k2:Nat}{xs ys:Array Value}{a b:Value}{Q:Fin->Shared->Prop}(hh:A.handled=none)(D:ZipApart z TI TO i1 i2 l1 l2)
  (hz:IsZip s.heap z TI TO .none) (hTI:IsPair s.heap TI (.ref i1) (.ref i2)) (hTO:IsPair s.heap TO a b)
  (h1:s.heap.IsListIter i1 l1 k1) (h2:s.heap.IsTupleIter i2 l2 k2) (hl1:s.heap.IsList l1 xs) (hl2:s.heap.IsTuple l2 ys) (hend:xs[k1]? = none\/ys[k2]? = none)
  (hE:∀h' e,(∀c o,c≠z->c≠TO->c≠i1->c≠i2->s.heap.get? c=some o->h'.get? c=some o)->(∃o,h'.get? e=some o/\o.cls= .type "StopIteration")->E (.ref e) {s with heap:=h'}) :
  wpAny (model prog w) A (Builtin.«zip.__next__» ⟨[.ref z],[]⟩) Q E s:=by
 show wpAny _ _ (field (.ref z) 2>>=_) _ _ _
 refine wpAny_bind (wpAny_field hz rfl (x:=.bool false) rfl ?_)
 show wpAny _ _ (field (.ref z) 3>>=_) _ _ _
 refine wpAny_bind (wpAny_field hz rfl (x:=.ref TI) rfl ?_)
 refine wpAny_bind (wpAny_seqItems hTI rfl ?_)
 show wpAny _ _ (Builtin.SmallTypes.ownedTupleIsFree (.ref z)>>=_) _ _ _
 refine wpAny_bind ?_
 unfold Builtin.SmallTypes.ownedTupleIsFree
 refine wpAny_bind (wpAny_field hz rfl (x:=.none) rfl (wpAny_pure ?_))
 simp only[if_true]
 refine wpAny_bind (wpAny_rule ?_)
 refine wpAny_bind (wpAny_field hz rfl (x:=.ref TO) rfl ?_)
 refine wpAny_bind (wpAny_setField_rec hz (by simp) λh0b hz1 hsa=>?_)
 replace hz1:IsZip h0b z TI TO .ellipsis:=hz1
 refine wpAny_bind ?_
 simp only[List.zipIdx_cons,List.zipIdx_nil,List.forIn_cons,List.forIn_nil]
 refine wpAny_bind (wpAny_bind (wpAny_onRaise ?_))
 show wpAny _ _ (Builtin.SmallTypes.nextOf (.ref i1)>>=_) _ _ _
 cases hx:xs[k1]? with
 |none =>
  refine wpAny_bind (wpAny_nextOf_list_end hh (h1.extBut hsa.extBut D.i1z) (hl1.extBut hsa.extBut D.l1z) hx λh0c e hsb he=>?_)
  refine BG he λoe hoe hce=>?_
  have hz2:IsZip h0c z TI TO .ellipsis:=hsb _ _ D.i1z.symm hz1
  have hez:e≠z:=λx=>by subst x;obtain rfl:=Option.some.inj (hz2.symm.trans hoe);simp at hce
  refine wpAny_setField_rec hz2 (by simp) λh0f _ hs3=>hE h0f e (λc o c1 _ c3 _ x=>hs3.extBut _ _ c1 (hsb _ _ c3 (hsa.extBut _ _ c1 x))) ⟨oe,hs3.extBut _ _ hez hoe,hce⟩
 |some x =>
  have hy:ys[k2]? = none:=by rcases hend with h|h;rw[hx] at h;exact sN h;exact h
  refine wpAny_bind (wpAny_nextOf_list_item (h1.extBut hsa.extBut D.i1z) (hl1.extBut hsa.extBut D.l1z) hx λh0c h1a hsb=>wpAny_pure ?_)
  have hTO2:IsPair h0c TO a b:=hsb.extBut _ _ D.TOi1 (hsa.extBut _ _ D.TOz hTO)
  refine wpAny_bind (wpAny_seqItems hTO2 rfl ?_)
  refine wpAny_bind (wpAny_updateSeq_pair hTO2 λh0f hTO3 hs3=>?_)
  refine wpAny_bind (wpAny_letGo (wpAny_pure ?_))
  refine wpAny_bind (wpAny_bind (wpAny_onRaise ?_))
  show wpAny _ _ (Builtin.SmallTypes.nextOf (.ref i2)>>=_) _ _ _
  refine wpAny_bind (GN hh (((h2.extBut hsa.extBut D.i2z).extBut hsb.extBut D.i12.symm).extBut hs3.extBut D.TOi2.symm)
   (((hl2.extBut hsa.extBut D.l2z).extBut hsb.extBut D.l2i1).extBut hs3.extBut D.l2TO) hy λh0e e hs4 he=>?_)
  refine BG he λoe hoe hce=>?_
  have hz4:IsZip h0e z TI TO .ellipsis:=hs4 _ _ D.i2z.symm (hs3.extBut _ _ D.TOz.symm (hsb.extBut _ _ D.i1z.symm hz1))
  have hez:e≠z:=λx=>by subst x;obtain rfl:=Option.some.inj (hz4.symm.trans hoe);simp at hce
  refine wpAny_setField_rec hz4 (by simp) λh0d _ hs5=>hE h0d e (λc o c1 c2 c3 c4 x=>hs5.extBut _ _ c1 (hs4 _ _ c4 (hs3.extBut _ _ c2 (hsb.extBut _ _ c3 (hsa.extBut _ _ c1 x))))) ⟨oe,hs5.extBut _ _ hez hoe,hce⟩
theorem La{z TI TO i1 i2 l1 l2:Addr}{k1 k2:Nat}{xs ys:Array Value}{x y a b:Value}{Q:Option Value->Shared->Prop}(D:ZipApart z TI TO i1 i2 l1 l2)
  (hz:IsZip s.heap z TI TO .none) (hTI:IsPair s.heap TI (.ref i1) (.ref i2)) (hTO:IsPair s.heap TO a b)
  (h1:s.heap.IsListIter i1 l1 k1) (h2:s.heap.IsTupleIter i2 l2 k2) (hl1:s.heap.IsList l1 xs) (hl2:s.heap.IsTuple l2 ys) (hx:xs[k1]? = some x) (hy:ys[k2]? = some y)
  (hQ:∀h',IsZip h' z TI TO (rawInt s.heap.objs.size)->IsPair h' TO x y->h'.IsListIter i1 l1 (k1+1)->h'.IsTupleIter i2 l2 (k2+1)->IsPair h' s.heap.objs.size x y->h'.objs.size=s.heap.objs.size+1 ->
   (∀c o,c≠z->c≠TO->c≠i1->c≠i2->s.heap.get? c=some o->h'.get? c=some o)->Q (some (.ref s.heap.objs.size)) {s with heap:=h'}) :
  wpAny (model prog w) A (pyNext (.ref z)) Q E s:=by
 have hT:s.TypeIs (.ref z) "zip":=⟨_,hz,rfl⟩
 unfold pyNext
 exact wpAny_bind (wpAny_attempt (wpAny_callSpecial?_slot (name:=Str.ofString "__next__") hT F.slot_zip_next
  (wpAny_call_entry F.slot_zip_next hT F.entry_zip_next
   (NQ D hz hTI hTO h1 h2 hl1 hl2 hx hy λh' a1 a2 a3 a4 a5 a6 a7=>wpAny_pure (hQ h' a1 a2 a3 a4 a5 a6 a7)) (F.args_zip_next_1 _))))
theorem MX{z TI TO i1 i2 l1 l2:Addr}{k1 k2:Nat}{xs ys:Array Value}{a b:Value}{Q:Option Value->Shared->Prop}(hh:A.handled=none)(D:ZipApart z TI TO i1 i2 l1 l2)
  (hz:IsZip s.heap z TI TO .none) (hTI:IsPair s.heap TI (.ref i1) (.ref i2)) (hTO:IsPair s.heap TO a b)
  (h1:s.heap.IsListIter i1 l1 k1) (h2:s.heap.IsTupleIter i2 l2 k2) (hl1:s.heap.IsList l1 xs) (hl2:s.heap.IsTuple l2 ys) (hend:xs[k1]? = none\/ys[k2]? = none)
  (hQ:∀h',(∀c o,c≠z->c≠TO->c≠i1->c≠i2->s.heap.get? c=some o->h'.get? c=some o)->Q none {s with heap:=h'}):wpAny (model prog w) A (pyNext (.ref z)) Q E s:=by
 have hT:s.TypeIs (.ref z) "zip":=⟨_,hz,rfl⟩
 unfold pyNext
 refine wpAny_bind (wpAny_attempt (wpAny_callSpecial?_slot (name:=Str.ofString "__next__") hT F.slot_zip_next
  (wpAny_call_entry F.slot_zip_next hT F.entry_zip_next (OU hh D hz hTI hTO h1 h2 hl1 hl2 hend λh' e hk he=>?_) (F.args_zip_next_1 _))))
 refine BG he λo ho hc=>?_
 refine wpAny_bind (wpAny_isInstance (T:="StopIteration") (b:=true) ⟨o,ho,hc⟩ isSubtype_stop ?_)
 exact wpAny_pure (hQ _ hk)
end
noncomputable abbrev Pw(h:Heap)(l1:Addr):Heap:=h.push {cls:=.type "list_iterator",data:=.fields #[.ref l1,.int 0 0]}
abbrev Px(h:Heap)(l1 l2:Addr):Heap:=(Pw h l1).push {cls:=.type "tuple_iterator",data:=.fields #[.ref l2,.int 0 0]}
abbrev Py(h:Heap)(l1 l2:Addr):Heap:=(Px h l1 l2).push {cls:=.type "tuple",data:=.seq #[.ref h.objs.size,.ref (Pw h l1).objs.size]}
abbrev Pz(h:Heap)(l1 l2:Addr):Heap:=(Py h l1 l2).push {cls:=.type "tuple",data:=.seq #[.none,.none]}
abbrev Jp(h:Heap)(l1 l2:Addr):Heap:=(Pz h l1 l2).push {cls:=.type "zip",data:=.fields #[.none,.bool false,.bool false,.ref (Px h l1 l2).objs.size,.ref (Py h l1 l2).objs.size]}
theorem NR(l1 l2:Addr)(xs ys:Array Value) :
  Meets (Builtin.«zip.__new__» ⟨[.type "zip",.ref l1,.ref l2],[]⟩) (λ_ R s=>s.heap.IsList l1 xs/\s.heap.IsTuple l2 ys /\
   R (.ok (.ret (.ref (Pz s.heap l1 l2).objs.size))) {s with heap:=Jp s.heap l1 l2}) :=
 .of_wp λprog w A R s h=>by
  obtain⟨hp,g,d,tk,os⟩:=s;refine OK h λhl1 hl2 h=>?_
  have hsub:=sub_zip
  have hL1:Heap.IsList (Shared.heap ⟨hp,g,d,tk,os⟩) l1 xs:=hl1
  have hL2:Heap.IsTuple (Shared.heap ⟨hp.push {cls:=.type "list_iterator",data:=.fields #[.ref l1,.int 0 0]},g,d,tk,os⟩) l2 ys:=Heap.IsTuple.push hl2 _
  wp_walk using wpAny_pyIter_list hL1,wpAny_pyIter_tuple hL2
  exact⟨_,rfl,h⟩
section
variable {prog:Program} {w:World} {A:Around} {E:Value->Shared->Prop} {s:Shared}
theorem UZ{l1 l2:Addr}{xs ys:Array Value}(hl1:s.heap.IsList l1 xs)(hl2:s.heap.IsTuple l2 ys)
  (h:∀h',IsZip h' (s.heap.objs.size+4) (s.heap.objs.size+2) (s.heap.objs.size+3) .none->IsPair h' (s.heap.objs.size+2) (.ref s.heap.objs.size) (.ref (s.heap.objs.size+1)) ->
   IsPair h' (s.heap.objs.size+3) .none .none->h'.IsListIter s.heap.objs.size l1 0->h'.IsTupleIter (s.heap.objs.size+1) l2 0->h'.objs.size=s.heap.objs.size+5 ->
   (∀c o,s.heap.get? c=some o->h'.get? c=some o)->Q (.ref (s.heap.objs.size+4)) {s with heap:=h'}) :
  wpAny (model prog w) A (call (.type "zip") [.ref l1,.ref l2]) Q E s:=by
 refine callType_new F.called_zip (by decide) (F.typeCall_zip_2 _ _) (F.newCall_zip_2 _ _) (λobj=>F.args_object_init_3 obj _ _) F.entry_zip_new
  (NR l1 l2 xs ys) ⟨hl1,hl2,?_⟩
 have z1:(Pw s.heap l1).objs.size=s.heap.objs.size+1:=Heap.size_push ..
 have z2:(Px s.heap l1 l2).objs.size=s.heap.objs.size+2:=by rw[Heap.size_push,z1]
 have z3:(Py s.heap l1 l2).objs.size=s.heap.objs.size+3:=by rw[Heap.size_push,z2]
 have z4:(Pz s.heap l1 l2).objs.size=s.heap.objs.size+4:=by rw[Heap.size_push,z3]
 have z5:(Jp s.heap l1 l2).objs.size=s.heap.objs.size+5:=by rw[Heap.size_push,z4]
 have g5:(Jp s.heap l1 l2).get? (Pz s.heap l1 l2).objs.size=some _:=Heap.get?_push_size _ rfl
 have g4:(Jp s.heap l1 l2).get? (Py s.heap l1 l2).objs.size=some _:=Heap.get?_push_of_some _ (Heap.get?_push_size _ rfl)
 have g3:(Jp s.heap l1 l2).get? (Px s.heap l1 l2).objs.size=some _:=Heap.get?_push_of_some _ (Heap.get?_push_of_some _ (Heap.get?_push_size _ rfl))
 have g2:(Jp s.heap l1 l2).get? (Pw s.heap l1).objs.size=some _:=Heap.get?_push_of_some _ (Heap.get?_push_of_some _ (Heap.get?_push_of_some _ (Heap.get?_push_size _ rfl)))
 have g1:(Jp s.heap l1 l2).get? s.heap.objs.size=some _:=Heap.get?_push_of_some _ (Heap.get?_push_of_some _ (Heap.get?_push_of_some _ (Heap.get?_push_of_some _ (Heap.get?_push_size _ rfl))))
 show _/\_
 rw[z2,z3,z4] at g5
 rw[z1,z2] at g3
 rw[z3] at g4
 rw[z1] at g2
 rw[z4]
 exact⟨⟨_,g5,rfl⟩,h _ g5 g3 g4 ⟨_,g1,rfl,rfl⟩ ⟨_,g2,rfl,rfl⟩ z5 λc o x =>
  Heap.get?_push_of_some _ (Heap.get?_push_of_some _ (Heap.get?_push_of_some _ (Heap.get?_push_of_some _ (Heap.get?_push_of_some _ x))))⟩
end
theorem ab{X:Addr->Prop}(hX:∀a,X a->H a=Option.none->Cd h a)(S:Bt X H h H' h'):T5 h H h' H':=λa o xs n z e q=>S.keep a o e q λx=>hX a x q o e xs n z
theorem BN.stepY{X:Addr->Prop}(hX:∀a,X a->H a=Option.none->Cd h a)(S:Bt X H h H' h'){v d}(x:BN h H v d):BN h' H' v d:=x.map (ab hX S)
theorem AR.stepY{X:Addr->Prop}(hX:∀a,X a->H a=Option.none->Cd h a)(S:Bt X H h H' h'){vs ds}(x:AR h H vs ds):AR h' H' vs ds:=x.map (ab hX S)
theorem Fe.stepY{X:Addr->Prop}(hX:∀a,X a->H a=none->Cd h a)(S:Bt X H h H' h'){mQ mP}(x:Fe h H mQ mP):Fe h' H' mQ mP:=by
 induction x with
 |nil=>exact .nil
 |cons a _ ih=>exact .cons (a.stepY hX S) ih
theorem EW.stepY{X:Addr->Prop}(hX:∀a,X a->H a=none->Cd h a)(S:Bt X H h H' h'){es mP}(x:EW h H es mP):EW h' H' es mP:=by
 induction x with
 |nil=>exact .nil
 |cons a _ ih=>exact .cons (a.stepY hX S) ih
theorem BP.butY{X:Addr->Prop}(R:BP B H h)(hb:∀b,X b->H b=none\/(H b=some .pair/\∃v w,h'.get? b=some (Cy [v,w] 0)))(h0:∀b,X b->B.h0a.get? b=none)(hs:∀b,X b->H b=none->Cd h b)(hk:∀a o,¬X a->h.get? a=some o->h'.get? a=some o):BP B H h':=by
 have S:Bt X H h H h':=Bt.of hk
 refine⟨λc o e=>⟨hk c o (λx=>by rw[h0 c x] at e;exact nS e) (R.base c o e).1,(R.base c o e).2⟩,λa A e=>?_⟩
 obtain⟨⟨o,ho⟩,r⟩:=R.know a A e
 by_cases hab:X a
 ·rcases hb a hab with z|⟨z,v,w,q⟩
  ·rw[e] at z;exact sN z
  ·obtain rfl:=Option.some.inj (e.symm.trans z)
   exact⟨⟨_,q⟩,v,w,q⟩
 refine⟨⟨o,hk a o hab ho⟩,?_⟩
 have mv:∀o,h.get? a=some o->h'.get? a=some o:=λo e=>hk a o hab e
 cases A with
 |list ds=>refine CJ r λvs n q l z=>?_;exact⟨vs,n,mv _ q,l,z.stepY hs S⟩
 |dict mP=>refine DO r λmQ q l z=>?_;refine BG (Heap.dictOf_iff.mp q) λo ho hd=>?_;exact⟨mQ,Heap.dictOf_iff.mpr ⟨o,mv _ ho,hd⟩,l,z.stepY hs S⟩
 |inst C dx=>exact mv _ r
 |attrs mP=>refine CJ r λes n q l z=>?_;exact⟨es,n,mv _ q,l,z.stepY hs S⟩
 |idict=>refine BG r λmQ q l=>?_;refine BG (Heap.dictOf_iff.mp q) λo ho hd=>?_;exact⟨mQ,Heap.dictOf_iff.mpr ⟨o,mv _ ho,hd⟩,l⟩
 |pair=>refine OI r λv w q=>?_;exact⟨v,w,mv _ q⟩
theorem SV(b:Addr):BE H h (H.erase b) h:=⟨λa o e q=>⟨e,by unfold KH.erase;split<;>first|rfl|exact q⟩⟩
theorem BP.butE{X:Addr->Prop}(R:BP B H h)(hb:∀b,X b->b=t\/H b=none)(h0:∀b,X b->B.h0a.get? b=none)(hs:∀b,X b->H b=none->Cd h b)(hk:∀a o,¬X a->h.get? a=some o->h'.get? a=some o):BP B (H.erase t) h':=by
 have S:Bt X H h (H.erase t) h':=⟨λa o e q f=>⟨hk a o f e,by unfold KH.erase;split<;>first|rfl|exact q⟩⟩
 refine⟨λc o e=>S.keep c o (R.base c o e).1 (R.base c o e).2 (λx=>by rw[h0 c x] at e;exact nS e),λa A e=>?_⟩
 have hat:a≠t:=by rintro rfl;rw[KH.erase_self] at e;exact nS e
 rw[KH.erase_ne _ hat] at e
 obtain⟨⟨o,ho⟩,r⟩:=R.know a A e
 have hab:¬X a:=λx=>by
  rcases hb a x with z|z
  ·exact hat z
  ·rw[e] at z;exact sN z
 refine⟨⟨o,hk a o hab ho⟩,?_⟩
 have mv:∀o,h.get? a=some o->h'.get? a=some o:=λo e=>hk a o hab e
 cases A with
 |list ds=>refine CJ r λvs n q l z=>?_;exact⟨vs,n,mv _ q,l,z.stepY hs S⟩
 |dict mP=>refine DO r λmQ q l z=>?_;refine BG (Heap.dictOf_iff.mp q) λo ho hd=>?_;exact⟨mQ,Heap.dictOf_iff.mpr ⟨o,mv _ ho,hd⟩,l,z.stepY hs S⟩
 |inst C dx=>exact mv _ r
 |attrs mP=>refine CJ r λes n q l z=>?_;exact⟨es,n,mv _ q,l,z.stepY hs S⟩
 |idict=>refine BG r λmQ q l=>?_;refine BG (Heap.dictOf_iff.mp q) λo ho hd=>?_;exact⟨mQ,Heap.dictOf_iff.mpr ⟨o,mv _ ho,hd⟩,l⟩
 |pair=>refine OI r λv w q=>?_;exact⟨v,w,mv _ q⟩
theorem BQ.butY{ρ:Bw}{X:Addr->Prop}(F:BQ B env ρ H h)(hs:∀b,X b->H b=none->Cd h b)(hf:∀b,X b->KL h b)(hk:∀a o,¬X a->h.get? a=some o->h'.get? a=some o):BQ B env ρ H h':=by
 obtain⟨ok,len,hL,bL,cells,m,hn',vals⟩:=F
 have cl:∀{c v},h.IsCell c v->h'.IsCell c v:=λy=>IsCell.at y λo e'=>hk _ o (λz=>(hf _ z).ne_cell y rfl) e'
 refine⟨ok,len,hL,bL,λx k hm hk'=>?_,m,hn'.at' λo e=>hk _ o (λz=>(hf _ z).ne_ns hn' rfl) e,λi x k d hi hρ hv=>?_⟩
 ·refine DX (cells x k hm hk') λc v a b e z=>?_
  exact⟨c,v,a,cl b,e,z⟩
 ·refine BG (vals i x k d hi hρ hv) λv a q=>?_
  refine⟨v,?_,q.stepY hs (Bt.of hk)⟩
  cases k with
  |«local»=>exact a
  |cell=>refine BG a λc a1 a2=>?_;exact⟨c,a1,cl a2⟩
  |free=>refine BG a λc a1 a2=>?_;exact⟨c,a1,cl a2⟩
  |_=>exact a
end
noncomputable abbrev VD(z TI TO i1 i2 l1 l2:Addr)(xs ys:List Value)(i:Nat)(h:Heap):Prop :=
 IsZip h z TI TO .none/\IsPair h TI (.ref i1) (.ref i2)/\h.IsListIter i1 l1 i/\h.IsTupleIter i2 l2 i/\h.IsList l1 xs.toArray/\h.IsTuple l2 ys.toArray
theorem VD.at{z TI TO i1 i2 l1 l2:Addr}{xs ys:List Value}(x:VD z TI TO i1 i2 l1 l2 xs ys i h)(hk:∀b∈[z,TI,i1,i2,l1,l2],∀o,h.get? b=some o->h'.get? b=some o):VD z TI TO i1 i2 l1 l2 xs ys i h':=by
 refine Ro x λa b c d e f=>?_
 exact⟨hk z (by simp) _ a,hk TI (by simp) _ b,c.at λo q=>hk i1 (by simp) o q,d.at λo q=>hk i2 (by simp) o q,e.at λo q=>hk l1 (by simp) o q,f.at λo q=>hk l2 (by simp) o q⟩
theorem VD.nofr{z TI TO i1 i2 l1 l2:Addr}{xs ys:List Value}(x:VD z TI TO i1 i2 l1 l2 xs ys i h):∀b∈[z,TI,i1,i2,l1,l2],KL h b:=by
 obtain⟨a,b,⟨o1,c1,-,c3⟩,⟨o2,d1,-,d3⟩,⟨o3,e1,-,m3,e3⟩,⟨o4,f1,-,m4,f3⟩⟩:=x
 intro q hq
 simp at hq
 rcases hq with rfl|rfl|rfl|rfl|rfl|rfl
 ·exact⟨_,a,.inr ⟨_,rfl⟩⟩
 ·exact⟨_,b,.inl ⟨_,_,rfl⟩⟩
 ·exact⟨o1,c1,.inr ⟨_,c3⟩⟩
 ·exact⟨o2,d1,.inr ⟨_,d3⟩⟩
 ·exact⟨o3,e1,.inl ⟨_,_,e3⟩⟩
 ·exact⟨o4,f1,.inl ⟨_,_,f3⟩⟩
section
variable {B:Base} {n:Nat} {sc:Scope} {env:Env} {e tgt a b:Expr} {pos p:Pos} {Wa Wb:Bw->W1} {WB:WS}
theorem Ua{z TO i1 i2:Addr}{P:Addr->Prop}(a:P z)(b:P TO)(c:P i1)(d:P i2):∀x∈[z,TO,i1,i2],P x:=λx h=>by
 simp only[List.mem_cons,List.not_mem_nil,or_false] at h
 rcases h with rfl|rfl|rfl|rfl<;>assumption
theorem jQ{z TO i1 i2 l1 l2:Addr}{P:Addr->Prop}(a:P z)(b:P TO)(c:P i1)(d:P i2)(e:P l1)(f:P l2):∀x∈[z,TO,i1,i2,l1,l2],P x:=λx h=>by
 simp only[List.mem_cons,List.not_mem_nil,or_false] at h
 rcases h with rfl|rfl|rfl|rfl|rfl|rfl<;>assumption
theorem in1{a:Addr}{l:List Addr}:a∈a::l:=.head _
theorem in2{a b:Addr}{l:List Addr}:b∈a::b::l:=.tail _ (.head _)
theorem jR{a b c:Addr}{l:List Addr}:c∈a::b::c::l:=.tail _ (.tail _ (.head _))
theorem jS{a b c d:Addr}{l:List Addr}:d∈a::b::c::d::l:=.tail _ (.tail _ (.tail _ (.head _)))
theorem gp{z TO i1 i2 x:Addr}(h:x∉[z,TO,i1,i2]):x≠z/\x≠TO/\x≠i1/\x≠i2:=by
 simp only[List.mem_cons,List.not_mem_nil,or_false,not_or] at h
 exact h
inductive ZL(B:Base)(env:Env)(H0c:KH)(s0:Shared)(z TI TO i1 i2 l1 l2:Addr)(xs ys:List Value)(ds es:List D)(Z:Nat->Bw->KH->Prop)(k:Nat)(s':Shared):Prop
 |mk (m:Nat) (ρ':Bw) (H':KH) (e:k=(ds.zip es).length-m) (hm:m<=(ds.zip es).length) (n:ID env H0c s0 H' s') (R:BP B H' s'.heap) (F:BQ B env ρ' H' s'.heap) (zs:VD z TI TO i1 i2 l1 l2 xs ys m s'.heap) (o:H' TO=some .pair) (hx:AR s'.heap H' xs ds) (hy:AR s'.heap H' ys es) (hfp:∀b∈[z,TI,i1,i2,l1,l2],H' b=none) (g:Z m ρ' H')
theorem Ub{st:List Stmt}{z TI TO i1 i2 l1 l2:Addr}{xs ys:List Value}{es:List D}{ρ:Bw}{H0c:KH}{K:KS}{R:Result->Shared->Prop}
  (D:ZipApart z TI TO i1 i2 l1 l2) (ht:GO sc (.t [i,j]) tgt=true) (hb:F4 B n sc (execs st) WB) (he:env.scope=sc) (rm:Rm n A) (Rp:BP B H s.heap) (F:BQ B env ρ H s.heap) (nh:ID env H0c s0 H s)
  (zs:VD z TI TO i1 i2 l1 l2 xs ys 0 s.heap) (hTO:H TO=some .pair) (hx:AR s.heap H xs ds) (hy:AR s.heap H ys es) (hfp:∀b∈[z,TI,i1,i2,l1,l2],H b=none) (hw0:∀b∈[z,TO,i1,i2],B.h0a.get? b=none) (hws:∀b∈[z,TO,i1,i2],∀o,s0.heap.get? b=some o->H0c b=none->False)
  (k:HN WB i j TO (ds.zip es) ρ H K) (hR:∀f s',PS B env H0c s0 K f s'->R (.ok f) s') :
  codeAny (model B.prog B.w) A (.forLoop tgt (.ref z) st [] env) R s:=by
 refine J8 (Ps ht) λelts kk tp mN ht'=>?_;subst mN
 refine codeAny_forLoop_any (ZL B env H0c s0 z TI TO i1 i2 l1 l2 xs ys ds es λm ρ' H'=>HN WB i j TO ((ds.zip es).drop m) ρ' H' K) ?_ (ds.zip es).length
  ⟨0,ρ,H,rfl,Nat.zero_le _,nh,Rp,F,zs,hTO,hx,hy,hfp,k⟩
 rintro k s' ⟨m,ρ',H',rfl,hm,n',R',F',zs',hTO',hx',hy',hfp',g⟩
 refine jM (R'.know _ _ hTO') λ_ ve wa hpair=>?_
 have hz0:B.h0a.get? TO=none:=hw0 TO in2
 have noTO:KL s'.heap TO:=⟨_,hpair,.inl ⟨_,_,rfl⟩⟩
 have nf:=VD.nofr zs'
 have hN:∀b,b∈[z,TO,i1,i2]->KL s'.heap b:=Ua (nf _ in1) noTO (nf _ jR) (nf _ jS)
 have hS:∀b,b∈[z,TO,i1,i2]->H' b=none->Cd s'.heap b:=by
  obtain⟨q1,q2,⟨o1,c1,-,c3⟩,⟨o2,d1,-,d3⟩,-,-⟩:=zs'
  refine Ua (λ_=>?_) (λhH=>?_) (λ_=>?_) λ_=>?_
  ·intro o ho xs' m' q;obtain rfl:=Option.some.inj (q1.symm.trans ho);cases q
  ·rw[hTO'] at hH;exact sN hH
  ·intro o ho xs' m' q;obtain rfl:=Option.some.inj (c1.symm.trans ho);rw[c3] at q;cases q
  ·intro o ho xs' m' q;obtain rfl:=Option.some.inj (d1.symm.trans ho);rw[d3] at q;cases q
 have turn:∀s'':Shared,(∃h tk,s''={s' with heap:=h,toks:=tk})->(∀b o,b∉[z,TO,i1,i2]->s'.heap.get? b=some o->s''.heap.get? b=some o)->(∃v w,s''.heap.get? TO=some (Cy [v,w] 0)) ->
   ID env H0c s0 H' s''/\BP B H' s''.heap/\BQ B env ρ' H' s''.heap/\AR s''.heap H' xs ds/\AR s''.heap H' ys es:=by
  rintro s'' ⟨h,tk,rfl⟩ hk hp
  have kk:∀a o,¬(a∈[z,TO,i1,i2])->s'.heap.get? a=some o->h.get? a=some o:=λa o hb e=>hk a o hb e
  refine⟨⟨?_,⟨λa o e q f=>?_⟩⟩,R'.butY (X:=(·∈[z,TO,i1,i2])) (Ua (.inl (hfp' _ in1)) (.inr ⟨hTO',hp⟩) (.inl (hfp' _ jR)) (.inl (hfp' _ jS))) hw0 hS kk,F'.butY (X:=(·∈[z,TO,i1,i2])) hS hN kk,hx'.stepY hS (Bt.of kk),hy'.stepY hS (Bt.of kk)⟩
  ·obtain⟨⟨h1,t1,rfl⟩,-⟩:=n';exact⟨h,tk,rfl⟩
  ·refine Ea (n'.2.keep a o e q f) λe' q'=>?_
   exact⟨kk a o (λhb=>hws a hb o e q) e',q'⟩
 by_cases hlt:m<(ds.zip es).length
 ·have hmin:m<ds.length/\m<es.length:=by rw[List.length_zip] at hlt;exact⟨AA [_,_,_] [] [.u Aa Af,.l Af Ab] (.u Aa Ab) rfl hlt (Nat.min_le_left _ _),AA [_,_,_] [] [.u Aa Af,.l Af Ab] (.u Aa Ab) rfl hlt (Nat.min_le_right _ _)⟩
  have hvx:m<xs.length:=by rw[hx'.length];exact hmin.1
  have hvy:m<ys.length:=by rw[hy'.length];exact hmin.2
  rw[List.drop_eq_getElem_cons hlt] at g
  unfold HN at g
  refine Ro (id zs') λq1 q2 q3 q4 q5 q6=>?_
  refine wpAny_mono (La (E:=B9) (Q:=λr se=>∃v,r=some v/\wpAny (model B.prog B.w) A (letOwnedTupleGo (.Tuple elts kk tp) (.ref z) v) (λ_ sf=>BN sf.heap H' v (.tup [ds[m],es[m]])/\VD z TI TO i1 i2 l1 l2 xs ys (m+1) sf.heap/\(∃h tk,sf={s' with heap:=h,toks:=tk})/\(∀b o,b∉[z,TO,i1,i2]->s'.heap.get? b=some o->sf.heap.get? b=some o)/\(∃v w,sf.heap.get? TO=some (Cy [v,w] 0))) B9 se) (x:=xs[m]) (y:=ys[m]) D q1 q2 (a:=ve) (b:=wa) ?_ q3 q4 q5 q6 (by simp[hvx]) (by simp[hvy])
   λh' a1 a2 a3 a4 a5 a6 a7=>⟨_,rfl,wpAny_letOwnedTupleGo_zip (s:={s' with heap:=h'}) a1 λh0c b1 b2=>?_⟩) (λr se hh=>BG hh λv e hr=>?_) λ_ _ x=>x.elim
  ·exact hpair
  ·have kz:∀c o,c∉[z,TO,i1,i2]->s'.heap.get? c=some o->h0c.get? c=some o:=λc o hc q=>by
    have hc:=gp hc
    exact b2.extBut c o hc.1 (a7 c o hc.1 hc.2.1 hc.2.2.1 hc.2.2.2 q)
   have hT:h0c.get? s'.heap.objs.size=some (Cy [xs[m],ys[m]] 0):=b2.extBut _ _ (Nat.ne_of_gt (Heap.lt_size q1)) a5
   have e1:BN s'.heap H' xs[m] ds[m]:=by
    refine BG (hx'.get (k:=m) (d:=ds[m]) (by simp[hmin.1])) λv h1 h2=>?_
    rw[List.getElem?_eq_getElem hvx] at h1;obtain rfl:=Option.some.inj h1;exact h2
   have e2:BN s'.heap H' ys[m] es[m]:=by
    refine BG (hy'.get (k:=m) (d:=es[m]) (by simp[hmin.2])) λv h1 h2=>?_
    rw[List.getElem?_eq_getElem hvy] at h1;obtain rfl:=Option.some.inj h1;exact h2
   have S:Bt (·∈[z,TO,i1,i2]) H' s'.heap H' h0c:=Bt.of λa o ha q=>kz a o ha q
   refine⟨.tup hT R'.free (by rw[sizeLine_eq];simp) (.cons (e1.stepY hS S) (.cons (e2.stepY hS S) .nil)),⟨b1,kz TI _ (by simp[D.TIz,D.TITO,D.TIi1,D.TIi2]) q2,(a3.extBut b2.extBut D.i1z),(a4.extBut b2.extBut D.i2z),q5.at λo q=>kz l1 o (by simp[D.l1z,D.l1TO,D.l1i1,D.l1i2]) q,q6.at λo q=>kz l2 o (by simp[D.l2z,D.l2TO,D.l2i1,D.l2i2]) q⟩,⟨h0c,s'.toks,rfl⟩,kz,⟨_,_,b2.extBut _ _ D.TOz a2⟩⟩
  ·subst e
   refine wpAny_mono hr (λ_ se ⟨hv,st1,hsa,hk1,hpa⟩=>?_) λ_ _ x=>x.elim
   refine aS (turn se hsa hk1 hpa) λna R0a F0a hx1 hya=>?_
   refine V0 (Er (T:=.t [i,j]) (ρ':=(ρ'.set i (some ds[m])).set j (some es[m])) he ht rm R0a F0a hv rfl λsf F0b R0c n3=>?_)
   have gz:(ds.zip es)[m]=(ds[m],es[m]):=by simp
   rw[gz] at g
   refine PS.mo (hb env _ H' _ A sf he rm R0c F0b g) λf si ρ4 H0e n4 R0d F0d k0d=>?_
   have nn:=n3.trans n4
   have hX:∀a,I3 env a->Cd se.heap a:=by
    rintro a (rfl|⟨y,hk,hc⟩)
    ·refine BG F0a.vals λm hn _=>?_;exact Eg hn
    ·refine CJ (F0a.cells y .cell (DP hk) (.inl rfl)) λc v a' q _=>?_
     obtain rfl:=Option.some.inj (hc.symm.trans a');exact LR q
   have hk4:∀b∈[z,TI,i1,i2,l1,l2],∀o,se.heap.get? b=some o->si.heap.get? b=some o/\H0e b=none:=λb hb' o e=>nn.2.keep b o e (hfp' b hb') (F0a.notIn (VD.nofr st1 b hb'))
   have SF:Bt (I3 env) H' se.heap H0e si.heap:=⟨λa o e q f=>nn.2.keep a o e q f⟩
   have again:H0e TO=some .pair->HN WB i j TO ((ds.zip es).drop (m+1)) ρ4 H0e K->∃m',m'<(ds.zip es).length-m/\ZL B env H0c s0 z TI TO i1 i2 l1 l2 xs ys ds es (λm ρ' H'=>HN WB i j TO ((ds.zip es).drop m) ρ' H' K) m' si:=by
    intro hp g'
    refine⟨(ds.zip es).length-(m+1),Nat.sub_lt_sub_left hlt (Nat.lt_succ_self _),m+1,ρ4,H0e,rfl,hlt,na.trans nn,R0d,F0d,VD.at st1 λb hb' o e=>(hk4 b hb' o e).1,hp,hx1.stepX hX SF,hya.stepX hX SF,λb hb'=>?_,g'⟩
    refine BG (VD.nofr st1 b hb') λo ho _=>?_
    exact(hk4 b hb' o ho).2
   refine Ea (R0d.erase TO hz0) λR0f S0e=>?_
   have C5:∀{f},PF si.heap (H0e.erase TO) K ρ4 f->PS B env H0c s0 K f si:=λpf=>⟨ρ4,H0e.erase TO,(na.trans nn).trans (Nx.toF ⟨⟨si.heap,si.toks,rfl⟩,S0e⟩),R0f,F0d.step S0e,pf⟩
   cases f with
   |next=>exact again k0d.1 k0d.2
   |cont=>exact again k0d.1 k0d.2
   |brk=>exact hR _ _ (C5 (f:=.next) k0d.2)
   |ret v =>
    refine DO k0d λd hd' _ k0d=>?_
    exact hR _ _ (C5 (f:=.ret v) ⟨d,hd'.step S0e,k0d⟩)
 ·have hin:m=(ds.zip es).length:=Nat.le_antisymm hm (Nat.le_of_not_lt hlt)
  subst hin
  rw[List.drop_length] at g
  refine Ro (id zs') λq1 q2 q3 q4 q5 q6=>?_
  have hend:xs.toArray[(ds.zip es).length]? = none\/ys.toArray[(ds.zip es).length]? = none:=by
   rw[List.length_zip]
   have h1:=hx'.length
   have h2:=hy'.length
   by_cases hq:ds.length<=es.length
   ·left;simp;exact(Nat.le_total _ _).elim (λmH=>AA [_,_,_] [] [.e Aa Af,.r Ab Af] (.l Aa Ab) rfl h1 (Nat.min_eq_left mH)) (λmH=>AA [_,_,_,_] [] [.e Aa Af,.l Af Aq,.r Ab Aq] (.l Aa Ab) rfl h1 hq (Nat.min_eq_right mH))
   ·right;simp;exact(Nat.le_total _ _).elim (λmH=>AA [_,_,_,_] [] [.e Aa Aq,.u Aq Af,.r Ab Af] (.l Aa Ab) rfl h2 (Nat.lt_of_not_le hq) (Nat.min_eq_left mH)) (λmH=>AA [_,_,_] [] [.e Aa Af,.r Ab Af] (.l Aa Ab) rfl h2 (Nat.min_eq_right mH))
  refine wpAny_mono (MX (E:=B9) (Q:=λr se=>r=none/\ID env H0c s0 (H'.erase TO) se/\BP B (H'.erase TO) se.heap/\BQ B env ρ' (H'.erase TO) se.heap) rm.hd D q1 q2 hpair q3 q4 q5 q6 hend λh' hk=>⟨rfl,?_⟩) (λr se hh=>Pf hh λe h1 h2 h3=>?_) λ_ _ x=>x.elim
  ·have hk':∀b o,b∉[z,TO,i1,i2]->s'.heap.get? b=some o->h'.get? b=some o:=λb o hb q=>by
    have hb:=gp hb;exact hk b o hb.1 hb.2.1 hb.2.2.1 hb.2.2.2 q
   have kk:∀a o,¬(a∈[z,TO,i1,i2])->s'.heap.get? a=some o->h'.get? a=some o:=λa o hb e=>hk' a o hb e
   refine⟨⟨?_,⟨λa o e q f=>?_⟩⟩,R'.butE (X:=(·∈[z,TO,i1,i2])) (Ua (.inr (hfp' _ in1)) (.inl rfl) (.inr (hfp' _ jR)) (.inr (hfp' _ jS))) hw0 hS kk,(F'.butY (X:=(·∈[z,TO,i1,i2])) hS hN kk).step (SV TO)⟩
   ·obtain⟨⟨h1,t1,rfl⟩,-⟩:=n';exact⟨h',t1,rfl⟩
   ·refine Ea (n'.2.keep a o e q f) λe' q'=>?_
    exact⟨kk a o (λhb=>hws a hb o e q) e',by unfold KH.erase;split<;>first|rfl|exact q'⟩
  ·subst e
   exact wpAny_execs_nil (hR _ _ ⟨ρ',H'.erase TO,h1,h2,h3,g⟩)
theorem Uc{st:List Stmt}{zp:Pos}(hx:sc.names.lookup ("zip":Str)=some .globalImplicit)(hp:Be a=true)(hp':Be b=true)(ha:∀ρ,B4 B n sc ρ (eval a) (Wa ρ))(hb':∀ρ,B4 B n sc ρ (eval b) (Wb ρ))(ht:GO sc (.t [i,j]) tgt=true)(hb:F4 B n sc (execs st) WB) :
  F4 B n sc (exec (.For tgt (.Call (.Name ("zip":Str) np) [a,b] [] zp) st [] pos)) (λρ H K=>Wa ρ H λd H=>Wb ρ H λe H=>match d,e with
  |.lst ds,.tup es=>∀t,H t=none->HN WB i j t (ds.zip es) ρ (H.set t .pair) K
  |_,_=>False):=by
 intro env ρ H K A s he rm R F k
 have hk:env.kindOf ("zip":Str)=some .globalImplicit:=by subst he;exact hx
 have hpl:BH [a,b]=true:=by unfold BH BH;rw[hp,hp'];rfl
 refine wpAny_For ?_ (λx=>rfl)
 show wpAny _ A (do let fv ←eval (.Name "zip" np) env;callWith zp fv [] (backTo zp (starEach [a,b] env)) []) _ _ _
 refine wpAny_bind (Do R F hk rfl (B.nb _ (by simp[C6])) (by decide) Vv ?_)
 refine DZ DT hpl (Cz (λenv=>CB hp env) (ha ρ) (Cz (λenv=>CB hp' env) (hb' ρ) Eh)) he rm R F (K:=λds H=>match MW ds,Zo ds with
  |.lst ds,.tup es=>∀t,H t=none->HN WB i j t (ds.zip es) ρ (H.set t .pair) K
  |_,_=>False) k ?_
 intro vs ds' H0a sb y R0a na l₁ k0a
 refine OI (cr l₁) λd e mN=>?_;subst mN
 dsimp only[MW,Zo] at k0a
 split at k0a<;>try exact k0a.elim
 rename_i ds es
 refine CJ y.two λv w mN q q'=>?_;subst mN
 refine q.lstE λl1 xs m1 e1 q1 g1 r1=>?_
 refine q'.tupE λl2 ys m2 e2 q2 g2 r2=>?_
 show wpAny _ A (call (.type "zip") [.ref l1,.ref l2]) _ _ _
 refine UZ (xs:=xs.toArray) (ys:=ys.toArray) ⟨_,e1,rfl,m1,rfl⟩ ⟨_,e2,rfl,m2,rfl⟩ λh' hz hTI hTO hi1 hi2 hsz hk'=>?_
 refine wpAny_pyIter_zip (s:={sb with heap:=h'}) hz ?_
 have new:∀i,sb.heap.get? (sb.heap.objs.size+i)=none:=λi=>by
  cases q:sb.heap.get? (sb.heap.objs.size+i) with
  |none=>rfl
  |some o=>exact absurd (Heap.lt_size q) (Nat.not_lt.mpr (Nat.le_add_right _ _))
 have new0:sb.heap.get? sb.heap.objs.size=none:=Bq
 have hlt1:l1<sb.heap.objs.size:=Heap.lt_size e1
 have hlt2:l2<sb.heap.objs.size:=Heap.lt_size e2
 have hx:Heap.ExtBut (sb.heap.objs.size+3) sb.heap h':=λb o _ e=>hk' b o e
 have S:BE H0a sb.heap (H0a.set (sb.heap.objs.size+3) .pair) h':=BE.put hx (.inr (new 3))
 have R0b:BP B (H0a.set (sb.heap.objs.size+3) .pair) h':=R0a.put hx (.inr (new 3)) ⟨_,hTO⟩ ⟨_,_,hTO⟩
 have ng:Nx H0a sb (H0a.set (sb.heap.objs.size+3) .pair) {sb with heap:=h'}:=⟨⟨h',sb.toks,rfl⟩,S⟩
 have ne3:∀i:Nat,i≠3->(sb.heap.objs.size+i:Nat)≠sb.heap.objs.size+3:=λi hi=>by exact λmL=>(Nat.lt_or_gt_of_ne hi).elim (λmH=>AA [_,_] [] [.r (.p Aa Ab) (.p Aa An),.u Ab An] .f rfl mL mH) (λmH=>AA [_,_] [] [.u An Ab,.e (.p Aa Ab) (.p Aa An)] .f rfl mH mL)
 have ne30:(sb.heap.objs.size:Nat)≠sb.heap.objs.size+3:=by exact λmL=>AA [_] [] [.r Aa (.p Aa An)] .f rfl mL
 have ne3l:∀l:Nat,l<sb.heap.objs.size->l≠sb.heap.objs.size+3:=λl hl=>by exact λmL=>AA [_,_] [] [.u Aa Ab,.r Aa (.p Ab An)] .f rfl hl mL
 have hne:∀i:Nat,i≠3->(H0a.set (sb.heap.objs.size+3) .pair) (sb.heap.objs.size+i)=none:=λi hi=>(KH.set_ne _ _ (ne3 i hi)).trans (By R0a (new i)).1
 have hne0:(H0a.set (sb.heap.objs.size+3) .pair) sb.heap.objs.size=none:=(KH.set_ne _ _ ne30).trans (By R0a new0).1
 refine Ub (R:=λr s'=>match r with| .ok f=>PS B env H s K f s'| .error e=>cameBackBy (model B.prog B.w) A env B9 e s') (ktu_apart _ _ _ hlt1 hlt2) ht hb he rm R0b ((F.step na.2).step S) (na.trans ng).toF ⟨hz,hTI,hi1,hi2,⟨_,hk' _ _ e1,rfl,m1,rfl⟩,⟨_,hk' _ _ e2,rfl,m2,rfl⟩⟩ (KH.set_self _ _ _) (r1.step S) (r2.step S) (jQ (hne 4 (by decide)) (hne 2 (by decide)) hne0 (hne 1 (by decide)) ((KH.set_ne _ _ (ne3l _ hlt1)).trans q1) ((KH.set_ne _ _ (ne3l _ hlt2)).trans q2)) (Ua (By R0a (new 4)).2 (By R0a (new 3)).2 (By R0a new0).2 (By R0a (new 1)).2) (Ua (P:=λb=>∀o,s.heap.get? b=some o->H b=none->False) (na.fresh (new 4)) (na.fresh (new 3)) (na.fresh new0) (na.fresh (new 1))) (k0a _ (By R0a (new 3)).1) (λf s' h=>h)
end
noncomputable def XU(sc:Scope)(x:Str):Bool:=sc.names.lookup x==some NameKind.globalImplicit
def WD(sc:Scope)(i:Nat)(x:Str):Bool:=match sc.names[i]? with
 |some (y,k)=>x==y&&Qh k && !(x==("__debug__":Str)) && !(x==("__classdict__":Str))
 |none=>false
noncomputable def QA:Expr->Bool
 |.Set .. => false
 |_=>true
theorem Es(h:QA e=true):∀es k p,e≠.Set es k p:=by
 rintro es k p rfl;cases h
noncomputable def Qz:Expr->Bool
 |.Tuple .. => true
 |_=>false
theorem WE(h:Qz e=true):∃es k p,e= .Tuple es k p:=by
 cases e<;>first|exact⟨_,_,_,rfl⟩|cases h
noncomputable def WF:ay->Expr->Bool
 |.enum _,t=>Qz t
 |_,_=>true
noncomputable def Ud:X->Bool
 |.bool b=>b
 |_=>false
theorem Zz{x:X}(h:Ud x=true):x= .bool true:=by cases x<;>first|exact Jf h|exact congrArg X.bool h
noncomputable def Td:X->Bool
 |.and .. => true
 |_=>false
noncomputable def Z0:X->Bool
 |.or .. => true
 |_=>false
noncomputable def B7:Expr->List Expr
 |.BoolOp _ vs _=>vs
 |.BinOp a _ b _=>[a,b]
 |.UnaryOp _ a _=>[a]
 |.IfExp a b c _=>[a,b,c]
 |.Dict ks vs _=>ks.filterMap id++vs
 |.ListComp e gs _ _=>e::gs.flatMap λg=>g.target::g.iter::g.ifs
 |.Compare a _ bs _=>a::bs
 |.Call f es _ _=>f::es
 |.Attribute v _ _=>[v]
 |.Subscript v i _=>[v,i]
 |.List es _=>es
 |.Tuple es _ _=>es
 |.Slice a b c _=>a.toList++b.toList++c.toList
 |_=>[]
noncomputable def Z1:Expr->Nat
 |.Constant _ k _=>k
 |.Tuple _ k _=>k
 |_=>0
noncomputable def NS:Expr->Scope
 |.ListComp _ _ sc _=>sc
 |_=>default
noncomputable def je:Expr->Str
 |.Name x _=>x
 |_=>default
def AW(e:Expr)(i:Nat):Expr:=((B7 e)[i]?).getD (.Tuple [] 0 default)
mutual
noncomputable def Bu:X->Expr->Expr
 |.none,e=>.Constant .none (Z1 e) e.pos
 |.bool b,e=>.Constant (.bool b) (Z1 e) e.pos
 |.int i,e=>.Constant (.int i) (Z1 e) e.pos
 |.str s,e=>.Constant (.str s) (Z1 e) e.pos
 |.var _,e=>.Name (je e) e.pos
 |.tup xs,e=>.Tuple (IP xs (B7 e)) (Z1 e) e.pos
 |.lst _ xs,e=>.List (IP xs (B7 e)) e.pos
 |.edict,e=>.Dict [] [] e.pos
 |.sdict k0a k0b x1 x2,e=>.Dict [some (.Constant (.str k0a) (Z1 (AW e 0)) (AW e 0).pos),some (.Constant (.str k0b) (Z1 (AW e 1)) (AW e 1).pos)] [Bu x1 (AW e 2),Bu x2 (AW e 3)] e.pos
 |.bin op a b,e=>.BinOp (Bu a (AW e 0)) op (Bu b (AW e 1)) e.pos
 |.neg a,e=>.UnaryOp .USub (Bu a (AW e 0)) e.pos
 |.not a,e=>.UnaryOp .Not (Bu a (AW e 0)) e.pos
 |.and a b,e=>.BoolOp .And (Bu a (AW e 0)::cond (Nat.ble 3 (B7 e).length) (B7 (Bu b (.BoolOp .And (B7 e).tail e.pos))) [Bu b (AW e 1)]) e.pos
 |.or a b,e=>.BoolOp .Or (Bu a (AW e 0)::cond (Nat.ble 3 (B7 e).length) (B7 (Bu b (.BoolOp .Or (B7 e).tail e.pos))) [Bu b (AW e 1)]) e.pos
 |.cmp a op b,e=>.Compare (Bu a (AW e 0)) [op] [Bu b (AW e 1)] e.pos
 |.cmp2 a od b oa c,e=>.Compare (Bu a (AW e 0)) [od,oa] [Bu b (AW e 1),Bu c (AW e 2)] e.pos
 |.ite t a b,e=>.IfExp (Bu t (AW e 0)) (Bu a (AW e 1)) (Bu b (AW e 2)) e.pos
 |.attr a name,e=>.Attribute (Bu a (AW e 0)) name e.pos
 |.sub a i,e=>.Subscript (Bu a (AW e 0)) (Bu i (AW e 1)) e.pos
 |.upto _ a h,e=>.Subscript (Bu a (AW e 0)) (.Slice none (some (Bu h (AW (AW e 1) 0))) none (AW e 1).pos) e.pos
 |.from a l,e=>.Subscript (Bu a (AW e 0)) (.Slice (some (Bu l (AW (AW e 1) 0))) none none (AW e 1).pos) e.pos
 |.call f xs,e=>.Call (.Name f (AW e 0).pos) (IP xs (B7 e).tail) [] e.pos
 |.blt b xs,e=>.Call (.Name (Jk b).1 (AW e 0).pos) (IP xs (B7 e).tail) [] e.pos
 |.listRange a b,e=>.Call (.Name "list" (AW e 0).pos) [.Call (.Name "range" (AW (AW e 1) 0).pos) [Bu a (AW (AW e 1) 1),Bu b (AW (AW e 1) 2)] [] (AW e 1).pos] [] e.pos
 |.meth a name xs,e=>.Call (.Attribute (Bu a (AW (AW e 0) 0)) name (AW e 0).pos) (IP xs (B7 e).tail) [] e.pos
 |.append a x,e=>.Call (.Attribute (Bu a (AW (AW e 0) 0)) "append" (AW e 0).pos) [Bu x (AW e 1)] [] e.pos
 |.pop a,e=>.Call (.Attribute (Bu a (AW (AW e 0) 0)) "pop" (AW e 0).pos) [] [] e.pos
 |.extend a x,e=>.Call (.Attribute (Bu a (AW (AW e 0) 0)) "extend" (AW e 0).pos) [Bu x (AW e 1)] [] e.pos
 |.extendRange a x y,e=>.Call (.Attribute (Bu a (AW (AW e 0) 0)) "extend" (AW e 0).pos) [.Call (.Name "range" (AW (AW e 1) 0).pos) [Bu x (AW (AW e 1) 1),Bu y (AW (AW e 1) 2)] [] (AW e 1).pos] [] e.pos
 |.index a x,e=>.Call (.Attribute (Bu a (AW (AW e 0) 0)) "index" (AW e 0).pos) [Bu x (AW e 1)] [] e.pos
 |.comp _ _ _ src test elt,e=>.ListComp (Bu elt (AW e 0)) [⟨AW e 1,KP src (AW e 2),cond (Ud test) [] [Bu test (AW e 3)],0⟩] (NS e) e.pos
 |.comp2 _ _ _ src src2 elt,e=>.ListComp (Bu elt (AW e 0)) [⟨AW e 1,KP src (AW e 2),[],0⟩,⟨AW e 3,KP src2 (AW e 4),[],0⟩] (NS e) e.pos
noncomputable def IP:Xs->List Expr->List Expr
 |.nil,_=>[]
 |.cons x xs,es=>Bu x (es.headD (.Tuple [] 0 default))::IP xs es.tail
noncomputable def KP:ay->Expr->Expr
 |.of x,e=>Bu x e
 |.range1 x,e=>.Call (.Name "range" (AW e 0).pos) [Bu x (AW e 1)] [] e.pos
 |.range2 x y,e=>.Call (.Name "range" (AW e 0).pos) [Bu x (AW e 1),Bu y (AW e 2)] [] e.pos
 |.enum x,e=>.Call (.Name "enumerate" (AW e 0).pos) [Bu x (AW e 1)] [] e.pos
end
def NT(x e:Expr):Bool:=DL x&&((AW e 0).pos.endLine==e.pos.line)
mutual
noncomputable def Co:X->Scope->Expr->Bool
 |.none,_,_=>true
 |.bool _,_,_=>true
 |.int _,_,_=>true
 |.str _,_,_=>true
 |.var i,sc,e=>WD sc i (je e)
 |.tup xs,sc,e=>QB xs sc (B7 e)&&decide ((IP xs (B7 e)).length<=1000)
 |.lst _ xs,sc,e=>QB xs sc (B7 e)&&decide ((IP xs (B7 e)).length<=1000)
 |.edict,_,_=>true
 |.sdict _ _ x1 x2,sc,e=>Co x1 sc (AW e 2)&&Co x2 sc (AW e 3)
 |.bin _ a b,sc,e=>Co a sc (AW e 0)&&Co b sc (AW e 1)
 |.neg a,sc,e=>Co a sc (AW e 0)
 |.not a,sc,e=>Co a sc (AW e 0)
 |.and a b,sc,e=>Co a sc (AW e 0)&&cond (Nat.ble 3 (B7 e).length) (Td b&&Co b sc (.BoolOp .And (B7 e).tail e.pos)) (Co b sc (AW e 1))
 |.or a b,sc,e=>Co a sc (AW e 0)&&cond (Nat.ble 3 (B7 e).length) (Z0 b&&Co b sc (.BoolOp .Or (B7 e).tail e.pos)) (Co b sc (AW e 1))
 |.cmp a _ b,sc,e=>QA (Bu b (AW e 1))&&(Co a sc (AW e 0)&&Co b sc (AW e 1))
 |.cmp2 a _ b _ c,sc,e=>QA (Bu b (AW e 1))&&(QA (Bu c (AW e 2))&&(Co a sc (AW e 0)&&(Co b sc (AW e 1)&&Co c sc (AW e 2))))
 |.ite t a b,sc,e=>Co t sc (AW e 0)&&(Co a sc (AW e 1)&&Co b sc (AW e 2))
 |.attr a _,sc,e=>DL (Bu a (AW e 0))&&Co a sc (AW e 0)
 |.sub a i,sc,e=>TU (Bu i (AW e 1))&&(Co a sc (AW e 0)&&Co i sc (AW e 1))
 |.upto _ a h,sc,e=>Co a sc (AW e 0)&&Co h sc (AW (AW e 1) 0)
 |.from a l,sc,e=>Co a sc (AW e 0)&&Co l sc (AW (AW e 1) 0)
 |.call f xs,sc,e=>XU sc f&&(decide (f∈Gv)&&(BH (IP xs (B7 e).tail)&&QB xs sc (B7 e).tail))
 |.blt b xs,sc,e=>XU sc (Jk b).1&&(BH (IP xs (B7 e).tail)&&QB xs sc (B7 e).tail)
 |.listRange a b,sc,e=>XU sc "list"&&(XU sc "range"&&(Be (Bu a (AW (AW e 1) 1))&&(Be (Bu b (AW (AW e 1) 2))&&(Co a sc (AW (AW e 1) 1)&&Co b sc (AW (AW e 1) 2)))))
 |.meth a _ xs,sc,e=>NT (Bu a (AW (AW e 0) 0)) e&&(BH (IP xs (B7 e).tail)&&(decide ((IP xs (B7 e).tail).length<30)&&(Co a sc (AW (AW e 0) 0)&&QB xs sc (B7 e).tail)))
 |.append a x,sc,e=>NT (Bu a (AW (AW e 0) 0)) e&&(Be (Bu x (AW e 1))&&(Co a sc (AW (AW e 0) 0)&&Co x sc (AW e 1)))
 |.pop a,sc,e=>NT (Bu a (AW (AW e 0) 0)) e&&Co a sc (AW (AW e 0) 0)
 |.extend a x,sc,e=>NT (Bu a (AW (AW e 0) 0)) e&&(Be (Bu x (AW e 1))&&(Co a sc (AW (AW e 0) 0)&&Co x sc (AW e 1)))
 |.extendRange a x y,sc,e=>NT (Bu a (AW (AW e 0) 0)) e&&(XU sc "range"&&(Be (Bu x (AW (AW e 1) 1))&&(Be (Bu y (AW (AW e 1) 2))&&(Co a sc (AW (AW e 0) 0)&&(Co x sc (AW (AW e 1) 1)&&Co y sc (AW (AW e 1) 2))))))
 |.index a x,sc,e=>NT (Bu a (AW (AW e 0) 0)) e&&(Be (Bu x (AW e 1))&&(Co a sc (AW (AW e 0) 0)&&Co x sc (AW e 1)))
 |.comp _ caps tgt src test elt,sc,e=>IL sc (NS e) caps&&(Dp (F5 sc (NS e)) tgt (AW e 1)&&(HP (KP src (AW e 2))&&(WF src (AW e 1)&&(Q0 src sc (AW e 2)&&((Ud test||Co test (F5 sc (NS e)) (AW e 3))&&Co elt (F5 sc (NS e)) (AW e 0))))))
 |.comp2 caps i j src src2 elt,sc,e=>IL sc (NS e) caps&&(Dp (F5 sc (NS e)) (.v i) (AW e 1)&&(Dp (F5 sc (NS e)) (.v j) (AW e 3)&&(HP (KP src (AW e 2))&&(HP (KP src2 (AW e 4))&&(WF src (AW e 1)&&(decide (caps[j]? = some none)&&(decide (i≠j)&&(Q0 src sc (AW e 2)&&(WF src2 (AW e 3)&&(Q0 src2 (F5 sc (NS e)) (AW e 4)&&Co elt (F5 sc (NS e)) (AW e 0)))))))))))
noncomputable def QB:Xs->Scope->List Expr->Bool
 |.nil,_,_=>true
 |.cons x xs,sc,es=>Be (Bu x (es.headD (.Tuple [] 0 default)))&&(Co x sc (es.headD (.Tuple [] 0 default))&&QB xs sc es.tail)
noncomputable def Q0:ay->Scope->Expr->Bool
 |.of x,sc,e=>Co x sc e
 |.range1 x,sc,e=>XU sc "range"&&(Be (Bu x (AW e 1))&&Co x sc (AW e 1))
 |.range2 x y,sc,e=>XU sc "range"&&(Be (Bu x (AW e 1))&&(Be (Bu y (AW e 2))&&(Co x sc (AW e 1)&&Co y sc (AW e 2))))
 |.enum x,sc,e=>XU sc "enumerate"&&(Be (Bu x (AW e 1))&&Co x sc (AW e 1))
end
section
variable {B:Base} {n:Nat} {sc:Scope} {ρ:Bw} {W Wa Wb Wc:W1} {a b c e:Expr} {es:List Expr} {pos:Pos}
theorem JA{g g':Bool->KH->Prop}(h:∀c H,g c H=g' c H)(k:Wa H (CX g)):Wa H (CX g'):=by
 have:g=g':=by funext c H;exact h c H
 exact this▸k
theorem WG(hne:es≠[])(ha:B4 B n sc ρ (eval e) Wa)(hb:B4 B n sc ρ (eval (.BoolOp .And es pos)) Wb) :
  B4 B n sc ρ (eval (.BoolOp .And (e::es) pos)) (λH K=>Wa H (CX λc H=>if c then Wb H K else K (.bool false) H)) :=
 λenv H K A s he rm R F k=>Ox hne ha hb env H K A s he rm R F (JA (Wa:=Wa) (λc H=>by cases c<;>rfl) k)
theorem ac(hne:es≠[])(ha:B4 B n sc ρ (eval e) Wa)(hb:B4 B n sc ρ (eval (.BoolOp .Or es pos)) Wb) :
  B4 B n sc ρ (eval (.BoolOp .Or (e::es) pos)) (λH K=>Wa H (CX λc H=>if c then K (.bool true) H else Wb H K)) :=
 λenv H K A s he rm R F k=>Ox hne ha hb env H K A s he rm R F (JA (Wa:=Wa) (λc H=>by cases c<;>rfl) k)
theorem WH(hne:es≠[])(ha:LP B n sc ρ e Wa)(hb:LP B n sc ρ (.BoolOp .And es pos) Wb) :
  LP B n sc ρ (.BoolOp .And (e::es) pos) (λH K=>Wa H (CX λc H=>if c then Wb H K else K (.bool false) H)) :=
 λenv H K A s he rm R F k=>Oy hne ha hb env H K A s he rm R F (JA (Wa:=Wa) (λc H=>by cases c<;>rfl) k)
theorem ad(hne:es≠[])(ha:LP B n sc ρ e Wa)(hb:LP B n sc ρ (.BoolOp .Or es pos) Wb) :
  LP B n sc ρ (.BoolOp .Or (e::es) pos) (λH K=>Wa H (CX λc H=>if c then K (.bool true) H else Wb H K)) :=
 λenv H K A s he rm R F k=>Oy hne ha hb env H K A s he rm R F (JA (Wa:=Wa) (λc H=>by cases c<;>rfl) k)
noncomputable def O4:Expr->Bool
 |.UnaryOp .Not _ _=>false
 |.BoolOp .. => false
 |.IfExp .. => false
 |.Compare .. => false
 |_=>true
theorem gq(hp:O4 e=true)(h:B4 B n sc ρ (eval e) W):LP B n sc ρ e W:=by
 refine Vn (λenv whole=>?_) h
 cases e<;>first|rfl|(cases hp;done)|(rename_i op _ _;cases op<;>first|rfl|cases hp)
theorem Tb.weak{P P':Expr->Prop}{WI:KH->(List D->KH->Prop)->Prop}(h:Tb B n sc ρ e P WI)(hp:∀t,P' t->P t):Tb B n sc ρ e P' WI :=
 λenv H K A s he rm R F k=>wpAny_mono (h env H K A s he rm R F k) (λxv sb h0b=>wpAny_mono h0b (λit se h=>by obtain⟨I,items,H0b,fp,wr,B3,St,e1,W,a,b,c,d,e,f,g,k⟩:=h;exact⟨I,items,H0b,fp,wr,B3,St,e1,λt ht=>W t (hp t ht),a,b,c,d,e,f,g,k⟩) λ_ _ x=>x) λ_ _ x=>x
theorem Gz(h:XU sc x=true):sc.names.lookup x=some .globalImplicit:=beq_iff_eq.mp h
theorem D6{x:X}(hp:O4 e=true)(h:∀ρ,B4 B n sc ρ (eval e) (Cr B n x ρ)):(∀ρ,B4 B n sc ρ (eval e) (Cr B n x ρ))/\∀ρ,LP B n sc ρ e (Cr B n x ρ):=⟨h,λρ=>gq hp (h ρ)⟩
theorem an{a b:Bool}(h:(a&&b)=true):a=true/\b=true:=Bool.and_eq_true_iff.mp h
theorem EK{x:Expr}(h:NT x e=true):DL x=true/\((AW e 0).pos.endLine==e.pos.line)=true:=an h
theorem WJ(h:WD sc i x=true):∃k,sc.names[i]? = some (x,k)/\Qh k=true/\(x==("__debug__":Str))=false/\(x==("__classdict__":Str))=false:=by
 unfold WD at h
 split at h
 ·rename_i y k hi
  simp only[Bool.and_eq_true] at h
  obtain⟨⟨⟨h1,h2⟩,h3⟩,h4⟩:=h
  obtain rfl:=beq_iff_eq.mp h1
  exact⟨k,hi,h2,by simpa using h3,by simpa using h4⟩
 ·exact Jf h
end
section
variable {B:Base} {n:Nat}
theorem Z2{b:X}(h:Td b=true):Bu b (.BoolOp .And es pos)= .BoolOp .And (B7 (Bu b (.BoolOp .And es pos))) pos:=by
 cases b<;>first|rfl|cases h
theorem dP{b:X}(h:Z0 b=true):Bu b (.BoolOp .Or es pos)= .BoolOp .Or (B7 (Bu b (.BoolOp .Or es pos))) pos:=by
 cases b<;>first|rfl|cases h
theorem Te{b:X}(h:Td b=true):B7 (Bu b (.BoolOp .And es pos))≠[]:=by
 cases b<;>first|(exact List.cons_ne_nil _ _)|cases h
theorem WK{b:X}(h:Z0 b=true):B7 (Bu b (.BoolOp .Or es pos))≠[]:=by
 cases b<;>first|(exact List.cons_ne_nil _ _)|cases h
abbrev NU(B:Base)(n:Nat)(sc:Scope)(e:Expr)(x:X):Prop:=(∀ρ,B4 B n sc ρ (eval e) (Cr B n x ρ))/\∀ρ,LP B n sc ρ e (Cr B n x ρ)
theorem SW{sc:Scope}{a b:X}(h:Co (.and a b) sc e=true)(ha:NU B n sc (Bu a (AW e 0)) a)
  (hl:Co b sc (.BoolOp .And (B7 e).tail e.pos)=true->NU B n sc (Bu b (.BoolOp .And (B7 e).tail e.pos)) b)
  (hs:Co b sc (AW e 1)=true->NU B n sc (Bu b (AW e 1)) b):NU B n sc (Bu (.and a b) e) (.and a b):=by
 replace h:cond (Nat.ble 3 (B7 e).length) (Td b&&Co b sc (.BoolOp .And (B7 e).tail e.pos)) (Co b sc (AW e 1))=true:=(an h).2
 show NU B n sc (.BoolOp .And (Bu a (AW e 0)::cond (Nat.ble 3 (B7 e).length) (B7 (Bu b (.BoolOp .And (B7 e).tail e.pos))) [Bu b (AW e 1)]) e.pos) (.and a b)
 cases hb:Nat.ble 3 (B7 e).length with
 |true =>
  rw[hb] at h
  refine Ea (an h) λh1 h2=>?_
  have q:=hl h2
  rw[Z2 h1] at q
  exact⟨λρ=>WG (Te h1) (ha.1 ρ) (q.1 ρ),λρ=>WH (Te h1) (ha.2 ρ) (q.2 ρ)⟩
 |false =>
  rw[hb] at h
  exact⟨λρ=>WG (List.cons_ne_nil _ _) (ha.1 ρ) (NF ((hs h).1 ρ)),λρ=>WH (List.cons_ne_nil _ _) (ha.2 ρ) (NG ((hs h).2 ρ))⟩
theorem Ue{sc:Scope}{a b:X}(h:Co (.or a b) sc e=true)(ha:NU B n sc (Bu a (AW e 0)) a)
  (hl:Co b sc (.BoolOp .Or (B7 e).tail e.pos)=true->NU B n sc (Bu b (.BoolOp .Or (B7 e).tail e.pos)) b)
  (hs:Co b sc (AW e 1)=true->NU B n sc (Bu b (AW e 1)) b):NU B n sc (Bu (.or a b) e) (.or a b):=by
 replace h:cond (Nat.ble 3 (B7 e).length) (Z0 b&&Co b sc (.BoolOp .Or (B7 e).tail e.pos)) (Co b sc (AW e 1))=true:=(an h).2
 show NU B n sc (.BoolOp .Or (Bu a (AW e 0)::cond (Nat.ble 3 (B7 e).length) (B7 (Bu b (.BoolOp .Or (B7 e).tail e.pos))) [Bu b (AW e 1)]) e.pos) (.or a b)
 cases hb:Nat.ble 3 (B7 e).length with
 |true =>
  rw[hb] at h
  refine Ea (an h) λh1 h2=>?_
  have q:=hl h2
  rw[dP h1] at q
  exact⟨λρ=>ac (WK h1) (ha.1 ρ) (q.1 ρ),λρ=>ad (WK h1) (ha.2 ρ) (q.2 ρ)⟩
 |false =>
  rw[hb] at h
  exact⟨λρ=>ac (List.cons_ne_nil _ _) (ha.1 ρ) (NF ((hs h).1 ρ)),λρ=>ad (List.cons_ne_nil _ _) (ha.2 ρ) (NG ((hs h).2 ρ))⟩
theorem Tf{sc:Scope}{test:X}(h:(Ud test||Co test sc e)=true)(ht:Co test sc e=true->∀ρ,LP B n sc ρ (Bu test e) (Cr B n test ρ)) :
  ∀ρ,V8 B n sc ρ (cond (Ud test) [] [Bu test e]) (Cr B n test ρ):=by
 intro ρ
 cases hb:Ud test with
 |true =>
  obtain rfl:=Zz hb
  exact V9
 |false =>
  rw[hb] at h
  exact WC (ht h ρ)
end
mutual
theorem AK(B:Base)(n:Nat):∀(x:X) (sc:Scope) (e:Expr),Co x sc e=true->NU B n sc (Bu x e) x
 |.none,sc,e,h=>D6 rfl λρ=>Zd
 |.bool b,sc,e,h=>D6 rfl λρ=>Ze
 |.int i,sc,e,h=>D6 rfl λρ=>cu
 |.str s,sc,e,h=>D6 rfl λρ=>cv
 |.edict,sc,e,h=>D6 rfl λρ=>Vo
 |.var i,sc,e,h=>D6 rfl λρ=>by
  refine gW (WJ h) λk h1 h2 h3 h4=>?_
  exact cw h1 h2 h3 h4
 |.tup xs,sc,e,h=>D6 rfl λρ=>by
  refine Ea (an h) λh1 h=>?_
  exact cx (of_decide_eq_true h) (Fj B n xs sc _ h1 ρ)
 |.lst fr xs,sc,e,h=>D6 rfl λρ=>by
  refine Ea (an h) λh1 h=>?_
  exact cy (of_decide_eq_true h) (Fj B n xs sc _ h1 ρ)
 |.sdict k0a k0b x1 x2,sc,e,h=>D6 rfl λρ=>by
  refine Ea (an h) λh1 h=>?_
  exact Vp ((AK B n x1 sc _ h1).1 ρ) ((AK B n x2 sc _ h).1 ρ)
 |.bin op a b,sc,e,h=>D6 rfl λρ=>by
  refine Ea (an h) λh1 h=>?_
  exact cz ((AK B n a sc _ h1).1 ρ) ((AK B n b sc _ h).1 ρ)
 |.neg a,sc,e,h=>D6 rfl λρ=>by
  exact c0 ((AK B n a sc _ h).1 ρ)
 |.not a,sc,e,h=>by
  exact⟨λρ=>c5 ((AK B n a sc _ h).1 ρ),λρ=>c7 ((AK B n a sc _ h).2 ρ)⟩
 |.and a b,sc,e,h=>SW h (AK B n a sc _ (an h).1) (λh=>AK B n b sc _ h) (λh=>AK B n b sc _ h)
 |.or a b,sc,e,h=>Ue h (AK B n a sc _ (an h).1) (λh=>AK B n b sc _ h) (λh=>AK B n b sc _ h)
 |.cmp a op b,sc,e,h=>by
  refine Ea (an h) λh1 h=>?_
  refine Ea (an h) λh2 h=>?_
  exact⟨λρ=>c6 (Es h1) ((AK B n a sc _ h2).1 ρ) ((AK B n b sc _ h).1 ρ),λρ=>c8 (Es h1) ((AK B n a sc _ h2).1 ρ) ((AK B n b sc _ h).1 ρ)⟩
 |.cmp2 a od b oa c,sc,e,h=>by
  refine Ea (an h) λh1 h=>?_
  refine Ea (an h) λh2 h=>?_
  refine Ea (an h) λh3 h=>?_
  refine Ea (an h) λh4 h=>?_
  exact⟨λρ=>Zf (Es h1) (Es h2) ((AK B n a sc _ h3).1 ρ) ((AK B n b sc _ h4).1 ρ) ((AK B n c sc _ h).1 ρ),λρ=>Zg (Es h1) (Es h2) ((AK B n a sc _ h3).1 ρ) ((AK B n b sc _ h4).1 ρ) ((AK B n c sc _ h).1 ρ)⟩
 |.ite t a b,sc,e,h=>by
  refine Ea (an h) λh1 h=>?_
  refine Ea (an h) λh2 h=>?_
  exact⟨λρ=>c9 ((AK B n t sc _ h1).2 ρ) ((AK B n a sc _ h2).1 ρ) ((AK B n b sc _ h).1 ρ),λρ=>dA ((AK B n t sc _ h1).2 ρ) ((AK B n a sc _ h2).2 ρ) ((AK B n b sc _ h).2 ρ)⟩
 |.attr a name,sc,e,h=>D6 rfl λρ=>by
  refine Ea (an h) λh1 h=>?_
  exact Zh h1 ((AK B n a sc _ h).1 ρ)
 |.sub a i,sc,e,h=>D6 rfl λρ=>by
  refine Ea (an h) λh1 h=>?_
  refine Ea (an h) λh2 h=>?_
  exact dB h1 ((AK B n a sc _ h2).1 ρ) ((AK B n i sc _ h).1 ρ)
 |.upto fr a hi,sc,e,h=>D6 rfl λρ=>by
  refine Ea (an h) λh1 h=>?_
  exact Zj ((AK B n a sc _ h1).1 ρ) ((AK B n hi sc _ h).1 ρ)
 |.from a lo,sc,e,h=>D6 rfl λρ=>by
  refine Ea (an h) λh1 h=>?_
  exact Zk ((AK B n a sc _ h1).1 ρ) ((AK B n lo sc _ h).1 ρ)
 |.call f xs,sc,e,h=>D6 rfl λρ=>by
  refine Ea (an h) λh1 h=>?_
  refine Ea (an h) λh2 h=>?_
  refine Ea (an h) λh3 h=>?_
  exact Zl (Gz h1) (of_decide_eq_true h2) h3 (Fj B n xs sc _ h ρ)
 |.blt b xs,sc,e,h=>D6 rfl λρ=>by
  refine Ea (an h) λh1 h=>?_
  refine Ea (an h) λh2 h=>?_
  exact dD b (Gz h1) h2 (Fj B n xs sc _ h ρ)
 |.listRange a b,sc,e,h=>D6 rfl λρ=>by
  refine Ea (an h) λh1 h=>?_
  refine Ea (an h) λh2 h=>?_
  refine Ea (an h) λh3 h=>?_
  refine Ea (an h) λh4 h=>?_
  refine Ea (an h) λh5 h=>?_
  exact Pq (Gz h1) (Gz h2) h3 h4 ((AK B n a sc _ h5).1 ρ) ((AK B n b sc _ h).1 ρ)
 |.meth a name xs,sc,e,h=>D6 rfl λρ=>by
  refine Ea (an h) λh1 h=>?_
  refine Ea (an h) λh2 h=>?_
  refine Ea (an h) λh3 h=>?_
  refine Ea (an h) λh4 h=>?_
  exact Zn (EK h1).1 (EK h1).2 h2 (of_decide_eq_true h3) ((AK B n a sc _ h4).1 ρ) (Fj B n xs sc _ h ρ)
 |.append a x,sc,e,h=>D6 rfl λρ=>by
  refine Ea (an h) λh1 h=>?_
  refine Ea (an h) λh2 h=>?_
  refine Ea (an h) λh3 h=>?_
  exact US (EK h1).1 (EK h1).2 h2 ((AK B n a sc _ h3).1 ρ) ((AK B n x sc _ h).1 ρ)
 |.extend a x,sc,e,h=>D6 rfl λρ=>by
  refine Ea (an h) λh1 h=>?_
  refine Ea (an h) λh2 h=>?_
  refine Ea (an h) λh3 h=>?_
  exact UT (EK h1).1 (EK h1).2 h2 ((AK B n a sc _ h3).1 ρ) ((AK B n x sc _ h).1 ρ)
 |.index a x,sc,e,h=>D6 rfl λρ=>by
  refine Ea (an h) λh1 h=>?_
  refine Ea (an h) λh2 h=>?_
  refine Ea (an h) λh3 h=>?_
  exact Vz (EK h1).1 (EK h1).2 h2 ((AK B n a sc _ h3).1 ρ) ((AK B n x sc _ h).1 ρ)
 |.pop a,sc,e,h=>D6 rfl λρ=>by
  refine Ea (an h) λh1 h=>?_
  exact dE (EK h1).1 (EK h1).2 ((AK B n a sc _ h).1 ρ)
 |.extendRange a x y,sc,e,h=>D6 rfl λρ=>by
  refine Ea (an h) λh1 h=>?_
  refine Ea (an h) λh2 h=>?_
  refine Ea (an h) λh3 h=>?_
  refine Ea (an h) λh4 h=>?_
  refine Ea (an h) λh5 h=>?_
  refine Ea (an h) λh6 h=>?_
  exact NK (Gz h2) (EK h1).1 (EK h1).2 h3 h4 ((AK B n a sc _ h5).1 ρ) ((AK B n x sc _ h6).1 ρ) ((AK B n y sc _ h).1 ρ)
 |.comp fr caps tgt src test elt,sc,e,h=>D6 rfl λρ=>by
  refine Ea (an h) λh1 h=>?_
  refine Ea (an h) λh2 h=>?_
  refine Ea (an h) λh3 h=>?_
  refine Ea (an h) λh4 h=>?_
  refine Ea (an h) λh5 h=>?_
  refine Ea (an h) λh6 h=>?_
  exact Pv (fr:=fr) h1 h3 h4 (FC B n src sc _ h5) (aZ h2 (Tf h6 λh=>(AK B n test _ _ h).2) (AK B n elt _ _ h).1)
 |.comp2 caps i j src src2 elt,sc,e,h=>D6 rfl λρ=>by
  refine Ea (an h) λh1 h=>?_
  refine Ea (an h) λh2 h=>?_
  refine Ea (an h) λh3 h=>?_
  refine Ea (an h) λh4 h=>?_
  refine Ea (an h) λh5 h=>?_
  refine Ea (an h) λh6 h=>?_
  refine Ea (an h) λh7 h=>?_
  refine Ea (an h) λh8 h=>?_
  refine Ea (an h) λh9 h=>?_
  refine Ea (an h) λh10 h=>?_
  refine Ea (an h) λh11 h=>?_
  exact Pv (fr:=true) h1 h4 h6 (FC B n src sc _ h9) (aa h2 h3 h10 h5 (FC B n src2 _ _ h11) (AK B n elt _ _ h).1 (of_decide_eq_true h7) (of_decide_eq_true h8))
theorem Fj(B:Base)(n:Nat):∀(xs:Xs) (sc:Scope) (es:List Expr),QB xs sc es=true->∀ρ,LV B n sc ρ (IP xs es) (NE B n xs ρ)
 |.nil,sc,es,h,ρ=>Eh
 |.cons x xs,sc,es,h,ρ=>by
  refine Ea (an h) λh1 h=>?_
  refine Ea (an h) λh2 h=>?_
  exact Cz (λenv=>CB h1 env) ((AK B n x sc _ h2).1 ρ) (Fj B n xs sc _ h ρ)
theorem FC(B:Base)(n:Nat):∀(x:ay) (sc:Scope) (e:Expr),Q0 x sc e=true->∀ρ,Tb B n sc ρ (KP x e) (λt=>WF x t=true) (Qp B n x ρ)
 |.of x,sc,e,h,ρ=>(Zx (λH K k=>k) ((AK B n x sc _ h).1 ρ)).weak λ_ _=>trivial
 |.range1 x,sc,e,h,ρ=>by
  refine Ea (an h) λh1 h=>?_
  refine Ea (an h) λh2 h=>?_
  exact(SL (Gz h1) h2 ((AK B n x sc _ h).1 ρ)).weak λ_ _=>trivial
 |.range2 x y,sc,e,h,ρ=>by
  refine Ea (an h) λh1 h=>?_
  refine Ea (an h) λh2 h=>?_
  refine Ea (an h) λh3 h=>?_
  refine Ea (an h) λh4 h=>?_
  exact(SM (Gz h1) h2 h3 ((AK B n x sc _ h4).1 ρ) ((AK B n y sc _ h).1 ρ)).weak λ_ _=>trivial
 |.enum x,sc,e,h,ρ=>by
  refine Ea (an h) λh1 h=>?_
  refine Ea (an h) λh2 h=>?_
  exact(V5 (Gz h1) h2 ((AK B n x sc _ h).1 ρ)).weak λt ht=>WE ht
end
noncomputable def dQ:Expr->Bool
 |.Name .. => true
 |_=>false
noncomputable def QC:X->Bool
 |.comp .. => true
 |.comp2 .. => true
 |_=>false
noncomputable def vOf:Qb->Option Nat
 |.v i=>some i
 |_=>none
noncomputable def SX:S->Bool
 |.freeze _=>true
 |_=>false
theorem dR{sc:Scope}{s:S}{r:Ss}{sts:List Stmt}(e:SX s=true)(hr:F4 B n sc (execs sts) (AQ B n r)):F4 B n sc (execs sts) (AQ B n (.cons s r)):=by
 cases s<;>first|(cases e;done)|exact SG hr
noncomputable def dy:Stmt->List Expr
 |.Assign ts v _=>v::ts
 |.Return v _=>v.toList
 |.If t _ _ _=>[t]
 |.While t _ _ _=>[t]
 |.For t i _ _ _=>[t,i]
 |.Expr e _=>[e]
 |_=>[]
def ek(st:Stmt)(i:Nat):Expr:=((dy st)[i]?).getD (.Tuple [] 0 default)
noncomputable def ae:Stmt->List Stmt
 |.If _ b _ _=>b
 |.While _ b _ _=>b
 |.For _ _ b _ _=>b
 |_=>[]
noncomputable def jf:Stmt->List Stmt
 |.If _ _ b _=>b
 |_=>[]
noncomputable def WM:X->Bool
 |.none=>true
 |_=>false
def QD(sc:Scope)(t e:Expr):Bool:=Zp (V1 t) λts=>Zp (V1 e) λvs=>!(ts.length==2||ts.length==3)||vs.length != ts.length||vs.any I9||(BV sc ts).length != ts.length||(BV sc ts).eraseDups.length != (BV sc ts).length||vs.all (foldedForSure 8)
theorem Uf{sc:Scope}{s:S}{r:Ss}{st:Stmt}{sts:List Stmt}(e:SX s=false)(ha:F4 B n sc (exec st) (gd B n s))(hr:F4 B n sc (execs sts) (AQ B n r)):F4 B n sc (execs (st::sts)) (AQ B n (.cons s r)):=by
 cases s<;>first|exact V3 ha hr|cases e
theorem Q1{sc:Scope}{t:Expr}(he:env.scope=sc)(hk:env.scope.kind= .function)(h:QD sc t e=true):swappedStores [t] e env=pure none:=by
 refine BG (II h) λts h1 hh=>?_
 refine BG (II hh) λvs h2 hq=>?_
 refine OI (Ms h1) λk p mN=>?_;subst mN
 refine OI (Ms h2) λk' p' mN=>?_;subst mN
 have hb:env.blockKind= .function:=by unfold Env.blockKind;rw[hk];rfl
 have key:swappedStores [.Tuple ts k p] (.Tuple vs k' p') env=(if(!(ts.length==2||ts.length==3)||vs.length != ts.length||env.blockKind != .function)=true then pure none
  else if vs.any I9=true then pure none
  else if((BV env.scope ts).length != ts.length||(BV env.scope ts).eraseDups.length != (BV env.scope ts).length)=true then pure none
  else if vs.all (foldedForSure 8)=true then pure none
  else if vs.all (constantsAlone 8)=true then (do unsupported "assign.tuple-of-constant-expressions:order-of-the-stores";pure (some (BV env.scope ts)))
  else pure (some (BV env.scope ts))):=rfl
 rw[key,he,hb]
 rw[Bool.or_eq_true,Bool.or_eq_true,Bool.or_eq_true,Bool.or_eq_true,Bool.or_eq_true] at hq
 split
 ·rfl
 ·rename_i h1
  split
  ·rfl
  ·rename_i h2
   split
   ·rfl
   ·rename_i h3
    split
    ·rfl
    ·rename_i h4
     exfalso
     simp only[Bool.or_eq_true] at h1 h3
     rcases hq with((((h|h)|h)|h)|h)|h
     ·exact h1 (.inl (.inl h))
     ·exact h1 (.inl (.inr h))
     ·exact h2 h
     ·exact h3 (.inl h)
     ·exact h3 (.inr h)
     ·exact h4 h
theorem Z3{sc:Scope}{T:Qb}{tgt:Expr}{Wx:Bw->W1}(hc:IJ e=true)(hw:QD sc tgt e=true)(ht:GO sc T tgt=true)(h:∀ρ,B4 B n sc ρ (eval e) (Wx ρ)) :
  F4 B n sc (exec (.Assign [tgt] e pos)) (λρ H K=>Wx ρ H λd H=>match D5 T d ρ with|some ρ'=>K .next ρ' H|none=>False):=by
 intro env ρ H K A s he rm R F k
 refine LZ (Gy hc) (Q1 he F.ok.kind hw) (aX ht) (PV.mo (h ρ env H _ A s he rm R F k) λv sb d H0a x R0a na k0a=>?_)
 split at k0a<;>try exact k0a.elim
 rename_i ρ' hb
 exact Er he ht rm R0a (F.step na.2) x hb λs' F' R' n'=>⟨ρ',H0a,na.toF.trans n',R',F',k0a⟩
mutual
noncomputable def toS:S->Stmt->Stmt
 |.asg _ x,st=>.Assign [ek st 1] (Bu x (ek st 0)) st.pos
 |.swap _ xs,st=>.Assign [.Tuple (B7 (ek st 1)) (Z1 (ek st 1)) (ek st 1).pos] (.Tuple (IP xs (B7 (ek st 0))) (Z1 (ek st 0)) (ek st 0).pos) st.pos
 |.setattr a name x,st=>.Assign [.Attribute (Bu a (AW (ek st 1) 0)) name (ek st 1).pos] (Bu x (ek st 0)) st.pos
 |.setitem a i x,st=>.Assign [.Subscript (Bu a (AW (ek st 1) 0)) (Bu i (AW (ek st 1) 1)) (ek st 1).pos] (Bu x (ek st 0)) st.pos
 |.expr x,st=>.Expr (Bu x (ek st 0)) st.pos
 |.ret x,st=>.Return (cond (WM x&&(dy st).isEmpty) none (some (Bu x (ek st 0)))) st.pos
 |.ite t a b,st=>.If (Bu t (ek st 0)) (MY a (ae st)) (MY b (jf st)) st.pos
 |.while t b,st=>.While (Bu t (ek st 0)) (MY b (ae st)) [] st.pos
 |.for _ src b,st=>.For (ek st 0) (KP src (ek st 1)) (MY b (ae st)) [] st.pos
 |.forZip _ _ x y b,st=>.For (ek st 0) (.Call (.Name "zip" (AW (ek st 1) 0).pos) [Bu x (AW (ek st 1) 1),Bu y (AW (ek st 1) 2)] [] (ek st 1).pos) (MY b (ae st)) [] st.pos
 |.brk,st=>.Break st.pos
 |.cont,st=>.Continue st.pos
 |.pass,st=>.Pass st.pos
 |.freeze _,st=>st
noncomputable def MY:Ss->List Stmt->List Stmt
 |.nil,_=>[]
 |.cons s r,sts=>cond (SX s) (MY r sts) (toS s (sts.headD (.Pass default))::MY r sts.tail)
end
mutual
noncomputable def gr:S->Scope->Stmt->Bool
 |.asg t x,sc,st=>GO sc t (ek st 1)&&(Co x sc (ek st 0)&&cond (QC x) (dQ (ek st 1)&&(vOf t).isSome) (IJ (Bu x (ek st 0))&&(!Qz (Bu x (ek st 0))||dQ (ek st 1)||QD sc (ek st 1) (Bu x (ek st 0)))))
 |.swap is xs,sc,st=>Pt sc (B7 (ek st 1)) (IP xs (B7 (ek st 0))) is&&(QB xs sc (B7 (ek st 0))&&decide ((IP xs (B7 (ek st 0))).length<=1000))
 |.setattr a _ x,sc,st=>IJ (Bu x (ek st 0))&&(Co x sc (ek st 0)&&Co a sc (AW (ek st 1) 0))
 |.setitem a i x,sc,st=>Co x sc (ek st 0)&&(Co a sc (AW (ek st 1) 0)&&Co i sc (AW (ek st 1) 1))
 |.expr x,sc,st=>IJ (Bu x (ek st 0))&&Co x sc (ek st 0)
 |.ret x,sc,st=>(WM x&&(dy st).isEmpty)||Co x sc (ek st 0)
 |.ite t a b,sc,st=>Co t sc (ek st 0)&&(MZ a sc (ae st)&&MZ b sc (jf st))
 |.while t b,sc,st=>Co t sc (ek st 0)&&MZ b sc (ae st)
 |.for t src b,sc,st=>HP (KP src (ek st 1))&&(WF src (ek st 0)&&(Q0 src sc (ek st 1)&&(GO sc t (ek st 0)&&MZ b sc (ae st))))
 |.forZip i j x y b,sc,st=>XU sc "zip"&&(Be (Bu x (AW (ek st 1) 1))&&(Be (Bu y (AW (ek st 1) 2))&&(Co x sc (AW (ek st 1) 1)&&(Co y sc (AW (ek st 1) 2)&&(GO sc (.t [i,j]) (ek st 0)&&MZ b sc (ae st))))))
 |.brk,_,_=>true
 |.cont,_,_=>true
 |.pass,_,_=>true
 |.freeze _,_,_=>false
noncomputable def MZ:Ss->Scope->List Stmt->Bool
 |.nil,_,_=>true
 |.cons s r,sc,sts=>cond (SX s) (MZ r sc sts) (gr s sc (sts.headD (.Pass default))&&MZ r sc sts.tail)
end
theorem Tg(h:dQ e=true):∃x p,e= .Name x p:=by
 cases e<;>first|exact⟨_,_,rfl⟩|cases h
theorem WN(h:Qz e=false):∀es k p,e≠.Tuple es k p:=by
 rintro es k p rfl;cases h
theorem Ug(B:Base)(n:Nat){sc:Scope}{y:Str}{py spos:Pos}(x:X)(hx:QC x=true)(ht:NN sc i (.Name y py)=true)(h:Co x sc e=true) :
  F4 B n sc (exec (.Assign [.Name y py] (Bu x e) spos)) (λρ H K=>Cr B n x ρ H λd H=>K .next (ρ.set i (some d)) H):=by
 cases x with
 |comp fr caps tgt src test elt =>
  refine Ea (an h) λh1 h=>?_
  refine Ea (an h) λh2 h=>?_
  refine Ea (an h) λh3 h=>?_
  refine Ea (an h) λh4 h=>?_
  refine Ea (an h) λh5 h=>?_
  refine Ea (an h) λh6 h=>?_
  exact NP (fr:=fr) ht h1 h3 h4 (FC B n src sc _ h5) (aZ h2 (Tf h6 λh=>(AK B n test _ _ h).2) (AK B n elt _ _ h).1)
 |comp2 caps i j src src2 elt =>
  refine Ea (an h) λh1 h=>?_
  refine Ea (an h) λh2 h=>?_
  refine Ea (an h) λh3 h=>?_
  refine Ea (an h) λh4 h=>?_
  refine Ea (an h) λh5 h=>?_
  refine Ea (an h) λh6 h=>?_
  refine Ea (an h) λh7 h=>?_
  refine Ea (an h) λh8 h=>?_
  refine Ea (an h) λh9 h=>?_
  refine Ea (an h) λh10 h=>?_
  refine Ea (an h) λh11 h=>?_
  exact NP (fr:=true) ht h1 h4 h6 (FC B n src sc _ h9) (aa h2 h3 h10 h5 (FC B n src2 _ _ h11) (AK B n elt _ _ h).1 (of_decide_eq_true h7) (of_decide_eq_true h8))
 |_=>cases hx
theorem WO(B:Base)(n:Nat)(t:Qb)(x:X)(sc:Scope)(st:Stmt)(h:gr (.asg t x) sc st=true):F4 B n sc (exec (toS (.asg t x) st)) (gd B n (.asg t x)):=by
 refine Ea (an h) λh1 h=>?_
 refine Ea (an h) λh2 h=>?_
 show F4 B n sc (exec (.Assign [ek st 1] (Bu x (ek st 0)) st.pos)) _
 generalize ek st 1=tg at h1 h
 cases hc:QC x with
 |true =>
  rw[hc] at h
  refine Ea (an h) λh3 h4=>?_
  refine OI (Tg h3) λy py mN=>?_;subst mN
  cases t with
  |v i=>exact Ug B n x hc h1 h2
  |t is=>cases h4
 |false =>
  rw[hc] at h
  refine Ea (an h) λh3 h4=>?_
  rcases Bool.or_eq_true_iff.mp h4 with h4|h4
  ·refine dK h3 ?_ h1 (AK B n x sc _ h2).1
   rcases Bool.or_eq_true_iff.mp h4 with h4|h4
   ·exact .inl (WN (by cases hq:Qz (Bu x (ek st 0)) with|false=>rfl|true=>rw[hq] at h4;cases h4))
   ·exact .inr (Tg h4)
  ·exact Z3 h3 h4 h1 (AK B n x sc _ h2).1
theorem WP(B:Base)(n:Nat)(x:X)(sc:Scope)(st:Stmt)(h:gr (.ret x) sc st=true):F4 B n sc (exec (toS (.ret x) st)) (gd B n (.ret x)):=by
 show F4 B n sc (exec (.Return (cond (WM x&&(dy st).isEmpty) none (some (Bu x (ek st 0)))) st.pos)) _
 replace h:((WM x&&(dy st).isEmpty)||Co x sc (ek st 0))=true:=h
 cases hb:(WM x&&(dy st).isEmpty) with
 |true =>
  cases x<;>first|exact Zt|(exact absurd (an hb).1 Bool.noConfusion)
 |false =>
  rw[hb] at h
  exact dJ (AK B n x sc _ h).1
mutual
theorem dS(B:Base)(n:Nat):∀(x:S) (sc:Scope) (st:Stmt),gr x sc st=true->F4 B n sc (exec (toS x st)) (gd B n x)
 |.asg t x,sc,st,h=>WO B n t x sc st h
 |.swap is xs,sc,st,h=>Zw (of_decide_eq_true (an (an h).2).2) (an h).1 (Fj B n xs sc _ (an (an h).2).1)
 |.setattr a name x,sc,st,h=>SH (an h).1 (AK B n x sc _ (an (an h).2).1).1 (AK B n a sc _ (an (an h).2).2).1
 |.setitem a i x,sc,st,h=>SI (AK B n x sc _ (an h).1).1 (AK B n a sc _ (an (an h).2).1).1 (AK B n i sc _ (an (an h).2).2).1
 |.expr x,sc,st,h=>Zq (an h).1 (AK B n x sc _ (an h).2).1
 |.ret x,sc,st,h=>WP B n x sc st h
 |.ite t a b,sc,st,h=>gn (AK B n t sc _ (an h).1).2 (Fk B n a sc _ (an (an h).2).1) (Fk B n b sc _ (an (an h).2).2)
 |.while t b,sc,st,h=>V4 (AK B n t sc _ (an h).1).2 (Fk B n b sc _ (an h).2)
 |.for t src b,sc,st,h=>by
  refine Ea (an h) λh1 h=>?_
  refine Ea (an h) λh2 h=>?_
  refine Ea (an h) λh3 h=>?_
  refine Ea (an h) λh4 h=>?_
  exact dM h1 (FC B n src sc _ h3) h2 h4 (Fk B n b sc _ h)
 |.forZip i j x y b,sc,st,h=>by
  refine Ea (an h) λh1 h=>?_
  refine Ea (an h) λh2 h=>?_
  refine Ea (an h) λh3 h=>?_
  refine Ea (an h) λh4 h=>?_
  refine Ea (an h) λh5 h=>?_
  refine Ea (an h) λh6 h=>?_
  exact Uc (Gz h1) h2 h3 (AK B n x sc _ h4).1 (AK B n y sc _ h5).1 h6 (Fk B n b sc _ h)
 |.brk,sc,st,h=>dI
 |.cont,sc,st,h=>Zs
 |.pass,sc,st,h=>Zr
 |.freeze i,sc,st,h=>Bool.noConfusion h
theorem Fk(B:Base)(n:Nat):∀(x:Ss) (sc:Scope) (sts:List Stmt),MZ x sc sts=true->F4 B n sc (execs (MY x sts)) (AQ B n x)
 |.nil,sc,sts,h=>Zu
 |.cons s r,sc,sts,h=>by
  replace h:cond (SX s) (MZ r sc sts) (gr s sc (sts.headD (.Pass default))&&MZ r sc sts.tail)=true:=h
  show F4 B n sc (execs (cond (SX s) (MY r sts) (toS s (sts.headD (.Pass default))::MY r sts.tail))) _
  cases hb:SX s with
  |true =>
   rw[hb] at h
   exact dR hb (Fk B n r sc _ h)
  |false =>
   rw[hb] at h
   exact Uf hb (dS B n s sc _ (an h).1) (Fk B n r sc _ (an h).2)
end
def WQ(sc:Scope)(xs:Xs)(es:List Expr):Prop:=IP xs es=es/\QB xs sc es=true
def O5(sc:Scope)(x:Ss)(sts:List Stmt):Prop:=MY x sts=sts/\MZ x sc sts=true
theorem jT{xs:Xs}{sc:Scope}(h:WQ sc xs es)(ρ:Bw):LV B n sc ρ es (NE B n xs ρ):=by
 have k:=Fj B n xs sc es h.2 ρ
 rw[h.1] at k
 exact k
theorem gt{x:Ss}{sc:Scope}{sts:List Stmt}(h:O5 sc x sts):F4 B n sc (execs sts) (AQ B n x):=by
 have k:=Fk B n x sc sts h.2
 rw[h.1] at k
 exact k
inductive dr(K:Frag)(f:Addr)(ps:List Str)(body:List Stmt)(scope:Scope)(cl:List (Str×Addr)):Prop
 |mk (o:Obj) (fd:FuncData) (c:Addr) (oc:Obj) (vs:Array Value) (t:Tok) (h1:K.lookup f=some o) (h2:o.data= .func fd) (h3:fd.body= .stmts body) (h4:fd.scope=scope) (h5:fd.globals=mainGlobals) (h6:fd.builtins=builtinsNs) (h7:fd.closure=cl) (h8:fd.code= .ref c) (h9:K.lookup c=some oc) (h10:oc.data= .fields vs) (h11:vs[1]? = some (.str fd.qualname t))
  (h12:∀ws,ws.length=ps.length->bindArgs fd ⟨ws,[]⟩=pure (ps.zip ws))
noncomputable def BI(K:D->KH->Prop):KS:=λf _ H=>match f with
 |.ret d=>K d H
 |.next=>K .none H
 |_=>False
noncomputable def Lb(scope:Scope)(ps:List Str)(ds:List D):Bw:=scope.names.map λp=>(ps.zip ds).lookup p.1
noncomputable def KQ(scope:Scope)(ps:List Str):Bool :=
 scope.kind == .function && !scope.isCoroutine && !scope.isGenerator&&decide ((scope.names.map (·.1)).Nodup)&&decide ps.Nodup&&(scope.names.all λp=>!(p.2 == .free))&&ps.all λx=>scope.names.lookup x==some .local||scope.names.lookup x==some .cell
theorem GP:∀{l:List (Str×NameKind)} {n:Nat} {acc:List (Str×Addr)},((x,NameKind.cell)∈l\/(acc.lookup x).isSome=true)->((cellsFrom n l acc).lookup x).isSome=true
 |[],n,acc,h=>by
  rcases h with h|h
  ·cases h
  ·exact h
 |(y,k)::r,n,acc,h=>by
  unfold cellsFrom
  split
  ·refine GP ?_
   by_cases hyx:x=y
   ·subst hyx;right;simp
   ·rcases h with h|h
    ·rcases List.mem_cons.mp h with h|h
     ·cases h;exact absurd rfl hyx
     ·exact .inl h
    ·right
     rw[List.lookup_cons]
     have:(x==y)=false:=by simpa using hyx
     rw[this];exact h
  ·rename_i hk
   refine GP ?_
   rcases h with h|h
   ·rcases List.mem_cons.mp h with h|h
    ·cases h;simp at hk
    ·exact .inl h
   ·exact .inr h
theorem Jq:∀{ps:List Str} {vs:List Value} {ds:List D} {x:Str} {d:D},AR h H vs ds->(ps.zip ds).lookup x=some d->∃v,(ps.zip vs).lookup x=some v/\BN h H v d
 |[],_,_,_,_,_,e=>by simp at e
 |p::ps,_,_,x,d,.nil,e=>by simp at e
 |p::ps,_,_,x,d,.cons a r,e=>by
  rw[List.zip_cons_cons,List.lookup_cons] at e
  rw[List.zip_cons_cons,List.lookup_cons]
  split at e
  ·obtain rfl:=Option.some.inj e;exact⟨_,rfl,a⟩
  ·exact Jq r e
theorem KR{ps:List Str}{p:Str×Value}(h:p∈ps.zip vs):p.1∈ps:=by
 obtain⟨a,b⟩:=p
 exact(List.of_mem_zip h).1
theorem NV{kindOf:Str->Option NameKind}:∀{ps:List Str} {vs:List Value} {m:Str->Option Value},x∉ps->bindL kindOf (ps.zip vs) m x=m x
 |[],_,_,_=>rfl
 |p::ps,[],_,_=>rfl
 |p::ps,v::vs,m,h=>by
  rw[List.zip_cons_cons]
  unfold bindL
  rw[NV (λq=>h (List.mem_cons_of_mem _ q))]
  split
  ·exact if_neg (λ(e:x=p)=>h (e▸List.mem_cons_self ..))
  ·rfl
theorem NW{kindOf:Str->Option NameKind}:∀{ps:List Str} {vs:List Value} {m:Str->Option Value},x∉ps->bindC kindOf (ps.zip vs) m x=m x
 |[],_,_,_=>rfl
 |p::ps,[],_,_=>rfl
 |p::ps,v::vs,m,h=>by
  rw[List.zip_cons_cons]
  unfold bindC
  rw[NW (λq=>h (List.mem_cons_of_mem _ q))]
  split
  ·rfl
  ·exact if_neg (λ(e:x=p)=>h (e▸List.mem_cons_self ..))
theorem O6{kindOf:Str->Option NameKind}(hk:kindOf x=some .local):∀{ps:List Str} {vs:List Value} {m:Str->Option Value},ps.Nodup->(ps.zip vs).lookup x=some v->bindL kindOf (ps.zip vs) m x=some v
 |[],_,_,_,e=>by simp at e
 |p::ps,[],_,_,e=>by simp at e
 |p::ps,w::vs,m,hn,e=>by
  rw[List.nodup_cons] at hn
  rw[List.zip_cons_cons,List.lookup_cons] at e
  rw[List.zip_cons_cons]
  unfold bindL
  split at e
  ·rename_i hb
   obtain rfl:=Option.some.inj e
   obtain rfl:=beq_iff_eq.mp hb
   rw[if_pos hk,NV hn.1];simp
  ·exact O6 hk hn.2 e
theorem O7{kindOf:Str->Option NameKind}(hk:¬kindOf x=some .local):∀{ps:List Str} {vs:List Value} {m:Str->Option Value},ps.Nodup->(ps.zip vs).lookup x=some v->bindC kindOf (ps.zip vs) m x=some v
 |[],_,_,_,e=>by simp at e
 |p::ps,[],_,_,e=>by simp at e
 |p::ps,w::vs,m,hn,e=>by
  rw[List.nodup_cons] at hn
  rw[List.zip_cons_cons,List.lookup_cons] at e
  rw[List.zip_cons_cons]
  unfold bindC
  split at e
  ·rename_i hb
   obtain rfl:=Option.some.inj e
   obtain rfl:=beq_iff_eq.mp hb
   rw[if_neg hk,NW hn.1];simp
  ·exact O7 hk hn.2 e
section
variable {B:Base} {n:Nat} {f:Addr} {ps:List Str} {body:List Stmt} {scope:Scope} {ir:Ss} {ds:List D} {H:KH} {K:D->KH->Prop}
noncomputable def IQ(B:Base)(n:Nat)(f:Value)(ds:List D)(H:KH)(K:D->KH->Prop):Prop :=
 ∀(A:Around) (s:Shared) (vs:List Value),Rm n A->BP B H s.heap->AR s.heap H vs ds->codeAny (model B.prog B.w) A (.call f ⟨vs,[]⟩) (λr s'=>match r with| .ok (.ret v)=>PV B H s K v s'|_=>False) s
theorem IQ.callV{f:Value}(h:IQ B n f ds H K):Qo B n f ds H K:=by
 intro A s vs rm R x
 refine wpAny_call (codeAny_mono (h A s vs rm R x) λr s' z=>?_)
 rcases r with e|(v|_|_|_)<;>first|exact z|exact z.elim
theorem Q2(fa:dr B.K f ps body scope [])(hs:KQ scope ps=true)(hc:O5 scope ir body)(hd:ds.length=ps.length)(k:AQ B n ir (Lb scope ps ds) H (BI K)):IQ B (n+1) (.ref f) ds H K:=by
 intro A s vs rm R x
 obtain⟨o,fd,c,oc,mQ,t,h1,h2,h3,rfl,h5,h6,h7,h8,h9,h10,h11,h12⟩:=fa
 unfold KQ at hs
 simp only[Bool.and_eq_true] at hs
 obtain⟨⟨⟨⟨⟨⟨s1,s2⟩,s3⟩,s4⟩,s5⟩,s6⟩,s7⟩:=hs
 have s1:fd.scope.kind= .function:=by simpa using s1
 have s2:fd.scope.isCoroutine=false:=by simpa using s2
 have s3:fd.scope.isGenerator=false:=by simpa using s3
 have s4:=of_decide_eq_true s4
 have s5:=of_decide_eq_true s5
 have nofree:∀y k,(y,k)∈fd.scope.names->k≠.free:=λy k hm hk=>by
  have:=List.all_eq_true.mp s6 (y,k) hm
  rw[hk] at this;cases this
 have s7':∀y∈ps,fd.scope.names.lookup y=some .local\/fd.scope.names.lookup y=some .cell:=λy hy=>by
  have:=List.all_eq_true.mp s7 y hy
  simpa[Bool.or_eq_true] using this
 have new:∀a,s.heap.objs.size<=a->s.heap.get? a=none:=λa ha=>by
  cases q:s.heap.get? a with
  |none=>rfl
  |some o=>exact absurd (Heap.lt_size q) (Nat.not_lt.mpr ha)
 have X:=R.inK
 refine codeAny_call_cells (binds:=ps.zip vs) rm.depth (X _ _ h1) h2 (B.lim.keeps λb o e=>(R.base b o e).1) ⟨c,oc,mQ,t,h8,X _ _ h9,h10,h11⟩ h3 (h12 vs (x.length.trans hd)) h7 (λp hp=>?_) (λsb I=>?_) s2 s3 s1
 ·rcases s7' p.1 (KR hp) with h|h
  ·exact .inl h
  ·exact .inr ⟨h,GP (.inl (DP h))⟩
 ·refine M5 I.done λh' tk mN keep=>?_;subst mN
  have F:BQ B (callEnvC fd s.heap.objs.size f) (Lb fd.scope ps ds) H h':=by
   have fresh:∀y c,(callEnvC fd s.heap.objs.size f).cells.lookup y=some c->H c=none/\B.h0a.get? c=none:=λy c hc=>By R (new c (Nat.le_of_lt (I.above y c (mem_of_lookup hc))))
   refine⟨⟨s1,h5,h6,s4,λy z c h h'=>name_of_addr I.apart (mem_of_lookup h) (mem_of_lookup h')⟩,by unfold Lb;rw[List.length_map];rfl,R.free,(By R Bq).2,λy k hm hk=>?_,_,I.toInCall.ns,λi y k d hi hρ hv=>?_⟩
   ·rcases hk with rfl|rfl
    ·refine Ex (Option.isSome_iff_exists.mp (GP (n:=s.heap.objs.size+1) (acc:=[]) (.inl hm))) λc hc=>?_
     exact⟨c,_,hc,I.cell y c hc,(fresh y c hc).1,λ_=>(fresh y c hc).2⟩
    ·exact absurd rfl (nofree y _ hm)
   ·have hi':fd.scope.names[i]? = some (y,k):=hi
    have hl:(callEnvC fd s.heap.objs.size f).kindOf y=some k:=Cg s4 hi'
    have hρ':(ps.zip ds).lookup y=some d:=by
     unfold Lb at hρ
     rw[List.getElem?_map,hi'] at hρ
     simpa using hρ
    refine BG (Jq x hρ') λv e1 e2=>?_
    refine⟨v,?_,e2.step (BE.ext keep)⟩
    cases k with
    |«local»=>exact O6 hl s5 e1
    |cell =>
     refine Ex (Option.isSome_iff_exists.mp (GP (n:=s.heap.objs.size+1) (acc:=[]) (.inl (List.mem_of_getElem? hi')))) λc hc=>?_
     refine⟨c,hc,?_⟩
     have:=I.cell y c hc
     rw[O7 (by rw[hl];intro z;cases z) s5 e1] at this
     exact this
    |free=>exact absurd rfl (nofree y _ (List.mem_of_getElem? hi'))
    |_=>cases hv
  refine PS.mo (gt hc (callEnvC fd s.heap.objs.size f) _ H (BI K) _ {s with heap:=h',toks:=tk} rfl rm.deeper (R.ext keep) F k) λfl s' ρ' H' n' R' F' pf=>?_
  have nx:Nx H s H' s':=by
   refine⟨?_,⟨λa o e q=>n'.2.keep a o (keep a o e) q ?_⟩⟩
   ·obtain⟨⟨h1,t1,rfl⟩,-⟩:=n';exact⟨h1,t1,rfl⟩
   ·rintro(rfl|⟨y,-,hy⟩)
    ·exact absurd (Heap.lt_size e) (Nat.lt_irrefl _)
    ·have:=I.above y a (mem_of_lookup hy)
     exact absurd (Heap.lt_size e) (Nat.not_lt.mpr (Nat.le_of_lt this))
  cases fl with
  |next=>exact⟨.none,H',.none,R',nx,pf⟩
  |brk=>exact pf.elim
  |cont=>exact pf.elim
  |ret v=>refine BG pf λd hd kd=>?_;exact⟨d,H',hd,R',nx,kd⟩
theorem gu(fa:dr B.K f ps body scope [])(hs:KQ scope ps=true)(hc:O5 scope ir body)(hd:ds.length=ps.length)(k:AQ B n ir (Lb scope ps ds) H (BI K)):Qo B (n+1) (.ref f) ds H K:=(Q2 fa hs hc hd k).callV
end
theorem O8(args:Args):(Code.builtin "type.__call__" args).frames=0:=by kernel_rfl
theorem Uh(args:Args):(Code.builtin "type.__call__" args).isCaller=false:=by kernel_rfl
theorem Rm.under_tc(r:Rm (n+3) A)(args:Args):Rm n (A.under (.builtin "type.__call__" args)):=by
 have hw:(Code.builtin "type.__call__" args).weight<=2:=by
  unfold Code.weight
  rw[O8,Uh]
  split<;>split<;>simp
 have hu:(Code.builtin "type.__call__" args).cUnits<=10:=by
  show 1+3*(Code.builtin "type.__call__" args).frames<=10
  rw[O8];decide
 refine⟨r.hd,?_,?_,?_⟩
 ·have:=r.dp;show A.depth+(Code.builtin "type.__call__" args).weight+n<900;exact AA [_,_,_] [] [.u (.p Aa (.p Af An)) A1,.l Ab Ar] (.u (.p (.p Aa Ab) Af) A1) rfl this hw
 ·have:=r.un;show A.units+(Code.builtin "type.__call__" args).cUnits+100*n<9000;exact AA [_,_,_] [] [.u (.p Aa (.t 100 (.p Af An))) (.n 9000),.l Ab (.n 10)] (.u (.p (.p Aa Ab) (.t 100 Af)) (.n 9000)) rfl this hu
 ·refine Ex r.fr λl e=>?_
  refine⟨(Code.builtin "type.__call__" args).envs++l,?_⟩
  unfold Around.under
  show pushEnvs (Code.builtin "type.__call__" args).envs A.frames=_
  rw[e]
  cases (Code.builtin "type.__call__" args).envs<;>rfl
section
variable {B:Base} {n:Nat} {C fI:Addr} {ds:List D} {H:KH} {K:D->KH->Prop}
theorem Jr(hm:makesIn B.K C=true)(hi:findIn B.K (.ref C) "__init__"=some (some (.ref fI)))(hf:typeIn B.K (.ref fI)=some (.type "function"))
  (h:∀dx x,H dx=none->H x=none->x≠dx->IQ B n (.ref fI) (.ref x::ds) ((H.set dx (.attrs [])).set x (.inst C dx)) (λd H'=>d= .none/\K (.ref x) H')):Qo B (n+3) (.ref C) ds H K:=by
 intro A s vs rm R xs
 obtain⟨hh,g,d,t,os⟩:=s
 have new:∀i,hh.get? (hh.objs.size+i)=none:=λi=>by
  cases q:hh.get? (hh.objs.size+i) with
  |none=>rfl
  |some o=>exact absurd (Heap.lt_size q) (Nat.not_lt.mpr (Nat.le_add_right _ _))
 have hne:(hh.objs.size+1:Nat)≠hh.objs.size:=Nat.succ_ne_self _
 refine wpAny_call (make_core (makes_of R.inK hm) (looks_findIn R.inK hi) (λself=>bind_fn R.inK self hf) (.inl rfl) ?_)
 have R1:BP B (H.set hh.objs.size (.attrs [])) (hh.push emptyDict):=R.put (λa o _ e=>Heap.get?_push_of_some _ e) (.inr Bq) ⟨_,Heap.get?_push_size _ rfl⟩ ⟨[],0,Heap.get?_push_size _ rfl,by simp,.nil⟩
 have S1:BE H hh (H.set hh.objs.size (.attrs [])) (hh.push emptyDict):=BE.put (λa o _ e=>Heap.get?_push_of_some _ e) (.inr Bq)
 have hs1:(hh.push emptyDict).objs.size=hh.objs.size+1:=Heap.size_push ..
 have R2:BP B ((H.set hh.objs.size (.attrs [])).set (hh.objs.size+1) (.inst C hh.objs.size)) ((hh.push emptyDict).push (instObj C hh.objs.size)):=by
  rw[←hs1]
  exact R1.put (λa o _ e=>Heap.get?_push_of_some _ e) (.inr Bq) ⟨_,Heap.get?_push_size _ rfl⟩ (Heap.get?_push_size _ rfl)
 have S2:BE (H.set hh.objs.size (.attrs [])) (hh.push emptyDict) ((H.set hh.objs.size (.attrs [])).set (hh.objs.size+1) (.inst C hh.objs.size)) ((hh.push emptyDict).push (instObj C hh.objs.size)):=by
  rw[←hs1]
  exact BE.put (λa o _ e=>Heap.get?_push_of_some _ e) (.inr Bq)
 have S:=S1.trans S2
 refine codeAny_mono (h hh.objs.size (hh.objs.size+1) R.free (By R (new 1)).1 hne _ ⟨(hh.push emptyDict).push (instObj C hh.objs.size),g,d,t,os⟩ (.ref (hh.objs.size+1)::vs) (rm.under_tc _) R2 (.cons (.ref _) (xs.step S))) λr s' z=>?_
 rcases r with e|(v|_|_|_)<;>try exact z.elim
 obtain⟨d',H',hv,R',n',rfl,k⟩:=z
 refine hv.noneE ?_
 refine⟨rfl,.ref _,H',.ref _,R',Nx.trans (sb:=⟨(hh.push emptyDict).push (instObj C hh.objs.size),g,d,t,os⟩) ⟨⟨_,t,rfl⟩,S⟩ n',k⟩
end
theorem O9:∀{ps:List Str} {vs:List Value},ps.Nodup->((ps.zip vs).map (·.1)).Nodup
 |[],_,_=>by simp
 |p::ps,[],_=>by simp
 |p::ps,v::vs,h=>by
  rw[List.nodup_cons] at h
  rw[List.zip_cons_cons,List.map_cons,List.nodup_cons]
  refine⟨λhm=>?_,O9 h.2⟩
  refine BG (List.mem_map.mp hm) λq hq e=>?_
  have:=KR hq
  rw[e] at this
  exact h.1 this
theorem JR:∀{l:List (Str×Value)},(l.map (·.1)).Nodup->(x,v)∈l->l.lookup x=some v
 |[],_,hm=>by cases hm
 |(y,w)::r,hn,hm=>by
  rw[List.map_cons,List.nodup_cons] at hn
  rcases List.mem_cons.mp hm with e|hm'
  ·cases e;simp
  ·have hne:(x==y)=false:=by
    apply beq_eq_false_iff_ne.mpr
    rintro rfl
    exact hn.1 (List.mem_map.mpr ⟨(x,v),hm',rfl⟩)
   rw[List.lookup_cons,hne];exact JR hn.2 hm'
theorem NX{ps:List Str}(hn:ps.Nodup)(h:(ps.zip vs).lookup x=some v):(ps.zip vs).reverse.lookup x=some v:=by
 refine JR ?_ (List.mem_reverse.mpr (mem_of_lookup h))
 rw[List.map_reverse]
 exact(List.reverse_perm _).nodup_iff.mpr (O9 hn)
inductive iI(B:Base)(f C:Addr)(ps:List Str)(body:List Stmt)(scope:Scope):Prop
 |mk (cc cda:Addr) (o:Obj) (fd:FuncData) (oc:Obj) (vs:Array Value) (t:Tok) (ar:Arg) (file:Str) (tf:Tok) (ocl:Obj) (h1:B.K.lookup f=some o) (h2:o.data= .func fd) (h3:fd.body= .stmts body) (h4:fd.scope=scope) (h5:fd.globals=mainGlobals) (h6:fd.builtins=builtinsNs) (h7:fd.closure=[(("__class__":Str),cc)]) (h8:fd.code= .ref cda) (h9:B.K.lookup cda=some oc) (h10:oc.data= .fields vs) (h11:vs[1]? = some (.str fd.qualname t))
  (h12:∀ws,ws.length=ps.length->bindArgs fd ⟨ws,[]⟩=pure (ps.zip ws)) (q4:(fd.params.posonlyargs++fd.params.args).head? = some ar) (q5:ps.head? = some ar.arg) (c3:vs[2]? = some (.str file tf)) (c4:((B.prog.main.file:Str)==file)=true) (g1:B.K.lookup cc=some ocl) (g2:ocl.data= .cell (some (.ref C)))
structure az(B:Base)(f C f2:Addr)(ps:List Str)(body:List Stmt)(scope:Scope):Prop where
 fn:iI B f C ps body scope
 cls:∃cd,clsIn B.K C=some cd
 sub:mroIn B.K C (.ref C)=some true
 opq:nsIn B.K cStatics "thirdparty.any"=some none
 meth:ks_superIn B.K C C "__init__"=some (some (.ref f2))
 ty:typeIn B.K (.ref f2)=some (.type "function")
 fn2:fnIn B.K f2=true
 top:(B.prog.main.scope.names.lookup ("super":Str)).isSome=false
noncomputable def NY(scope:Scope)(ps:List Str):Bool :=
 scope.kind == .function && !scope.isCoroutine && !scope.isGenerator&&decide ((scope.names.map (·.1)).Nodup)&&decide ps.Nodup&&(scope.names.all λp=>!(p.2 == .cell)&&(!(p.2 == .free)||p.1==("__class__":Str))) &&
 (ps.all λx=>scope.names.lookup x==some .local)&&scope.names.lookup ("super":Str)==some .globalImplicit&&scope.names.lookup ("__class__":Str)==some .free
section
variable {B:Base} {n:Nat} {f C f2:Addr} {ps:List Str} {body rest:List Stmt} {scope:Scope} {ir:Ss} {xs:Xs} {ds:List D} {H:KH} {K:D->KH->Prop} {es:List Expr} {p0 p1 p2 p3 ap:Pos}
theorem OV{c:Code}{M:Model}{o:Expr}(hl:(apos.endLine==pos.line)=true)(hp:BH es=true)(hz:es.length<30)
  (h:PySem.wpAt M A c (attributeBase o name env (eval o env)) (λov sb=>∀pl,wpAny M A (getMethod ov name pl) (λfx se=>wpAny M A (callWith pos fx.1 fx.2 (backTo pos (starEach es env)) []) Q E se) E sb) E s) :
  PySem.wpAt M A c (eval (.Call (.Attribute o name apos) es [] pos) env) Q E s:=by
 show PySem.wpAt _ A c (do let ov ←attributeBase o name env (eval o env);standAt apos.atName;methodCall o name apos pos env ov (es.length+0) (backTo pos (starEach es env)) []) _ _ _
 refine PySem.wpAt_bind (ks_wpAt_mono h (λov sb h0b=>wpAt_of_wpAny (wpAny_bind (wpAny_standAt ?_))) λ_ _ x=>x)
 have hall:∀{es:List Expr},BH es=true->(backTo pos (starEach es env)).all (!·.1)=true:=by
  intro es
  induction es with
  |nil=>intro _;rfl
  |cons e es ih=>intro h;refine Ea (Bool.and_eq_true_iff.mp h) λh1 h2=>?_;rw[CB h1];exact ih h2
 have hform:methodCallForm (es.length+0) (backTo pos (starEach es env)) []=true:=by
  unfold methodCallForm
  rw[hall hp]
  simp;exact AA [_] [] [.u Aa (.n 30)] (.u Aa (.n 30)) rfl hz
 unfold methodCall
 rw[hform]
 refine wpAny_bind (wpAny_holding ?_)
 show wpAny _ A (getMethod ov name _) _ _ _
 refine wpAny_mono (h0b _) (λfx se h0c=>?_) λ_ _ x=>x
 unfold methodCallPos
 rw[hl]
 exact wpAny_bind (wpAny_pure h0c)
theorem Q3{x dx:Addr}(sa:az B f C f2 ps (.Expr (.Call (.Attribute (.Call (.Name ("super":Str) p0) [] [] p1) "__init__" ap) es [] p2) p3::rest) scope)(hs:NY scope ps=true)(hl:(ap.endLine==p2.line)=true)(hp:BH es=true)(hz:es.length<30)
  (hxs:WQ scope xs es) (hc:O5 scope ir rest) (hd:ds.length=ps.length) (h0:ds.head? = some (.ref x)) (hx:H x=some (.inst C dx))
  (k:NE B n xs (Lb scope ps ds) H λas H=>IQ B n (.ref f2) (.ref x::as) H λ_ H=>AQ B n ir (Lb scope ps ds) H (BI K)):IQ B (n+1) (.ref f) ds H K:=by
 intro A s vs rm R xv
 obtain⟨⟨cc,c,o,fd,oc,mQ,t,ar,file,tf,ocl,h1,h2,h3,rfl,h5,h6,h7,h8,h9,h10,h11,h12,q4,q5,c3,c4,g1,g2⟩,⟨cd,hcls⟩,hsub,hopq,hmeth,hty,hfn2,htop⟩:=sa
 unfold NY at hs
 simp only[Bool.and_eq_true] at hs
 obtain⟨⟨⟨⟨⟨⟨⟨⟨s1,s2⟩,s3⟩,s4⟩,s5⟩,s6⟩,s7⟩,s8⟩,s9⟩:=hs
 have s1:fd.scope.kind= .function:=by simpa using s1
 have s2:fd.scope.isCoroutine=false:=by simpa using s2
 have s3:fd.scope.isGenerator=false:=by simpa using s3
 have s4:=of_decide_eq_true s4
 have s5:=of_decide_eq_true s5
 have s7':∀y∈ps,fd.scope.names.lookup y=some .local:=λy hy=>by simpa using List.all_eq_true.mp s7 y hy
 have nocell:∀y k,(y,k)∈fd.scope.names->k≠.cell/\(k= .free->y=("__class__":Str)):=λy k hm=>by
  have:=List.all_eq_true.mp s6 (y,k) hm
  simp only[Bool.and_eq_true,Bool.or_eq_true] at this
  refine⟨(by rintro rfl;cases this.1),?_⟩
  rintro rfl
  rcases this.2 with h|h
  ·cases h
  ·exact beq_iff_eq.mp h
 have X:=R.inK
 refine ks_codeAny_call_defAt (binds:=ps.zip vs) rm.depth (X _ _ h1) h2 (B.lim.keeps λb o e=>(R.base b o e).1) ⟨_,oc,mQ,t,h8,X _ _ h9,h10,h11⟩ h3 (BindsTo.of_eq (h12 vs (xv.length.trans hd))) (λy hy=>(nocell y.1 y.2 hy).1) (λp hp=>s7' p.1 (KR hp)) (λh' hns keep=>?_) s2 s3 s1
 have F:BQ B (callEnv fd s.heap.objs.size f) (Lb fd.scope ps ds) H h':=by
  refine⟨⟨s1,h5,h6,s4,λy z c hy hz=>?_⟩,by unfold Lb;rw[List.length_map];rfl,R.free,(By R Bq).2,λy k hm hk=>?_,_,hns,λi y k d hi hρ hv=>?_⟩
  ·have hy':List.lookup y fd.closure=some c:=hy
   have hz':List.lookup z fd.closure=some c:=hz
   rw[h7] at hy' hz'
   have e1:=mem_of_lookup hy'
   have e2:=mem_of_lookup hz'
   simp at e1 e2
   rw[e1.1,e2.1]
  ·rcases hk with rfl|rfl
   ·exact absurd rfl (nocell y _ hm).1
   ·obtain rfl:=(nocell y _ hm).2 rfl
    refine⟨cc,some (.ref C),?_,⟨ocl,keep _ _ (X _ _ g1),g2⟩,?_,λz=>by cases z⟩
    ·show List.lookup _ fd.closure=_;rw[h7];simp
    ·exact(R.base cc ocl (B.hK _ _ g1)).2
  ·have hi':fd.scope.names[i]? = some (y,k):=hi
   have hl:(callEnv fd s.heap.objs.size f).kindOf y=some k:=Cg s4 hi'
   have hρ':(ps.zip ds).lookup y=some d:=by
    unfold Lb at hρ
    rw[List.getElem?_map,hi'] at hρ
    simpa using hρ
   refine BG (Jq xv hρ') λv e1 e2=>?_
   refine⟨v,?_,e2.step (BE.ext keep)⟩
   have hyp:y∈ps:=KR (mem_of_lookup e1)
   have:=s7' y hyp
   rw[Cg s4 hi'] at this;obtain rfl:=Option.some.inj this
   exact NX s5 e1
 have C5:∀fl s',PS B (callEnv fd s.heap.objs.size f) H {s with heap:=h',toks:=s.toks+(ps.zip vs).length} (BI K) fl s'->∃d H',BN s'.heap H' (match fl with| .ret v=>v|_=>.none) d/\BP B H' s'.heap/\Nx H s H' s'/\K d H':=by
  rintro fl s' ⟨ρ',H',n',R',F',pf⟩
  have nx:Nx H s H' s':=by
   refine⟨?_,⟨λa o e q=>n'.2.keep a o (keep a o e) q ?_⟩⟩
   ·obtain⟨⟨h1,t1,rfl⟩,-⟩:=n';exact⟨h1,t1,rfl⟩
   ·rintro(rfl|⟨y,hk,-⟩)
    ·exact absurd (Heap.lt_size e) (Nat.lt_irrefl _)
    ·exact absurd rfl (nocell y _ (DP hk)).1
  cases fl with
  |next=>exact⟨.none,H',.none,R',nx,pf⟩
  |brk=>exact pf.elim
  |cont=>exact pf.elim
  |ret v=>refine BG pf λd hd kd=>?_;exact⟨d,H',hd,R',nx,kd⟩
 have rm':Rm n (A.deeper (callEnv fd s.heap.objs.size f)):=rm.deeper
 have R0e:BP B H h':=R.ext keep
 have X':B.K.In h':=R0e.inK
 have hks:(callEnv fd s.heap.objs.size f).kindOf ("super":Str)=some .globalImplicit:=beq_iff_eq.mp s8
 have hkc:(callEnv fd s.heap.objs.size f).kindOf ("__class__":Str)=some .free:=beq_iff_eq.mp s9
 have hcl:(callEnv fd s.heap.objs.size f).cells.lookup ("__class__":Str)=some cc:=by show List.lookup _ fd.closure=_;rw[h7];simp
 refine Ea (R0e.know _ _ hx) λ_ hxo=>?_
 have hxo:h'.get? x=some (instObj C dx):=hxo
 obtain⟨oD,hD1,hD2⟩:∃oD,B.K.lookup C=some oD/\oD.data= .cls cd:=by
  unfold clsIn at hcls
  split at hcls
  ·rename_i ho;obtain rfl:=Option.some.inj hcls;exact⟨_,ho,rfl⟩
  ·exact nS hcls
 have hxC:x≠C:=by
  rintro rfl
  have:=X' _ _ hD1
  obtain rfl:=Option.some.inj (hxo.symm.trans this);cases hD2
 obtain⟨of,hof,hofc⟩:∃of,B.K.lookup f2=some of/\of.cls= .type "function":=by
  have ht':(B.K.lookup f2).map (·.cls)=some (.type "function"):=hty
  cases z:B.K.lookup f2 with
  |none=>rw[z] at ht';cases ht'
  |some of=>rw[z] at ht';exact⟨of,rfl,Option.some.inj ht'⟩
 have hal:alongIn B.K "__init__" ((cd.mro.dropWhile (· != .ref C)).drop 1)=some (some (.ref f2)):=by
  unfold ks_superIn at hmeth;rw[hcls] at hmeth;exact hmeth
 have hself:∀(Q:Value->Shared->Prop) (A':Around) (s':Shared),s'.heap=h'->Q (.ref x) s'->wpAny (model B.prog B.w) A' (loadName (callEnv fd s.heap.objs.size f) ar.arg) Q B9 s':=by
  intro Q A' s' hs' hQ
  have hmem:ar.arg∈ps:=by cases ps with
   |nil=>cases q5
   |cons p r=>cases q5;exact List.mem_cons_self ..
  have hl':(callEnv fd s.heap.objs.size f).kindOf ar.arg=some .local:=s7' _ hmem
  obtain⟨v,hv⟩:∃v,vs.head? = some v/\BN s.heap H v (.ref x):=by
   cases xv with
   |nil=>cases h0
   |cons a r=>cases h0;exact⟨_,rfl,a⟩
  refine Ea hv λhv1 hv2=>?_
  cases hv2
  refine wpAny_loadName_local s1 hl' (m:=λy=>(ps.zip vs).reverse.lookup y) (by rw[hs'];exact hns) (NX s5 ?_) hQ
  cases ps with
  |nil=>cases q5
  |cons p r =>
   cases q5
   cases vs with
   |nil=>cases hv1
   |cons v r'=>cases hv1;simp
 refine ks_wpAt_mono (E:=B9) (Q:=PS B (callEnv fd s.heap.objs.size f) H {s with heap:=h',toks:=s.toks+(ps.zip vs).length} (BI K)) ?_ (λfl s' pp=>let ⟨d,H',a,b,c,e⟩:=C5 fl s' pp;⟨d,H',a,b,c,e⟩) (λ_ _ x=>x.elim)
 refine ks_wpAt_execs_cons (ks_wpAt_Expr_any ?_ (by unfold interactive;rw[show(callEnv fd s.heap.objs.size f).scope.kind= .function from s1];rfl) rfl)
 refine OV hl hp hz ?_
 refine ks_wpAt_super_base (env:=callEnv fd s.heap.objs.size f) hks hkc rfl rfl (X' _ _ h1) h2 q4 h8 (X' _ _ h9) h10 c3 c4 htop ?_
 refine ks_loadName_global s1 hks (loadGlobal_builtin (mg:=B.mg) (mb:=B.mb) (by rw[show(callEnv fd s.heap.objs.size f).globals=mainGlobals from h5];exact R0e.g) (ns_none_of X' R0e.g (B.nb _ (by simp[C6]))) (by rw[show(callEnv fd s.heap.objs.size f).builtins=builtinsNs from h6];exact R0e.inB) ((B.bi _ (by decide)).trans SB) ⟨rfl,?_⟩)
 refine wpAny_loadName_free s1 hkc hcl ⟨ocl,X' _ _ g1,g2⟩ ?_
 refine hself _ _ _ rfl ?_
 refine ks_wpAny_isType_cls (X' _ _ hD1) hD2 ⟨rfl,?_⟩
 refine ks_wpAny_call_super (X' _ _ hD1) hD2 hxo rfl (λc e=>by cases e) (looks_mroIn X' hsub) (λha e1 k1=>?_)
 intro pl
 have Xa:B.K.In ha:=X'.keeps k1
 refine ks_wpAny_getMethod_super e1 (looks_opaque Xa hopq) (l₀:=cd.mro) (λA Q E s k q=>wpAny_bind ((looks_clsIn Xa hcls) A _ E s k (wpAny_pure q))) rfl Xa hal (Xa _ _ hof) hofc hxC rfl ?_
 have k2:∀a o,ha.get? a=some o->(ha.push (methodObj (.ref f2) (.ref x))).get? a=some o:=λa o e=>Heap.get?_push_of_some _ e
 have k12:∀a o,h'.get? a=some o->(ha.push (methodObj (.ref f2) (.ref x))).get? a=some o:=λa o e=>k2 a o (k1 a o e)
 have R0c:BP B H (ha.push (methodObj (.ref f2) (.ref x))):=R0e.ext k12
 have F0b:BQ B (callEnv fd s.heap.objs.size f) (Lb fd.scope ps ds) H (ha.push (methodObj (.ref f2) (.ref x))):=F.step (BE.ext k12)
 have hq:(ha.push (methodObj (.ref f2) (.ref x))).get? ha.objs.size=some (methodObj (.ref f2) (.ref x)):=Heap.get?_push_at rfl rfl
 have hqH:H ha.objs.size=none:=(By (R0e.ext k1) Bq).1
 refine callWith_of (P:=MethP B.K ha.objs.size f2 (.ref x)) (by rw[FB hp];rfl) (keeps_M hfn2) (Ej (FB hp) ?_)
 refine aQ.mo (jT (B:=B) (n:=n) hxs _ (callEnv fd s.heap.objs.size f) H _ _ _ p2 rfl rm' R0c F0b k) λws si as H0e y4 R0d n4 l0a k0d=>?_
 refine Ea (n4.2.keep _ _ hq hqH) λm1 m2=>?_
 refine⟨⟨m1,R0d.inK⟩,wpAny_call (ks_codeAny_call_bound m1 ?_)⟩
 refine codeAny_mono (k0d _ si (.ref x::ws) rm' R0d (.cons (.ref _) y4)) λr sj z=>?_
 rcases r with e|(v|_|_|_)<;>try exact z.elim
 obtain⟨d0f,H0f,hv5,R0f,n5,k0e⟩:=z
 have nh:Nx H {s with heap:=h',toks:=s.toks+(ps.zip vs).length} H {s with heap:=ha.push (methodObj (.ref f2) (.ref x)),toks:=s.toks+(ps.zip vs).length+1}:=⟨⟨_,_,rfl⟩,BE.ext k12⟩
 exact wpAt_of_wpAny (PS.then ((nh.trans n4).trans n5).toF (gt hc (callEnv fd s.heap.objs.size f) _ H0f (BI K) _ sj rfl rm' R0f ((F0b.step n4.2).step n5.2) k0e))
end
noncomputable def F6:Ss :=
 (.cons (.ite (.and (.cmp (.blt .len (.cons (.var 0) .nil)) .Gt (.int 0)) (.cmp (.var 1) .LtE (.bin .Add (.sub (.sub (.var 0) (.neg (.int 1))) (.int 1)) (.int 1))))
 (.cons (.ite (.cmp (.var 2) .Gt (.sub (.sub (.var 0) (.neg (.int 1))) (.int 1)))
 (.cons (.setitem (.var 0) (.neg (.int 1)) (.tup (.cons (.sub (.sub (.var 0) (.neg (.int 1))) (.int 0)) (.cons (.var 2) .nil))))
 .nil)
 .nil)
 .nil)
 (.cons (.expr (.append (.var 0) (.tup (.cons (.var 1) (.cons (.var 2) .nil)))))
 .nil))
 .nil)
noncomputable def JS:List Str:=["found","low","high"]
noncomputable def JT:List Str:=["found","low","high","len"]
noncomputable def Fl:Ss :=
 (.cons (.expr (.call "put_behind" (.cons (.var 1) (.cons (.var 2) (.cons (.var 2) .nil)))))
 .nil)
def FD:Ss :=
 (.cons (.asg (.v 1) (.lst false .nil))
 (.cons (.for (.v 2) (.of (.blt .sorted (.cons (.var 0) .nil))) Fl)
 (.cons (.freeze 1)
 (.cons (.ret (.blt .tuple (.cons (.var 1) .nil)))
 .nil))))
noncomputable def IR:List Str:=["numbers"]
noncomputable def IS:List Str:=["numbers","found","v","sorted","put_behind","tuple"]
noncomputable def gv:Ss :=
 (.cons (.ret (.sub (.sub (.var 0) (.int 0)) (.int 0)))
 .nil)
noncomputable def gw:List Str:=["d"]
noncomputable def gx:List Str:=["d"]
noncomputable def af:Ss :=
 (.cons (.ret (.sub (.sub (.var 0) (.neg (.int 1))) (.int 1)))
 .nil)
noncomputable def ag:List Str:=["d"]
noncomputable def ah:List Str:=["d"]
noncomputable def HQ:Ss :=
 (.cons (.ite (.cmp (.var 1) .LtE (.var 3))
 (.cons (.ret (.blt .max2 (.cons (.var 2) (.cons (.var 1) .nil))))
 .nil)
 .nil)
 .nil)
def G0:Ss :=
 (.cons (.for (.t [2,3]) (.of (.var 0)) HQ)
 (.cons (.ret .none)
 .nil))
noncomputable def KT:List Str:=["d","v"]
noncomputable def KU:List Str:=["d","v","low","high","max"]
noncomputable def SY:Ss :=
 (.cons (.ret (.cmp (.call "next_from" (.cons (.var 0) (.cons (.var 1) .nil))) .Eq (.var 1)))
 .nil)
noncomputable def WR:List Str:=["d","v"]
noncomputable def WT:List Str:=["d","v","next_from"]
noncomputable def KV:Ss :=
 (.cons (.expr (.extendRange (.var 1) (.var 2) (.bin .Add (.var 3) (.int 1))))
 .nil)
def Ld:Ss :=
 (.cons (.asg (.v 1) (.lst false .nil))
 (.cons (.for (.t [2,3]) (.of (.var 0)) KV)
 (.cons (.freeze 1)
 (.cons (.ret (.var 1))
 .nil))))
noncomputable def PA:List Str:=["d"]
noncomputable def PD:List Str:=["d","found","low","high","range"]
noncomputable def NZ:Ss :=
 (.cons (.ret (.blt .tuple (.cons (.comp true [none,none,none,none,some 1] (.t [1,2]) (.of (.var 0)) (.cmp (.var 1) .LtE (.var 4)) (.tup (.cons (.var 1) (.cons (.blt .min2 (.cons (.var 2) (.cons (.var 4) .nil))) .nil)))) .nil)))
 .nil)
noncomputable def Q4:List Str:=["d","k"]
noncomputable def Q5:List Str:=["d","k","tuple"]
noncomputable def Js:Ss :=
 (.cons (.ret (.blt .tuple (.cons (.comp true [none,none,none,none,some 1] (.t [1,2]) (.of (.var 0)) (.cmp (.var 2) .GtE (.var 4)) (.tup (.cons (.blt .max2 (.cons (.var 1) (.cons (.var 4) .nil))) (.cons (.var 2) .nil)))) .nil)))
 .nil)
noncomputable def Na:List Str:=["d","k"]
noncomputable def Nb:List Str:=["d","k","tuple"]
noncomputable def Jt:Ss :=
 (.cons (.ret (.bin .Add (.call "up_to" (.cons (.var 0) (.cons (.bin .Sub (.var 1) (.int 1)) .nil))) (.call "from_on" (.cons (.var 0) (.cons (.bin .Add (.var 1) (.int 1)) .nil)))))
 .nil)
noncomputable def Nc:List Str:=["d","v"]
noncomputable def Nd:List Str:=["d","v","up_to","from_on"]
noncomputable def G1:X:=(.and (.cmp (.var 3) .Lt (.blt .len (.cons (.var 0) .nil))) (.cmp (.var 4) .Lt (.blt .len (.cons (.var 1) .nil))))
noncomputable def G2:Ss :=
 (.cons (.swap [5,6] (.cons (.blt .max2 (.cons (.sub (.sub (.var 0) (.var 3)) (.int 0)) (.cons (.sub (.sub (.var 1) (.var 4)) (.int 0)) .nil))) (.cons (.blt .min2 (.cons (.sub (.sub (.var 0) (.var 3)) (.int 1)) (.cons (.sub (.sub (.var 1) (.var 4)) (.int 1)) .nil))) .nil)))
 (.cons (.ite (.cmp (.var 5) .LtE (.var 6))
 (.cons (.expr (.append (.var 2) (.tup (.cons (.var 5) (.cons (.var 6) .nil)))))
 .nil)
 .nil)
 (.cons (.ite (.cmp (.sub (.sub (.var 0) (.var 3)) (.int 1)) .Lt (.sub (.sub (.var 1) (.var 4)) (.int 1)))
 (.cons (.asg (.v 3) (.bin .Add (.var 3) (.int 1)))
 .nil)
 (.cons (.asg (.v 4) (.bin .Add (.var 4) (.int 1)))
 .nil))
 .nil)))
def QE:Ss :=
 (.cons (.swap [2,3,4] (.cons (.lst false .nil) (.cons (.int 0) (.cons (.int 0) .nil))))
 (.cons (.while G1 G2)
 (.cons (.freeze 2)
 (.cons (.ret (.blt .tuple (.cons (.var 2) .nil)))
 .nil))))
noncomputable def Th:List Str:=["d","e"]
noncomputable def Ti:List Str:=["d","e","found","i","j","low","high","len","max","min","tuple"]
noncomputable def IT:Ss :=
 (.cons (.asg (.t [1,2,3]) (.var 0))
 (.cons (.ite (.cmp (.var 2) .Eq (.str "<="))
 (.cons (.ret (.tup (.cons (.var 1) (.cons (.str ">=") (.cons (.bin .Add (.var 3) (.int 1)) .nil)))))
 .nil)
 .nil)
 (.cons (.ite (.cmp (.var 2) .Eq (.str ">="))
 (.cons (.ret (.tup (.cons (.var 1) (.cons (.str "<=") (.cons (.bin .Sub (.var 3) (.int 1)) .nil)))))
 .nil)
 .nil)
 (.cons (.ret (.ite (.cmp (.var 2) .Eq (.str "=")) (.tup (.cons (.var 1) (.cons (.str "!=") (.cons (.var 3) .nil)))) (.tup (.cons (.var 1) (.cons (.str "=") (.cons (.var 3) .nil))))))
 .nil))))
noncomputable def L8:List Str:=["literal"]
noncomputable def L9:List Str:=["literal","x","sign","k"]
noncomputable def Le:Ss :=
 (.cons (.swap [2,3] (.cons (.sub (.var 0) (.int 1)) (.cons (.sub (.var 0) (.int 2)) .nil)))
 (.cons (.ite (.cmp (.var 2) .Eq (.str "<="))
 (.cons (.ret (.call "up_to" (.cons (.var 1) (.cons (.var 3) .nil))))
 .nil)
 .nil)
 (.cons (.ite (.cmp (.var 2) .Eq (.str ">="))
 (.cons (.ret (.call "from_on" (.cons (.var 1) (.cons (.var 3) .nil))))
 .nil)
 .nil)
 (.cons (.ret (.ite (.cmp (.var 2) .Eq (.str "=")) (.call "meet" (.cons (.var 1) (.cons (.tup (.cons (.tup (.cons (.var 3) (.cons (.var 3) .nil))) .nil)) .nil))) (.call "without" (.cons (.var 1) (.cons (.var 3) .nil)))))
 .nil))))
noncomputable def PE:List Str:=["literal","d"]
noncomputable def PG:List Str:=["literal","d","sign","k","up_to","from_on","meet","without"]
noncomputable def dT:Ss :=
 (.cons (.asg (.v 2) (.call "struck" (.cons (.var 0) (.cons (.var 1) .nil))))
 (.cons (.ite (.cmp (.var 2) .Eq (.var 1))
 (.cons (.ret (.int 1))
 .nil)
 .nil)
 (.cons (.ret (.ite (.cmp (.var 2) .Eq (.tup .nil)) (.neg (.int 1)) (.int 0)))
 .nil)))
noncomputable def dU:List Str:=["literal","d"]
noncomputable def dW:List Str:=["literal","d","kept","struck"]
noncomputable def F7:Ss :=
 (.cons (.setattr (.var 0) "domains" (.lst false .nil))
 (.cons (.setattr (.var 0) "firsts" (.lst false .nil))
 (.cons (.setattr (.var 0) "trail" (.lst false .nil))
 (.cons (.setattr (.var 0) "marks" (.lst false .nil))
 (.cons (.setattr (.var 0) "news" .edict)
 (.cons (.setattr (.var 0) "speaker" (.neg (.int 1)))
 (.cons (.setattr (.var 0) "is_failed" (.bool false))
 (.cons (.setattr (.var 0) "clash" (.tup .nil))
 .nil))))))))
noncomputable def F8:List Str:=["self"]
noncomputable def F9:List Str:=["self"]
noncomputable def Dq:Ss :=
 (.cons (.expr (.append (.attr (.var 0) "domains") (.var 1)))
 (.cons (.expr (.append (.attr (.var 0) "firsts") (.var 1)))
 (.cons (.ite (.cmp (.var 1) .Eq (.tup .nil))
 (.cons (.expr (.meth (.var 0) "fail" (.cons (.tup .nil) .nil)))
 .nil)
 .nil)
 (.cons (.ret (.bin .Sub (.blt .len (.cons (.attr (.var 0) "domains") .nil)) (.int 1)))
 .nil))))
noncomputable def GQ:List Str:=["self","domain"]
noncomputable def GR:List Str:=["self","domain","len"]
noncomputable def GA:Ss :=
 (.cons (.ret (.blt .len (.cons (.attr (.var 0) "domains") .nil)))
 .nil)
noncomputable def JU:List Str:=["self"]
noncomputable def JV:List Str:=["self","len"]
noncomputable def G3:Ss :=
 (.cons (.ret (.sub (.attr (.var 0) "domains") (.var 1)))
 .nil)
noncomputable def KW:List Str:=["self","x"]
noncomputable def KY:List Str:=["self","x"]
noncomputable def Dr:Ss :=
 (.cons (.ret (.sub (.attr (.var 0) "firsts") (.var 1)))
 .nil)
noncomputable def GS:List Str:=["self","x"]
noncomputable def GT:List Str:=["self","x"]
noncomputable def G4:Ss :=
 (.cons (.ret (.call "has_domains" (.cons (.sub (.attr (.var 0) "domains") (.var 1)) (.cons (.var 2) .nil))))
 .nil)
noncomputable def KZ:List Str:=["self","x","v"]
noncomputable def Ka:List Str:=["self","x","v","has_domains"]
noncomputable def Da:Ss :=
 (.cons (.asg (.v 2) (.sub (.attr (.var 0) "domains") (.var 1)))
 (.cons (.ret (.and (.cmp (.blt .len (.cons (.var 2) .nil)) .Eq (.int 1)) (.cmp (.sub (.sub (.var 2) (.int 0)) (.int 0)) .Eq (.sub (.sub (.var 2) (.int 0)) (.int 1)))))
 .nil))
noncomputable def Fm:List Str:=["self","x"]
noncomputable def Fn:List Str:=["self","x","domain","len"]
noncomputable def FE:Ss :=
 (.cons (.ret (.sub (.sub (.sub (.attr (.var 0) "domains") (.var 1)) (.int 0)) (.int 0)))
 .nil)
noncomputable def IU:List Str:=["self","x"]
noncomputable def IV:List Str:=["self","x"]
noncomputable def FF:Ss :=
 (.cons (.asg (.v 4) (.sub (.var 1) (.int 0)))
 (.cons (.asg (.v 5) (.sub (.attr (.var 0) "domains") (.var 4)))
 (.cons (.asg (.v 6) (.call "struck" (.cons (.var 1) (.cons (.var 5) .nil))))
 (.cons (.ite (.cmp (.var 6) .Eq (.tup .nil))
 (.cons (.ret (.meth (.var 0) "fail" (.cons (.bin .Add (.ite (.cmp (.var 2) .Is .none) (.tup .nil) (.var 2)) (.tup (.cons (.call "negation" (.cons (.var 1) .nil)) .nil))) .nil)))
 .nil)
 .nil)
 (.cons (.ite (.cmp (.var 6) .Eq (.var 5))
 (.cons (.ret (.bool true))
 .nil)
 .nil)
 (.cons (.expr (.append (.attr (.var 0) "trail") (.tup (.cons (.var 4) (.cons (.var 5) (.cons (.var 1) (.cons (.var 2) (.cons (.var 3) .nil))))))))
 (.cons (.setitem (.attr (.var 0) "domains") (.var 4) (.var 6))
 (.cons (.setitem (.attr (.var 0) "news") (.var 4) (.bool true))
 (.cons (.ret (.bool true))
 .nil)))))))))
noncomputable def IW:List Str:=["self","literal","reasons","speaker"]
noncomputable def IX:List Str:=["self","literal","reasons","speaker","x","old","fresh","struck","negation"]
noncomputable def EL:Ss :=
 (.cons (.ret (.meth (.var 0) "enter" (.cons (.var 1) (.cons (.blt .tuple (.cons (.var 2) .nil)) (.cons (.attr (.var 0) "speaker") .nil)))))
 .nil)
noncomputable def HR:List Str:=["self","literal","reasons"]
noncomputable def HS:List Str:=["self","literal","reasons","tuple"]
noncomputable def EM:Ss :=
 (.cons (.ret (.meth (.var 0) "enter" (.cons (.var 1) (.cons .none (.cons (.neg (.int 1)) .nil)))))
 .nil)
noncomputable def HT:List Str:=["self","literal"]
noncomputable def HU:List Str:=["self","literal"]
noncomputable def GB:Ss :=
 (.cons (.setattr (.var 0) "is_failed" (.bool true))
 (.cons (.setattr (.var 0) "clash" (.blt .tuple (.cons (.var 1) .nil)))
 (.cons (.ret (.bool false))
 .nil)))
noncomputable def JW:List Str:=["self","reasons"]
noncomputable def JX:List Str:=["self","reasons","tuple"]
noncomputable def GC:Ss :=
 (.cons (.expr (.append (.attr (.var 0) "marks") (.blt .len (.cons (.attr (.var 0) "trail") .nil))))
 .nil)
noncomputable def JY:List Str:=["self"]
noncomputable def JZ:List Str:=["self","len"]
noncomputable def HV:X:=(.cmp (.blt .len (.cons (.attr (.var 0) "trail") .nil)) .Gt (.var 2))
noncomputable def HW:Ss :=
 (.cons (.asg (.v 3) (.pop (.attr (.var 0) "trail")))
 (.cons (.setitem (.attr (.var 0) "domains") (.sub (.var 3) (.int 0)) (.sub (.var 3) (.int 1)))
 .nil))
def G5:Ss :=
 (.cons (.ite (.cmp (.var 1) .Lt (.int 1))
 (.cons (.ret .none)
 .nil)
 .nil)
 (.cons (.asg (.v 2) (.sub (.attr (.var 0) "marks") (.bin .Sub (.blt .len (.cons (.attr (.var 0) "marks") .nil)) (.var 1))))
 (.cons (.setattr (.var 0) "marks" (.upto false (.attr (.var 0) "marks") (.bin .Sub (.blt .len (.cons (.attr (.var 0) "marks") .nil)) (.var 1))))
 (.cons (.while HV HW)
 (.cons (.setattr (.var 0) "news" .edict)
 (.cons (.setattr (.var 0) "is_failed" (.cmp (.tup .nil) .In (.attr (.var 0) "firsts")))
 (.cons (.setattr (.var 0) "clash" (.tup .nil))
 .nil)))))))
noncomputable def Kc:List Str:=["self","n"]
noncomputable def Kd:List Str:=["self","n","mark","entry","len"]
noncomputable def FG:Ss :=
 (.cons (.ret (.blt .len (.cons (.attr (.var 0) "marks") .nil)))
 .nil)
noncomputable def IY:List Str:=["self"]
noncomputable def IZ:List Str:=["self","len"]
noncomputable def CM:Ss :=
 (.cons (.setattr (.var 0) "number" (.neg (.int 1)))
 (.cons (.setattr (.var 0) "scope" (.blt .tuple (.cons (.var 1) .nil)))
 (.cons (.setattr (.var 0) "strength" (.var 2))
 .nil)))
noncomputable def CN:List Str:=["self","scope","strength"]
noncomputable def CO:List Str:=["self","scope","strength","tuple"]
noncomputable def D7:Xs:=(.cons (.var 1) (.cons (.str "weak") .nil))
noncomputable def HX:Ss :=
 .nil
noncomputable def HY:List Str:=["self","places"]
noncomputable def HZ:List Str:=["self","places","__class__","super"]
noncomputable def GU:Ss :=
 (.cons (.ite (.or (.not (.meth (.var 1) "strike" (.cons (.tup (.cons (.var 4) (.cons (.str ">=") (.cons (.int 1) .nil)))) (.cons (.tup .nil) .nil)))) (.not (.meth (.var 1) "strike" (.cons (.tup (.cons (.var 4) (.cons (.str "<=") (.cons (.var 2) .nil)))) (.cons (.tup .nil) .nil)))))
 (.cons (.ret (.bool false))
 .nil)
 .nil)
 .nil)
noncomputable def GV:X:=(.cmp (.var 3) .NotEq (.blt .len (.cons (.attr (.var 1) "trail") .nil)))
noncomputable def GW:Ss :=
 (.cons (.asg (.v 3) (.blt .len (.cons (.attr (.var 1) "trail") .nil)))
 (.cons (.ite (.or (.not (.meth (.var 0) "part" (.cons (.var 1) .nil))) (.not (.meth (.var 0) "open_rings" (.cons (.var 1) .nil))))
 (.cons (.ret (.bool false))
 .nil)
 .nil)
 .nil))
def C0:Ss :=
 (.cons (.ite (.attr (.var 1) "is_failed")
 (.cons (.ret (.bool false))
 .nil)
 .nil)
 (.cons (.swap [2,3] (.cons (.blt .len (.cons (.attr (.var 0) "scope") .nil)) (.cons (.neg (.int 1)) .nil)))
 (.cons (.for (.v 4) (.of (.attr (.var 0) "scope")) GU)
 (.cons (.while GV GW)
 (.cons (.ret (.meth (.var 0) "reach" (.cons (.var 1) .nil)))
 .nil)))))
noncomputable def D8:List Str:=["self","store"]
noncomputable def D9:List Str:=["self","store","many","standing","x","len"]
noncomputable def FH:Ss :=
 (.cons (.ite (.and (.cmp (.var 5) .NotEq (.var 2)) (.and (.meth (.var 1) "has" (.cons (.var 6) (.cons (.var 4) .nil))) (.not (.meth (.var 1) "strike" (.cons (.tup (.cons (.var 6) (.cons (.str "!=") (.cons (.var 4) .nil)))) (.cons (.tup (.cons (.tup (.cons (.var 3) (.cons (.str "=") (.cons (.var 4) .nil)))) .nil)) .nil))))))
 (.cons (.ret (.bool false))
 .nil)
 .nil)
 .nil)
def FI:Ss :=
 (.cons (.ite (.meth (.var 1) "is_fixed" (.cons (.var 3) .nil))
 (.cons (.asg (.v 4) (.meth (.var 1) "value" (.cons (.var 3) .nil)))
 (.cons (.for (.t [5,6]) (.enum (.attr (.var 0) "scope")) FH)
 .nil))
 .nil)
 .nil)
def EN:Ss :=
 (.cons (.for (.t [2,3]) (.enum (.attr (.var 0) "scope")) FI)
 (.cons (.ret (.bool true))
 .nil))
noncomputable def Ha:List Str:=["self","store"]
noncomputable def Hb:List Str:=["self","store","i","x","v","j","y","enumerate"]
noncomputable def DE:X:=(.and (.cmp (.blt .len (.cons (.var 5) .nil)) .Lt (.var 2)) (.meth (.var 1) "is_fixed" (.cons (.sub (.attr (.var 0) "scope") (.bin .Sub (.var 4) (.int 1))) .nil)))
noncomputable def DF:Ss :=
 (.cons (.asg (.v 6) (.sub (.attr (.var 0) "scope") (.bin .Sub (.var 4) (.int 1))))
 (.cons (.asg (.v 4) (.meth (.var 1) "value" (.cons (.var 6) .nil)))
 (.cons (.expr (.append (.var 5) (.tup (.cons (.var 6) (.cons (.str "=") (.cons (.var 4) .nil))))))
 (.cons (.ite (.cmp (.var 4) .Eq (.var 3))
 (.cons .brk
 .nil)
 .nil)
 .nil))))
def GD:Ss :=
 (.cons (.swap [4,5] (.cons (.var 3) (.cons (.lst false .nil) .nil)))
 (.cons (.while DE DF)
 (.cons (.freeze 5)
 (.cons (.ite (.and (.cmp (.var 4) .Eq (.var 3)) (.cmp2 (.int 0) .Lt (.blt .len (.cons (.var 5) .nil)) .Lt (.var 2)))
 (.cons (.ret (.meth (.var 1) "fail" (.cons (.blt .tuple (.cons (.var 5) .nil)) .nil)))
 .nil)
 .nil)
 (.cons (.ite (.and (.cmp (.bin .Add (.blt .len (.cons (.var 5) .nil)) (.int 1)) .Lt (.var 2)) (.meth (.var 1) "has" (.cons (.sub (.attr (.var 0) "scope") (.bin .Sub (.var 4) (.int 1))) (.cons (.var 3) .nil))))
 (.cons (.ite (.not (.meth (.var 1) "strike" (.cons (.tup (.cons (.sub (.attr (.var 0) "scope") (.bin .Sub (.var 4) (.int 1))) (.cons (.str "!=") (.cons (.var 3) .nil)))) (.cons (.blt .tuple (.cons (.var 5) .nil)) .nil))))
 (.cons (.ret (.bool false))
 .nil)
 .nil)
 .nil)
 .nil)
 .nil)))))
def Cs:Ss :=
 (.cons (.asg (.v 2) (.blt .len (.cons (.attr (.var 0) "scope") .nil)))
 (.cons (.for (.v 3) (.range2 (.int 1) (.bin .Add (.var 2) (.int 1))) GD)
 (.cons (.ret (.bool true))
 .nil)))
noncomputable def Dj:List Str:=["self","store"]
noncomputable def Dk:List Str:=["self","store","many","begin","end","reasons","x","len","range","tuple"]
noncomputable def EX:X:=(.and (.cmp (.var 4) .Lt (.blt .len (.cons (.var 2) .nil))) (.cmp (.var 3) .NotEq (.lst true .nil)))
noncomputable def EY:Ss :=
 (.cons (.asg (.v 5) (.sub (.attr (.var 0) "scope") (.bin .Sub (.sub (.var 2) (.var 4)) (.int 1))))
 (.cons (.expr (.extend (.var 2) (.comp true [none,none,some 2,some 1,some 5] (.v 1) (.of (.var 3)) (.and (.cmp (.var 1) .NotIn (.var 2)) (.meth (.var 3) "has" (.cons (.var 4) (.cons (.var 1) .nil)))) (.var 1))))
 (.cons (.asg (.v 4) (.bin .Add (.var 4) (.int 1)))
 .nil)))
def Ds:Ss :=
 (.cons (.asg (.t [2,3,4]) (.tup (.cons (.lst false (.cons (.int 1) .nil)) (.cons (.listRange (.int 1) (.bin .Add (.blt .len (.cons (.attr (.var 0) "scope") .nil)) (.int 1))) (.cons (.int 0) .nil)))))
 (.cons (.while EX EY)
 (.cons (.freeze 2)
 (.cons (.asg (.v 6) (.comp true [none,none,some 2] (.v 1) (.of (.var 3)) (.cmp (.var 1) .NotIn (.var 2)) (.var 1)))
 (.cons (.ite (.cmp (.var 6) .Eq (.lst true .nil))
 (.cons (.ret (.bool true))
 .nil)
 .nil)
 (.cons (.ret (.meth (.var 1) "fail" (.cons (.blt .tuple (.cons (.comp2 [none,none,none,some 6,some 0] 1 2 (.of (.var 2)) (.of (.var 3)) (.tup (.cons (.sub (.attr (.var 4) "scope") (.bin .Sub (.var 1) (.int 1))) (.cons (.str "!=") (.cons (.var 2) .nil))))) .nil)) .nil)))
 .nil))))))
noncomputable def GX:List Str:=["self","store"]
noncomputable def GY:List Str:=["self","store","found","places","spot","x","outside","list","range","len","tuple"]
noncomputable def EZ:Ss :=
 (.cons (.ite (.or (.cmp (.var 2) .In (.var 3)) (.not (.cmp2 (.int 1) .LtE (.var 2) .LtE (.blt .len (.cons (.var 1) .nil)))))
 (.cons (.freeze 3)
 (.cons (.ret (.bool false))
 .nil))
 .nil)
 (.cons (.expr (.append (.var 3) (.var 2)))
 (.cons (.asg (.v 2) (.sub (.var 1) (.bin .Sub (.var 2) (.int 1))))
 .nil)))
def Dt:Ss :=
 (.cons (.swap [2,3] (.cons (.int 1) (.cons (.lst false .nil) .nil)))
 (.cons (.for (.v 4) (.of (.var 1)) EZ)
 (.cons (.freeze 3)
 (.cons (.ret (.cmp (.var 2) .Eq (.int 1)))
 .nil))))
noncomputable def GZ:List Str:=["self","values"]
noncomputable def Ga:List Str:=["self","values","here","met","lap","len"]
noncomputable def EO:Ss :=
 (.cons (.ret (.tup (.cons (.str "circuit") (.cons (.attr (.var 0) "scope") .nil))))
 .nil)
noncomputable def Hc:List Str:=["self"]
noncomputable def Hd:List Str:=["self"]
noncomputable def EA:Xs:=(.cons (.bin .Add (.blt .tuple (.cons (.var 1) .nil)) (.blt .tuple (.cons (.var 2) .nil))) (.cons (.str "weak") .nil))
noncomputable def He:Ss :=
 (.cons (.setattr (.var 0) "fs" (.blt .tuple (.cons (.var 1) .nil)))
 (.cons (.setattr (.var 0) "gs" (.blt .tuple (.cons (.var 2) .nil)))
 .nil))
noncomputable def Hf:List Str:=["self","fs","gs"]
noncomputable def Hg:List Str:=["self","fs","gs","__class__","super","tuple"]
noncomputable def DU:Ss :=
 (.cons (.ite (.or (.not (.meth (.var 1) "strike" (.cons (.tup (.cons (.var 5) (.cons (.str ">=") (.cons (.int 1) .nil)))) (.cons (.tup .nil) .nil)))) (.not (.meth (.var 1) "strike" (.cons (.tup (.cons (.var 5) (.cons (.str "<=") (.cons (.var 4) .nil)))) (.cons (.tup .nil) .nil)))))
 (.cons (.ret (.bool false))
 .nil)
 .nil)
 .nil)
def Gb:Ss :=
 (.cons (.for (.v 5) (.of (.var 3)) DU)
 .nil)
noncomputable def Gc:X:=(.cmp (.var 2) .NotEq (.blt .len (.cons (.attr (.var 1) "trail") .nil)))
noncomputable def Gd:Ss :=
 (.cons (.asg (.v 2) (.blt .len (.cons (.attr (.var 1) "trail") .nil)))
 (.cons (.ite (.or (.not (.meth (.var 0) "turn" (.cons (.var 1) (.cons (.attr (.var 0) "fs") (.cons (.attr (.var 0) "gs") .nil))))) (.not (.meth (.var 0) "turn" (.cons (.var 1) (.cons (.attr (.var 0) "gs") (.cons (.attr (.var 0) "fs") .nil))))))
 (.cons (.ret (.bool false))
 .nil)
 .nil)
 .nil))
def C1:Ss :=
 (.cons (.ite (.attr (.var 1) "is_failed")
 (.cons (.ret (.bool false))
 .nil)
 .nil)
 (.cons (.asg (.v 2) (.neg (.int 1)))
 (.cons (.for (.t [3,4]) (.of (.tup (.cons (.tup (.cons (.attr (.var 0) "fs") (.cons (.blt .len (.cons (.attr (.var 0) "gs") .nil)) .nil))) (.cons (.tup (.cons (.attr (.var 0) "gs") (.cons (.blt .len (.cons (.attr (.var 0) "fs") .nil)) .nil))) .nil)))) Gb)
 (.cons (.while Gc Gd)
 (.cons (.ret (.bool true))
 .nil)))))
noncomputable def EB:List Str:=["self","store"]
noncomputable def EC:List Str:=["self","store","standing","row","many","x","len"]
noncomputable def FJ:Ss :=
 (.cons (.ite (.and (.meth (.var 1) "has" (.cons (.var 5) (.cons (.bin .Add (.var 6) (.int 1)) .nil))) (.not (.meth (.var 1) "has" (.cons (.var 7) (.cons (.bin .Add (.var 4) (.int 1)) .nil)))))
 (.cons (.ite (.not (.meth (.var 1) "strike" (.cons (.tup (.cons (.var 5) (.cons (.str "!=") (.cons (.bin .Add (.var 6) (.int 1)) .nil)))) (.cons (.tup (.cons (.tup (.cons (.var 7) (.cons (.str "!=") (.cons (.bin .Add (.var 4) (.int 1)) .nil)))) .nil)) .nil))))
 (.cons (.ret (.bool false))
 .nil)
 .nil)
 .nil)
 .nil)
 .nil)
def FK:Ss :=
 (.cons (.for (.t [6,7]) (.enum (.var 3)) FJ)
 (.cons (.ite (.meth (.var 1) "is_fixed" (.cons (.var 5) .nil))
 (.cons (.asg (.v 8) (.meth (.var 1) "value" (.cons (.var 5) .nil)))
 (.cons (.ite (.not (.meth (.var 1) "strike" (.cons (.tup (.cons (.sub (.var 3) (.bin .Sub (.var 8) (.int 1))) (.cons (.str "=") (.cons (.bin .Add (.var 4) (.int 1)) .nil)))) (.cons (.tup (.cons (.tup (.cons (.var 5) (.cons (.str "=") (.cons (.var 8) .nil)))) .nil)) .nil))))
 (.cons (.ret (.bool false))
 .nil)
 .nil)
 .nil))
 .nil)
 .nil))
def EP:Ss :=
 (.cons (.for (.t [4,5]) (.enum (.var 2)) FK)
 (.cons (.ret (.bool true))
 .nil))
noncomputable def Hh:List Str:=["self","store","row","back"]
noncomputable def Hi:List Str:=["self","store","row","back","i","x","j","y","v","enumerate"]
def Du:Ss :=
 (.cons (.asg (.v 2) (.blt .len (.cons (.attr (.var 0) "fs") .nil)))
 (.cons (.asg (.v 3) (.comp true [none,none,none] (.t [1,2]) (.enum (.upto true (.var 1) (.var 2))) (.bool true) (.tup (.cons (.bin .Add (.var 1) (.int 1)) (.cons (.var 2) .nil)))))
 (.cons (.asg (.v 4) (.comp true [none,none,none] (.t [1,2]) (.enum (.from (.var 1) (.var 2))) (.bool true) (.tup (.cons (.var 2) (.cons (.bin .Add (.var 1) (.int 1)) .nil)))))
 (.cons (.ret (.cmp (.blt .sortedP (.cons (.var 3) .nil)) .Eq (.blt .sortedP (.cons (.var 4) .nil))))
 .nil))))
noncomputable def Ge:List Str:=["self","values"]
noncomputable def Gf:List Str:=["self","values","many","ways","ways_back","len","enumerate","sorted"]
noncomputable def EQ:Ss :=
 (.cons (.ret (.tup (.cons (.str "inverse") (.cons (.attr (.var 0) "fs") (.cons (.attr (.var 0) "gs") .nil)))))
 .nil)
noncomputable def Hj:List Str:=["self"]
noncomputable def Hk:List Str:=["self"]
def G6:Ss :=
 (.cons (.ret (.sdict "cells" "spot" (.comp true [none,none,none] (.v 1) (.of (.upto true (.var 0) (.int 40))) (.bool true) (.blt .abs (.cons (.var 1) .nil))) (.int 0)))
 .nil)
noncomputable def Ke:List Str:=["script"]
noncomputable def Kg:List Str:=["script"]
noncomputable def G7:Ss :=
 (.cons (.asg (.v 2) (.sub (.var 0) (.str "spot")))
 (.cons (.setitem (.var 0) (.str "spot") (.bin .Add (.var 2) (.int 1)))
 (.cons (.ite (.cmp (.var 2) .Lt (.blt .len (.cons (.sub (.var 0) (.str "cells")) .nil)))
 (.cons (.ret (.bin .Mod (.sub (.sub (.var 0) (.str "cells")) (.var 2)) (.var 1)))
 .nil)
 .nil)
 (.cons (.ret (.bin .Mod (.bin .Mod (.bin .Add (.bin .Add (.bin .Add (.bin .Mult (.bin .Mult (.int 7) (.var 2)) (.var 2)) (.bin .Mult (.int 5) (.var 2))) (.bin .Mult (.int 3) (.blt .len (.cons (.sub (.var 0) (.str "cells")) .nil)))) (.int 6)) (.int 97)) (.var 1)))
 .nil))))
noncomputable def Kh:List Str:=["tape","many"]
noncomputable def Ki:List Str:=["tape","many","spot","len"]
noncomputable def Hl:Ss :=
 (.cons (.expr (.extend (.var 3) (.comp true [none,none,some 4] (.v 1) (.range2 (.int 1) (.bin .Add (.var 0) (.int 1))) (.cmp (.var 1) .NotIn (.var 2)) (.bin .Add (.var 2) (.tup (.cons (.var 1) .nil))))))
 .nil)
def Hm:Ss :=
 (.cons (.asg (.v 3) (.lst false .nil))
 (.cons (.for (.v 4) (.of (.var 1)) Hl)
 (.cons (.freeze 3)
 (.cons (.asg (.v 1) (.var 3))
 .nil))))
def G8:Ss :=
 (.cons (.asg (.v 1) (.lst true (.cons (.tup .nil) .nil)))
 (.cons (.for (.v 2) (.range1 (.var 0)) Hm)
 (.cons (.ret (.var 1))
 .nil)))
noncomputable def Kj:List Str:=["many"]
noncomputable def Kk:List Str:=["many","found","lap","late","row","range"]
noncomputable def FM:X:=(.and (.cmp (.sub (.var 0) (.bin .Sub (.var 1) (.int 1))) .NotEq (.int 1)) (.cmp (.var 2) .LtE (.blt .len (.cons (.var 0) .nil))))
noncomputable def FN:Ss :=
 (.cons (.swap [1,2] (.cons (.sub (.var 0) (.bin .Sub (.var 1) (.int 1))) (.cons (.bin .Add (.var 2) (.int 1)) .nil)))
 .nil)
def ER:Ss :=
 (.cons (.asg (.t [1,2]) (.tup (.cons (.int 1) (.cons (.int 1) .nil))))
 (.cons (.while FM FN)
 (.cons (.ret (.cmp (.var 2) .Eq (.blt .len (.cons (.var 0) .nil))))
 .nil)))
noncomputable def Hn:List Str:=["row"]
noncomputable def Ho:List Str:=["row","here","met","len"]
noncomputable def FO:Ss :=
 (.cons (.asg (.v 4) (.blt .tuple (.cons (.comp true [none,none,some 2] (.v 1) (.range2 (.int 1) (.bin .Add (.sub (.var 1) (.int 0)) (.int 1))) (.bool true) (.bin .Add (.index (.var 2) (.var 1)) (.int 1))) .nil)))
 (.cons (.expr (.append (.var 3) (.bin .Add (.var 2) (.var 4))))
 .nil))
def ES:Ss :=
 (.cons (.ite (.cmp (.var 0) .Eq (.int 0))
 (.cons (.ret (.comp true [none,none,none] (.v 1) (.of (.call "_law_rows" (.cons (.sub (.var 1) (.int 0)) .nil))) (.call "_law_is_ring" (.cons (.var 1) .nil)) (.var 1)))
 .nil)
 .nil)
 (.cons (.ite (.cmp (.sub (.var 1) (.int 0)) .NotEq (.sub (.var 1) (.int 1)))
 (.cons (.ret (.lst true .nil))
 .nil)
 .nil)
 (.cons (.asg (.v 3) (.lst false .nil))
 (.cons (.for (.v 2) (.of (.call "_law_rows" (.cons (.sub (.var 1) (.int 0)) .nil))) FO)
 (.cons (.freeze 3)
 (.cons (.ret (.var 3))
 .nil))))))
noncomputable def Hp:List Str:=["way","sides"]
noncomputable def Hq:List Str:=["way","sides","row","found","back","_law_rows","tuple","range"]
noncomputable def G9:Ss :=
 (.cons (.asg (.t [2,3,4]) (.var 0))
 (.cons (.ret (.ite (.cmp (.var 3) .Eq (.str "<=")) (.cmp (.var 1) .LtE (.var 4)) (.ite (.cmp (.var 3) .Eq (.str ">=")) (.cmp (.var 1) .GtE (.var 4)) (.ite (.cmp (.var 3) .Eq (.str "=")) (.cmp (.var 1) .Eq (.var 4)) (.cmp (.var 1) .NotEq (.var 4))))))
 .nil))
noncomputable def Kl:List Str:=["literal","v"]
noncomputable def Km:List Str:=["literal","v","x","sign","k"]
noncomputable def Dv:Ss :=
 (.cons (.ite (.and (.cmp (.var 4) .Eq (.sub (.var 3) (.int 0))) (.not (.call "_law_says" (.cons (.var 3) (.cons (.var 5) .nil)))))
 (.cons (.ret (.bool false))
 .nil)
 .nil)
 .nil)
def Gg:Ss :=
 (.cons (.forZip 4 5 (.var 1) (.var 0) Dv)
 .nil)
def GE:Ss :=
 (.cons (.for (.v 3) (.of (.var 2)) Gg)
 (.cons (.ret (.bool true))
 .nil))
noncomputable def Ja:List Str:=["answer","scope","literals"]
noncomputable def Jb:List Str:=["answer","scope","literals","literal","x","v","zip","_law_says"]
noncomputable def FP:Ss :=
 (.cons (.ret (.cmp (.comp true [none,none,some 0,some 2,some 1] (.v 1) (.range1 (.blt .len (.cons (.var 1) .nil))) (.cmp (.sub (.var 2) (.var 1)) .NotIn (.sub (.var 3) (.sub (.var 4) (.var 1)))) (.var 1)) .Eq (.lst true .nil)))
 .nil)
noncomputable def Ia:List Str:=["answer","scope","lists"]
noncomputable def Ib:List Str:=["answer","scope","lists","range","len"]
noncomputable def Hr:Ss :=
 (.cons (.ite (.cmp (.comp true [none,none,none,some 2] (.v 1) (.of (.sub (.var 0) (.sub (.var 2) (.int 0)))) (.not (.call "_law_says" (.cons (.var 3) (.cons (.var 1) .nil)))) (.var 1)) .NotEq (.lst true .nil))
 (.cons (.ret (.bool false))
 .nil)
 .nil)
 .nil)
def HA:Ss :=
 (.cons (.for (.v 2) (.of (.var 1)) Hr)
 (.cons (.ret (.bool true))
 .nil))
noncomputable def Kn:List Str:=["lists","literals"]
noncomputable def Ko:List Str:=["lists","literals","literal"]
noncomputable def DG:Ss :=
 (.cons (.ite (.and (.call "_law_keeps" (.cons (.var 10) (.cons (.var 1) (.cons (.var 9) .nil)))) (.not (.call "_law_keeps" (.cons (.var 10) (.cons (.var 1) (.cons (.lst true (.cons (.var 8) .nil)) .nil))))))
 (.cons (.ret (.bool false))
 .nil)
 .nil)
 .nil)
def DH:Ss :=
 (.cons (.asg (.t [6,7,8,9]) (.tup (.cons (.sub (.var 5) (.int 0)) (.cons (.sub (.var 5) (.int 1)) (.cons (.sub (.var 5) (.int 2)) (.cons (.sub (.var 5) (.int 3)) .nil))))))
 (.cons (.ite (.or (.cmp (.var 9) .Is .none) (.or (.cmp (.call "values" (.cons (.var 7) .nil)) .NotEq (.sub (.var 3) (.var 6))) (.cmp (.sub (.var 8) (.int 0)) .NotEq (.var 6))))
 (.cons (.ret (.bool false))
 .nil)
 .nil)
 (.cons (.ite (.not (.call "_law_hold" (.cons (.var 3) (.cons (.var 9) .nil))))
 (.cons (.ret (.bool false))
 .nil)
 .nil)
 (.cons (.for (.v 10) (.of (.var 2)) DG)
 (.cons (.setitem (.var 3) (.var 6) (.comp true [none,none,none,some 8] (.v 1) (.of (.sub (.var 3) (.var 6))) (.call "_law_says" (.cons (.var 3) (.cons (.var 1) .nil))) (.var 1)))
 .nil)))))
def Ct:Ss :=
 (.cons (.for (.v 5) (.of (.from (.attr (.var 0) "trail") (.var 4))) DH)
 (.cons (.ret (.cmp (.comp true [none,none,none,some 3,some 0] (.v 1) (.range1 (.meth (.var 0) "size" .nil)) (.cmp (.call "values" (.cons (.meth (.var 4) "dom" (.cons (.var 1) .nil)) .nil)) .NotEq (.sub (.var 3) (.var 1))) (.var 1)) .Eq (.lst true .nil)))
 .nil))
noncomputable def Dl:List Str:=["store","scope","answers","lists","begin"]
noncomputable def Dm:List Str:=["store","scope","answers","lists","begin","entry","x","old","literal","reasons","answer","values","_law_hold","_law_keeps","range"]
noncomputable def DA:Ss :=
 (.cons (.asg (.t [4,5]) (.tup (.cons (.comp false [none,none,none,some 0] (.v 1) (.range1 (.meth (.var 0) "size" .nil)) (.bool true) (.call "values" (.cons (.meth (.var 3) "dom" (.cons (.var 1) .nil)) .nil))) (.cons (.blt .len (.cons (.attr (.var 0) "trail") .nil)) .nil))))
 (.cons (.asg (.v 6) (.comp true [none,none,none,some 4,some 2] (.v 1) (.of (.var 3)) (.call "_law_within" (.cons (.var 1) (.cons (.var 4) (.cons (.var 3) .nil)))) (.var 1)))
 (.cons (.asg (.v 7) (.cmp (.comp true [none,none,none,some 4] (.v 1) (.of (.var 2)) (.cmp (.blt .len (.cons (.sub (.var 3) (.var 1)) .nil)) .NotEq (.int 1)) (.var 1)) .Eq (.lst true .nil)))
 (.cons (.asg (.v 8) (.meth (.var 1) "propagate" (.cons (.var 0) .nil)))
 (.cons (.ite (.or (.and (.cmp (.var 8) .IsNot (.bool true)) (.cmp (.var 8) .IsNot (.bool false))) (.cmp (.var 8) .Is (.attr (.var 0) "is_failed")))
 (.cons (.ret (.bool false))
 .nil)
 .nil)
 (.cons (.ite (.and (.var 7) (.cmp (.var 8) .IsNot (.cmp (.var 6) .NotEq (.lst true .nil))))
 (.cons (.ret (.bool false))
 .nil)
 .nil)
 (.cons (.ite (.not (.call "_law_entries_right" (.cons (.var 0) (.cons (.var 2) (.cons (.var 3) (.cons (.var 4) (.cons (.var 5) .nil)))))))
 (.cons (.ret (.bool false))
 .nil)
 .nil)
 (.cons (.freeze 4)
 (.cons (.ite (.cmp (.var 8) .Is (.bool false))
 (.cons (.asg (.v 9) (.attr (.var 0) "clash"))
 (.cons (.ite (.or (.cmp (.var 6) .NotEq (.lst true .nil)) (.not (.call "_law_hold" (.cons (.var 4) (.cons (.var 9) .nil)))))
 (.cons (.ret (.bool false))
 .nil)
 .nil)
 (.cons (.ret (.cmp (.comp true [none,none,none,some 9,some 2] (.v 1) (.of (.var 3)) (.call "_law_keeps" (.cons (.var 1) (.cons (.var 4) (.cons (.var 3) .nil)))) (.var 1)) .Eq (.lst true .nil)))
 .nil)))
 .nil)
 (.cons (.ite (.cmp (.comp true [none,none,none,some 4,some 2] (.v 1) (.of (.var 6)) (.not (.call "_law_within" (.cons (.var 1) (.cons (.var 4) (.cons (.var 3) .nil))))) (.var 1)) .NotEq (.lst true .nil))
 (.cons (.ret (.bool false))
 .nil)
 .nil)
 (.cons (.asg (.v 10) (.comp true [none,none,none,some 4,some 2] (.v 1) (.of (.var 3)) (.call "_law_within" (.cons (.var 1) (.cons (.var 4) (.cons (.var 3) .nil)))) (.var 1)))
 (.cons (.ite (.and (.cmp (.var 10) .Eq (.lst true .nil)) (.cmp (.comp true [none,none,none,some 4] (.v 1) (.of (.var 2)) (.cmp (.blt .len (.cons (.sub (.var 3) (.var 1)) .nil)) .NotEq (.int 1)) (.var 1)) .Eq (.lst true .nil)))
 (.cons (.ret (.bool false))
 .nil)
 .nil)
 (.cons (.asg (.v 11) (.blt .len (.cons (.attr (.var 0) "trail") .nil)))
 (.cons (.ret (.and (.cmp (.meth (.var 1) "propagate" (.cons (.var 0) .nil)) .Is (.bool true)) (.cmp (.blt .len (.cons (.attr (.var 0) "trail") .nil)) .Eq (.var 11))))
 .nil))))))))))))))
noncomputable def Eb:List Str:=["store","one","scope","answers"]
noncomputable def Ec:List Str:=["store","one","scope","answers","lists","begin","able","is_fixed","stands","clash","left","here","range","len","_law_entries_right","_law_hold"]
noncomputable def CT:Ss :=
 (.cons (.asg (.v 8) (.bin .Add (.int 1) (.call "_law_draw" (.cons (.var 0) (.cons (.bin .Sub (.bin .Pow (.int 2) (.bin .Add (.var 5) (.int 1))) (.int 1)) .nil)))))
 (.cons (.ite (.and (.cmp (.var 7) .Gt (.int 0)) (.cmp (.call "_law_draw" (.cons (.var 0) (.cons (.int 9) .nil))) .Eq (.int 8)))
 (.cons (.expr (.append (.var 6) (.sub (.var 6) (.int 0))))
 .nil)
 (.cons (.expr (.append (.var 6) (.meth (.var 2) "new_var" (.cons (.call "from_values" (.cons (.comp true [none,none,some 8] (.v 1) (.range1 (.bin .Add (.var 5) (.int 1))) (.cmp (.bin .Mod (.bin .FloorDiv (.var 2) (.bin .Pow (.int 2) (.var 1))) (.int 2)) .Eq (.int 1)) (.var 1)) .nil)) .nil))))
 .nil))
 .nil))
noncomputable def ET:Ss :=
 (.cons (.asg (.v 13) (.comp true [none,none,some 12,some 6] (.v 1) (.range1 (.blt .len (.cons (.var 6) .nil))) (.cmp (.sub (.var 2) (.var 1)) .NotEq (.sub (.var 2) (.index (.var 3) (.sub (.var 3) (.var 1))))) (.var 1)))
 (.cons (.ite (.and (.cmp (.var 13) .Eq (.lst true .nil)) (.call "_law_within" (.cons (.var 12) (.cons (.var 6) (.cons (.var 10) .nil)))))
 (.cons (.expr (.append (.var 11) (.var 12)))
 .nil)
 .nil)
 .nil))
def Ch:Ss :=
 (.cons (.asg (.t [1,2]) (.tup (.cons (.call "_law_draw" (.cons (.var 0) (.cons (.int 2) .nil))) (.cons (.call "Store" .nil) .nil))))
 (.cons (.ite (.cmp (.var 1) .Eq (.int 0))
 (.cons (.asg (.v 3) (.tup (.cons (.bin .Add (.int 2) (.call "_law_draw" (.cons (.var 0) (.cons (.int 3) .nil)))) .nil)))
 .nil)
 (.cons (.asg (.v 4) (.bin .Add (.int 1) (.call "_law_draw" (.cons (.var 0) (.cons (.int 3) .nil)))))
 (.cons (.asg (.v 3) (.tup (.cons (.var 4) (.cons (.ite (.cmp (.call "_law_draw" (.cons (.var 0) (.cons (.int 7) .nil))) .Gt (.int 0)) (.var 4) (.bin .Sub (.int 4) (.var 4))) .nil))))
 .nil)))
 (.cons (.asg (.t [5,6]) (.tup (.cons (.bin .Add (.blt .maxT (.cons (.var 3) .nil)) (.int 1)) (.cons (.lst false .nil) .nil))))
 (.cons (.for (.v 7) (.range1 (.blt .sumT (.cons (.var 3) .nil))) CT)
 (.cons (.asg (.v 9) (.ite (.cmp (.var 1) .Eq (.int 0)) (.call "Circuit" (.cons (.var 6) .nil)) (.call "Inverse" (.cons (.upto true (.var 6) (.sub (.var 3) (.int 0))) (.cons (.from (.var 6) (.sub (.var 3) (.int 0))) .nil)))))
 (.cons (.asg (.v 10) (.comp true [none,none,none,some 2] (.v 1) (.range1 (.meth (.var 2) "size" .nil)) (.bool true) (.call "values" (.cons (.meth (.var 3) "dom" (.cons (.var 1) .nil)) .nil))))
 (.cons (.asg (.v 11) (.lst false .nil))
 (.cons (.for (.v 12) (.of (.call "_law_answers" (.cons (.var 1) (.cons (.var 3) .nil)))) ET)
 (.cons (.freeze 6)
 (.cons (.freeze 11)
 (.cons (.ret (.tup (.cons (.var 1) (.cons (.var 3) (.cons (.var 2) (.cons (.var 9) (.cons (.var 6) (.cons (.var 11) .nil))))))))
 .nil)))))))))))
noncomputable def Kp:List Str:=["tape"]
noncomputable def Kq:List Str:=["tape","way","store","sides","many","top","scope","k","mask","one","lists","answers","answer","doubled","_law_draw","Store","max","range","sum","from_values","Circuit","Inverse","_law_answers","len","_law_within"]
def Ci:Ss :=
 (.cons (.asg (.v 5) (.ite (.cmp (.var 1) .Eq (.int 0)) (.tup (.cons (.str "circuit") (.cons (.blt .tuple (.cons (.var 4) .nil)) .nil))) (.tup (.cons (.str "inverse") (.cons (.blt .tuple (.cons (.upto true (.var 4) (.sub (.var 2) (.int 0))) .nil)) (.cons (.blt .tuple (.cons (.from (.var 4) (.sub (.var 2) (.int 0))) .nil)) .nil))))))
 (.cons (.ite (.or (.cmp (.meth (.var 3) "told" .nil) .NotEq (.var 5)) (.cmp (.attr (.var 3) "scope") .NotEq (.blt .tuple (.cons (.var 4) .nil))))
 (.cons (.ret (.bool false))
 .nil)
 .nil)
 (.cons (.asg (.v 6) (.blt .tuple (.cons (.comp true [none,none,none,none,some 2,some 0] (.v 1) (.of (.var 4)) (.bool true) (.call "_law_draw" (.cons (.var 5) (.cons (.bin .Add (.blt .maxT (.cons (.var 4) .nil)) (.int 2)) .nil)))) .nil)))
 (.cons (.asg (.v 7) (.call "_law_answers" (.cons (.var 1) (.cons (.var 2) .nil))))
 (.cons (.ite (.and (.cmp (.var 7) .NotEq (.lst true .nil)) (.cmp (.call "_law_draw" (.cons (.var 0) (.cons (.int 2) .nil))) .Eq (.int 0)))
 (.cons (.asg (.v 6) (.sub (.var 7) (.call "_law_draw" (.cons (.var 0) (.cons (.blt .len (.cons (.var 7) .nil)) .nil)))))
 .nil)
 .nil)
 (.cons (.ret (.cmp (.meth (.var 3) "check" (.cons (.var 6) .nil)) .Is (.cmp (.var 6) .In (.var 7))))
 .nil))))))
noncomputable def FQ:List Str:=["tape","way","sides","one","scope"]
noncomputable def FR:List Str:=["tape","way","sides","one","scope","due","some","rows","tuple","_law_answers","_law_draw","len"]
noncomputable def JB:Ss :=
 (.cons (.swap [8,12] (.cons (.sub (.var 6) (.call "_law_draw" (.cons (.var 1) (.cons (.blt .len (.cons (.var 6) .nil)) .nil)))) (.cons (.sub (.lst true (.cons (.str "=") (.cons (.str "=") (.cons (.str "!=") (.cons (.str "<=") (.cons (.str ">=") .nil)))))) (.call "_law_draw" (.cons (.var 1) (.cons (.int 5) .nil)))) .nil)))
 (.cons (.asg (.v 13) (.call "values" (.cons (.meth (.var 4) "dom" (.cons (.var 8) .nil)) .nil)))
 (.cons (.expr (.append (.var 10) (.comp true [none,none,some 4] (.v 1) (.range1 (.meth (.var 4) "size" .nil)) (.bool true) (.meth (.var 2) "dom" (.cons (.var 1) .nil)))))
 (.cons (.expr (.meth (.var 4) "push" .nil))
 (.cons (.ite (.not (.meth (.var 4) "decide" (.cons (.tup (.cons (.var 8) (.cons (.var 12) (.cons (.sub (.var 13) (.call "_law_draw" (.cons (.var 1) (.cons (.blt .len (.cons (.var 13) .nil)) .nil)))) .nil)))) .nil)))
 (.cons (.expr (.meth (.var 4) "pop" (.cons (.int 1) .nil)))
 (.cons (.expr (.pop (.var 10)))
 (.cons .cont
 .nil)))
 .nil)
 (.cons (.ite (.not (.call "_law_asked_right" (.cons (.var 4) (.cons (.var 5) (.cons (.var 6) (.cons (.var 7) .nil))))))
 (.cons (.ret (.bool false))
 .nil)
 .nil)
 (.cons (.ite (.attr (.var 4) "is_failed")
 (.cons (.expr (.meth (.var 4) "pop" (.cons (.int 1) .nil)))
 (.cons (.ite (.or (.attr (.var 4) "is_failed") (.cmp (.comp true [none,none,some 4] (.v 1) (.range1 (.meth (.var 4) "size" .nil)) (.bool true) (.meth (.var 2) "dom" (.cons (.var 1) .nil))) .NotEq (.pop (.var 10))))
 (.cons (.ret (.bool false))
 .nil)
 .nil)
 .nil))
 .nil)
 .nil)))))))
noncomputable def PH:X:=(.cmp (.var 10) .NotEq (.lst true .nil))
noncomputable def PJ:Ss :=
 (.cons (.expr (.meth (.var 4) "pop" (.cons (.int 1) .nil)))
 (.cons (.ite (.cmp (.comp true [none,none,some 4] (.v 1) (.range1 (.meth (.var 4) "size" .nil)) (.bool true) (.meth (.var 2) "dom" (.cons (.var 1) .nil))) .NotEq (.pop (.var 10)))
 (.cons (.ret (.bool false))
 .nil)
 .nil)
 .nil))
def QF:Ss :=
 (.cons (.asg (.v 1) (.call "_law_tape" (.cons (.var 0) .nil)))
 (.cons (.asg (.t [2,3,4,5,6,7]) (.call "_law_made" (.cons (.var 1) .nil)))
 (.cons (.asg (.v 9) (.comp true [none,none,some 4] (.v 1) (.range1 (.meth (.var 4) "size" .nil)) (.bool true) (.meth (.var 2) "dom" (.cons (.var 1) .nil))))
 (.cons (.ite (.not (.call "_law_asked_right" (.cons (.var 4) (.cons (.var 5) (.cons (.var 6) (.cons (.var 7) .nil))))))
 (.cons (.ret (.bool false))
 .nil)
 .nil)
 (.cons (.ite (.attr (.var 4) "is_failed")
 (.cons (.ret (.call "_law_told_right" (.cons (.var 1) (.cons (.var 2) (.cons (.var 3) (.cons (.var 5) (.cons (.var 6) .nil)))))))
 .nil)
 .nil)
 (.cons (.asg (.v 10) (.lst false .nil))
 (.cons (.for (.v 11) (.range1 (.int 3)) JB)
 (.cons (.while PH PJ)
 (.cons (.ite (.cmp (.comp true [none,none,some 9,some 4] (.v 1) (.range1 (.meth (.var 4) "size" .nil)) (.cmp (.meth (.var 3) "initial" (.cons (.var 1) .nil)) .NotEq (.sub (.var 2) (.var 1))) (.var 1)) .NotEq (.lst true .nil))
 (.cons (.ret (.bool false))
 .nil)
 .nil)
 (.cons (.ret (.and (.cmp (.meth (.var 4) "depth" .nil) .Eq (.int 0)) (.call "_law_told_right" (.cons (.var 1) (.cons (.var 2) (.cons (.var 3) (.cons (.var 5) (.cons (.var 6) .nil))))))))
 .nil))))))))))
noncomputable def WU:List Str:=["script"]
noncomputable def WV:List Str:=["script","tape","way","sides","store","one","scope","answers","x","first","kept","lap","sign","some","_law_tape","_law_made","range","_law_asked_right","_law_told_right","_law_draw","len","values"]
inductive AV(K:Frag)(f:Addr)(ps nm:List Str)(ir:Ss):Prop
 |mk (body:List Stmt) (scope:Scope) (fa:dr K f ps body scope []) (hs:KQ scope ps=true) (hc:O5 scope ir body) (hn:scope.names.map (·.1)=nm)
noncomputable def WW(nm ps:List Str)(ds:List D):Bw:=nm.map λx=>(ps.zip ds).lookup x
theorem AV.callC{f:Addr}{ps nm:List Str}{ir:Ss}(r:AV B.K f ps nm ir)(hd:ds.length=ps.length)(k:AQ B n ir (WW nm ps ds) H (BI K)):IQ B (n+1) (.ref f) ds H K:=by
 obtain⟨body,scope,fa,hs,hc,rfl⟩:=r
 refine Q2 fa hs hc hd ?_
 unfold Lb
 unfold WW at k
 rw[List.map_map] at k
 exact k
def JC(B:Base)(f C f2:Addr)(ps nm:List Str)(xs:Xs)(ir:Ss):Prop:=∃es ap p0 p1 p2 p3 rest scope,az B f C f2 ps (.Expr (.Call (.Attribute (.Call (.Name ("super":Str) p0) [] [] p1) "__init__" ap) es [] p2) p3::rest) scope/\NY scope ps=true/\(ap.endLine==p2.line)=true/\BH es=true/\es.length<30 /\
 WQ scope xs es/\O5 scope ir rest/\scope.names.map (·.1)=nm
theorem JC.callC{f f2 x dx:Addr}{ps nm:List Str}{xs:Xs}{ir:Ss}(r:JC B f C f2 ps nm xs ir)(hd:ds.length=ps.length)(h0:ds.head? = some (.ref x))(hx:H x=some (.inst C dx))
  (k:NE B n xs (WW nm ps ds) H λas H=>IQ B n (.ref f2) (.ref x::as) H λ_ H=>AQ B n ir (WW nm ps ds) H (BI K)):IQ B (n+1) (.ref f) ds H K:=by
 refine LQ r λes ap p0 p1 p2 p3 rest scope sa h1 h2 h3 h4 h5 h6 mN=>?_;subst mN
 refine Q3 sa h1 h2 h3 h4 h5 h6 hd h0 hx ?_
 unfold Lb
 unfold WW at k
 rw[List.map_map] at k
 exact k
structure AS(B:Base)(cS cC cI:Addr):Prop where
 lO:∀a,nsIn B.K mainGlobals "put_behind"=some (some (.ref a))->AV B.K a JS JT F6
 lF:∀a,nsIn B.K mainGlobals "from_values"=some (some (.ref a))->AV B.K a IR IS FD
 lZ:∀a,nsIn B.K mainGlobals "next_from"=some (some (.ref a))->AV B.K a KT KU G0
 l9:∀a,nsIn B.K mainGlobals "values"=some (some (.ref a))->AV B.K a PA PD Ld
 mC:∀a,nsIn B.K mainGlobals "up_to"=some (some (.ref a))->AV B.K a Q4 Q5 NZ
 lw:∀a,nsIn B.K mainGlobals "from_on"=some (some (.ref a))->AV B.K a Na Nb Js
 lv:∀a,nsIn B.K mainGlobals "without"=some (some (.ref a))->AV B.K a Nc Nd Jt
 mG:∀a,nsIn B.K mainGlobals "meet"=some (some (.ref a))->AV B.K a Th Ti QE
 lj:∀a,nsIn B.K mainGlobals "negation"=some (some (.ref a))->AV B.K a L8 L9 IT
 l8:∀a,nsIn B.K mainGlobals "struck"=some (some (.ref a))->AV B.K a PE PG Le
 ke:hasM B cS "new_var"
 kT:∀a,AU B.K cS "new_var" a=true->AV B.K a GQ GR Dq
 jr:hasM B cS "size"
 lS:∀a,AU B.K cS "size" a=true->AV B.K a JU JV GA
 j0:hasM B cS "dom"
 lf:∀a,AU B.K cS "dom" a=true->AV B.K a KW KY G3
 kU:hasM B cS "initial"
 km:∀a,AU B.K cS "initial" a=true->AV B.K a GS GT Dr
 jz:hasM B cS "has"
 lU:∀a,AU B.K cS "has" a=true->AV B.K a KZ Ka G4
 j1:hasM B cS "is_fixed"
 kP:∀a,AU B.K cS "is_fixed" a=true->AV B.K a Fm Fn Da
 j3:hasM B cS "value"
 lI:∀a,AU B.K cS "value" a=true->AV B.K a IU IV FE
 kD:hasM B cS "enter"
 lK:∀a,AU B.K cS "enter" a=true->AV B.K a IW IX FF
 jt:hasM B cS "strike"
 kt:∀a,AU B.K cS "strike" a=true->AV B.K a HR HS EL
 k7:hasM B cS "decide"
 ko:∀a,AU B.K cS "decide" a=true->AV B.K a HT HU EM
 j5:hasM B cS "fail"
 lQ:∀a,AU B.K cS "fail" a=true->AV B.K a JW JX GB
 lR:hasM B cS "push"
 lP:∀a,AU B.K cS "push" a=true->AV B.K a JY JZ GC
 j6:hasM B cS "pop"
 lh:∀a,AU B.K cS "pop" a=true->AV B.K a Kc Kd G5
 lJ:hasM B cS "depth"
 lH:∀a,AU B.K cS "depth" a=true->AV B.K a IY IZ FG
 kG:hasM B cC "propagate"
 kE:∀a,AU B.K cC "propagate" a=true->AV B.K a D8 D9 C0
 kq:hasM B cC "part"
 kn:∀a,AU B.K cC "part" a=true->AV B.K a Ha Hb EN
 kA:hasM B cC "open_rings"
 j9:∀a,AU B.K cC "open_rings" a=true->AV B.K a Dj Dk Cs
 kj:hasM B cC "reach"
 kY:∀a,AU B.K cC "reach" a=true->AV B.K a GX GY Ds
 ka:hasM B cC "check"
 ki:∀a,AU B.K cC "check" a=true->AV B.K a GZ Ga Dt
 lA:hasM B cC "told"
 k8:∀a,AU B.K cC "told" a=true->AV B.K a Hc Hd EO
 kF:hasM B cI "propagate"
 kH:∀a,AU B.K cI "propagate" a=true->AV B.K a EB EC C1
 j7:hasM B cI "turn"
 k5:∀a,AU B.K cI "turn" a=true->AV B.K a Hh Hi EP
 kh:hasM B cI "check"
 kl:∀a,AU B.K cI "check" a=true->AV B.K a Ge Gf Du
 ku:hasM B cI "told"
 k9:∀a,AU B.K cI "told" a=true->AV B.K a Hj Hk EQ
 lY:∀a,nsIn B.K mainGlobals "_law_tape"=some (some (.ref a))->AV B.K a Ke Kg G6
 lX:∀a,nsIn B.K mainGlobals "_law_draw"=some (some (.ref a))->AV B.K a Kh Ki G7
 lW:∀a,nsIn B.K mainGlobals "_law_rows"=some (some (.ref a))->AV B.K a Kj Kk G8
 ky:∀a,nsIn B.K mainGlobals "_law_is_ring"=some (some (.ref a))->AV B.K a Hn Ho ER
 k6:∀a,nsIn B.K mainGlobals "_law_answers"=some (some (.ref a))->AV B.K a Hp Hq ES
 lc:∀a,nsIn B.K mainGlobals "_law_says"=some (some (.ref a))->AV B.K a Kl Km G9
 lN:∀a,nsIn B.K mainGlobals "_law_keeps"=some (some (.ref a))->AV B.K a Ja Jb GE
 lG:∀a,nsIn B.K mainGlobals "_law_within"=some (some (.ref a))->AV B.K a Ia Ib FP
 lV:∀a,nsIn B.K mainGlobals "_law_hold"=some (some (.ref a))->AV B.K a Kn Ko HA
 j8:∀a,nsIn B.K mainGlobals "_law_entries_right"=some (some (.ref a))->AV B.K a Dl Dm Ct
 kM:∀a,nsIn B.K mainGlobals "_law_asked_right"=some (some (.ref a))->AV B.K a Eb Ec DA
 lg:∀a,nsIn B.K mainGlobals "_law_made"=some (some (.ref a))->AV B.K a Kp Kq Ch
 kN:∀a,nsIn B.K mainGlobals "_law_told_right"=some (some (.ref a))->AV B.K a FQ FR Ci
 mA:∀a,nsIn B.K mainGlobals "law"=some (some (.ref a))->AV B.K a WU WV QF
 lD:∀a,nsIn B.K mainGlobals "has_domains"=some (some (.ref a))->AV B.K a WR WT SY
 jp:BS B.K cS "domains"=true
 kX:B0 B.K cS "domains"=true
 j2:BS B.K cS "firsts"=true
 lB:B0 B.K cS "firsts"=true
 jo:BS B.K cS "trail"=true
 lE:B0 B.K cS "trail"=true
 ju:BS B.K cS "marks"=true
 kB:B0 B.K cS "marks"=true
 lT:BS B.K cS "news"=true
 kK:B0 B.K cS "news"=true
 kS:BS B.K cS "speaker"=true
 kR:B0 B.K cS "speaker"=true
 jq:BS B.K cS "is_failed"=true
 jy:B0 B.K cS "is_failed"=true
 lC:BS B.K cS "clash"=true
 j4:B0 B.K cS "clash"=true
 mF:∀a,nsIn B.K mainGlobals "Store"=some (some (.ref a))->a=cS
 mE:makesIn B.K cS=true
 l7:BS B.K cC "number"=true
 kO:B0 B.K cC "number"=true
 jn:BS B.K cC "scope"=true
 kg:B0 B.K cC "scope"=true
 lp:BS B.K cC "strength"=true
 kJ:B0 B.K cC "strength"=true
 ll:∀a,nsIn B.K mainGlobals "Circuit"=some (some (.ref a))->a=cC
 lq:makesIn B.K cC=true
 l6:BS B.K cI "number"=true
 kQ:B0 B.K cI "number"=true
 kW:BS B.K cI "scope"=true
 kZ:B0 B.K cI "scope"=true
 lu:BS B.K cI "strength"=true
 kL:B0 B.K cI "strength"=true
 jv:BS B.K cI "fs"=true
 lL:B0 B.K cI "fs"=true
 jw:BS B.K cI "gs"=true
 lM:B0 B.K cI "gs"=true
 ln:∀a,nsIn B.K mainGlobals "Inverse"=some (some (.ref a))->a=cI
 lm:makesIn B.K cI=true
 mB:∃fI,findIn B.K (.ref cS) "__init__"=some (some (.ref fI))/\typeIn B.K (.ref fI)=some (.type "function")/\AV B.K fI F8 F9 F7
 l0:∃fI fP,findIn B.K (.ref cC) "__init__"=some (some (.ref fI))/\typeIn B.K (.ref fI)=some (.type "function")/\JC B fI cC fP HY HZ D7 HX/\AV B.K fP CN CO CM
 lz:∃fI fP,findIn B.K (.ref cI) "__init__"=some (some (.ref fI))/\typeIn B.K (.ref fI)=some (.type "function")/\JC B fI cI fP Hf Hg EA He/\AV B.K fP CN CO CM
section
variable {B:Base} {cS cC cI:Addr}
theorem Nf(P:AS B cS cC cI){d2:D}(k:AQ B n F6 [some d0,some d1,some d2,none] H (BI K)):AH B (n+1) "put_behind" [d0,d1,d2] H K:=λa ha=>((P.lO a ha).callC rfl k).callV
theorem Ma(P:AS B cS cC cI)(k:AQ B n FD [some d0,none,none,none,none,none] H (BI K)):AH B (n+1) "from_values" [d0] H K:=λa ha=>((P.lF a ha).callC rfl k).callV
theorem OW(P:AS B cS cC cI)(k:AQ B n G0 [some d0,some d1,none,none,none] H (BI K)):AH B (n+1) "next_from" [d0,d1] H K:=λa ha=>((P.lZ a ha).callC rfl k).callV
theorem SZ(P:AS B cS cC cI)(k:AQ B n Ld [some d0,none,none,none,none] H (BI K)):AH B (n+1) "values" [d0] H K:=λa ha=>((P.l9 a ha).callC rfl k).callV
theorem Ui(P:AS B cS cC cI)(k:AQ B n NZ [some d0,some d1,none] H (BI K)):AH B (n+1) "up_to" [d0,d1] H K:=λa ha=>((P.mC a ha).callC rfl k).callV
theorem Q6(P:AS B cS cC cI)(k:AQ B n Js [some d0,some d1,none] H (BI K)):AH B (n+1) "from_on" [d0,d1] H K:=λa ha=>((P.lw a ha).callC rfl k).callV
theorem Q7(P:AS B cS cC cI)(k:AQ B n Jt [some d0,some d1,none,none] H (BI K)):AH B (n+1) "without" [d0,d1] H K:=λa ha=>((P.lv a ha).callC rfl k).callV
theorem WX(P:AS B cS cC cI)(k:AQ B n QE [some d0,some d1,none,none,none,none,none,none,none,none,none] H (BI K)):AH B (n+1) "meet" [d0,d1] H K:=λa ha=>((P.mG a ha).callC rfl k).callV
theorem QG(P:AS B cS cC cI)(k:AQ B n IT [some d0,none,none,none] H (BI K)):AH B (n+1) "negation" [d0] H K:=λa ha=>((P.lj a ha).callC rfl k).callV
theorem Sa(P:AS B cS cC cI)(k:AQ B n Le [some d0,some d1,none,none,none,none,none,none] H (BI K)):AH B (n+1) "struck" [d0,d1] H K:=λa ha=>((P.l8 a ha).callC rfl k).callV
theorem Kr(P:AS B cS cC cI)(k:AQ B n Dq [some d0,some d1,none] H (BI K)):AJ B (n+1) cS "new_var" [d0,d1] H K:=λa ha=>((P.kT a ha).callC rfl k).callV
theorem Ng(P:AS B cS cC cI)(k:AQ B n GA [some d0,none] H (BI K)):AJ B (n+1) cS "size" [d0] H K:=λa ha=>((P.lS a ha).callC rfl k).callV
theorem OX(P:AS B cS cC cI)(k:AQ B n G3 [some d0,some d1] H (BI K)):AJ B (n+1) cS "dom" [d0,d1] H K:=λa ha=>((P.lf a ha).callC rfl k).callV
theorem Ks(P:AS B cS cC cI)(k:AQ B n Dr [some d0,some d1] H (BI K)):AJ B (n+1) cS "initial" [d0,d1] H K:=λa ha=>((P.km a ha).callC rfl k).callV
theorem OY(P:AS B cS cC cI){d2:D}(k:AQ B n G4 [some d0,some d1,some d2,none] H (BI K)):AJ B (n+1) cS "has" [d0,d1,d2] H K:=λa ha=>((P.lU a ha).callC rfl k).callV
theorem Ju(P:AS B cS cC cI)(k:AQ B n Da [some d0,some d1,none,none] H (BI K)):AJ B (n+1) cS "is_fixed" [d0,d1] H K:=λa ha=>((P.kP a ha).callC rfl k).callV
theorem Mb(P:AS B cS cC cI)(k:AQ B n FE [some d0,some d1] H (BI K)):AJ B (n+1) cS "value" [d0,d1] H K:=λa ha=>((P.lI a ha).callC rfl k).callV
theorem Mc(P:AS B cS cC cI){d2 d3:D}(k:AQ B n FF [some d0,some d1,some d2,some d3,none,none,none,none,none] H (BI K)):AJ B (n+1) cS "enter" [d0,d1,d2,d3] H K:=λa ha=>((P.lK a ha).callC rfl k).callV
theorem Lf(P:AS B cS cC cI){d2:D}(k:AQ B n EL [some d0,some d1,some d2,none] H (BI K)):AJ B (n+1) cS "strike" [d0,d1,d2] H K:=λa ha=>((P.kt a ha).callC rfl k).callV
theorem Lg(P:AS B cS cC cI)(k:AQ B n EM [some d0,some d1] H (BI K)):AJ B (n+1) cS "decide" [d0,d1] H K:=λa ha=>((P.ko a ha).callC rfl k).callV
theorem Nh(P:AS B cS cC cI)(k:AQ B n GB [some d0,some d1,none] H (BI K)):AJ B (n+1) cS "fail" [d0,d1] H K:=λa ha=>((P.lQ a ha).callC rfl k).callV
theorem Ni(P:AS B cS cC cI)(k:AQ B n GC [some d0,none] H (BI K)):AJ B (n+1) cS "push" [d0] H K:=λa ha=>((P.lP a ha).callC rfl k).callV
theorem OZ(P:AS B cS cC cI)(k:AQ B n G5 [some d0,some d1,none,none,none] H (BI K)):AJ B (n+1) cS "pop" [d0,d1] H K:=λa ha=>((P.lh a ha).callC rfl k).callV
theorem Md(P:AS B cS cC cI)(k:AQ B n FG [some d0,none] H (BI K)):AJ B (n+1) cS "depth" [d0] H K:=λa ha=>((P.lH a ha).callC rfl k).callV
theorem Hy(P:AS B cS cC cI)(k:AQ B n C0 [some d0,some d1,none,none,none,none] H (BI K)):AJ B (n+1) cC "propagate" [d0,d1] H K:=λa ha=>((P.kE a ha).callC rfl k).callV
theorem Lh(P:AS B cS cC cI)(k:AQ B n EN [some d0,some d1,none,none,none,none,none,none] H (BI K)):AJ B (n+1) cC "part" [d0,d1] H K:=λa ha=>((P.kn a ha).callC rfl k).callV
theorem HB(P:AS B cS cC cI)(k:AQ B n Cs [some d0,some d1,none,none,none,none,none,none,none,none] H (BI K)):AJ B (n+1) cC "open_rings" [d0,d1] H K:=λa ha=>((P.j9 a ha).callC rfl k).callV
theorem Kt(P:AS B cS cC cI)(k:AQ B n Ds [some d0,some d1,none,none,none,none,none,none,none,none,none] H (BI K)):AJ B (n+1) cC "reach" [d0,d1] H K:=λa ha=>((P.kY a ha).callC rfl k).callV
theorem Ku(P:AS B cS cC cI)(k:AQ B n Dt [some d0,some d1,none,none,none,none] H (BI K)):AJ B (n+1) cC "check" [d0,d1] H K:=λa ha=>((P.ki a ha).callC rfl k).callV
theorem Li(P:AS B cS cC cI)(k:AQ B n EO [some d0] H (BI K)):AJ B (n+1) cC "told" [d0] H K:=λa ha=>((P.k8 a ha).callC rfl k).callV
theorem Hz(P:AS B cS cC cI)(k:AQ B n C1 [some d0,some d1,none,none,none,none,none] H (BI K)):AJ B (n+1) cI "propagate" [d0,d1] H K:=λa ha=>((P.kH a ha).callC rfl k).callV
theorem Lj(P:AS B cS cC cI){d2 d3:D}(k:AQ B n EP [some d0,some d1,some d2,some d3,none,none,none,none,none,none] H (BI K)):AJ B (n+1) cI "turn" [d0,d1,d2,d3] H K:=λa ha=>((P.k5 a ha).callC rfl k).callV
theorem Kv(P:AS B cS cC cI)(k:AQ B n Du [some d0,some d1,none,none,none,none,none,none] H (BI K)):AJ B (n+1) cI "check" [d0,d1] H K:=λa ha=>((P.kl a ha).callC rfl k).callV
theorem Lk(P:AS B cS cC cI)(k:AQ B n EQ [some d0] H (BI K)):AJ B (n+1) cI "told" [d0] H K:=λa ha=>((P.k9 a ha).callC rfl k).callV
theorem Oa(P:AS B cS cC cI)(k:AQ B n G6 [some d0] H (BI K)):AH B (n+1) "_law_tape" [d0] H K:=λa ha=>((P.lY a ha).callC rfl k).callV
theorem Ob(P:AS B cS cC cI)(k:AQ B n G7 [some d0,some d1,none,none] H (BI K)):AH B (n+1) "_law_draw" [d0,d1] H K:=λa ha=>((P.lX a ha).callC rfl k).callV
theorem Oc(P:AS B cS cC cI)(k:AQ B n G8 [some d0,none,none,none,none,none] H (BI K)):AH B (n+1) "_law_rows" [d0] H K:=λa ha=>((P.lW a ha).callC rfl k).callV
theorem Ll(P:AS B cS cC cI)(k:AQ B n ER [some d0,none,none,none] H (BI K)):AH B (n+1) "_law_is_ring" [d0] H K:=λa ha=>((P.ky a ha).callC rfl k).callV
theorem Gh(P:AS B cS cC cI)(k:AQ B n ES [some d0,some d1,none,none,none,none,none,none] H (BI K)):AH B (n+1) "_law_answers" [d0,d1] H K:=λa ha=>((P.k6 a ha).callC rfl k).callV
theorem Od(P:AS B cS cC cI)(k:AQ B n G9 [some d0,some d1,none,none,none] H (BI K)):AH B (n+1) "_law_says" [d0,d1] H K:=λa ha=>((P.lc a ha).callC rfl k).callV
theorem Nj(P:AS B cS cC cI){d2:D}(k:AQ B n GE [some d0,some d1,some d2,none,none,none,none,none] H (BI K)):AH B (n+1) "_law_keeps" [d0,d1,d2] H K:=λa ha=>((P.lN a ha).callC rfl k).callV
theorem Me(P:AS B cS cC cI){d2:D}(k:AQ B n FP [some d0,some d1,some d2,none,none] H (BI K)):AH B (n+1) "_law_within" [d0,d1,d2] H K:=λa ha=>((P.lG a ha).callC rfl k).callV
theorem Oe(P:AS B cS cC cI)(k:AQ B n HA [some d0,some d1,none] H (BI K)):AH B (n+1) "_law_hold" [d0,d1] H K:=λa ha=>((P.lV a ha).callC rfl k).callV
theorem HC(P:AS B cS cC cI){d2 d3 d4:D}(k:AQ B n Ct [some d0,some d1,some d2,some d3,some d4,none,none,none,none,none,none,none,none,none,none] H (BI K)):AH B (n+1) "_law_entries_right" [d0,d1,d2,d3,d4] H K:=λa ha=>((P.j8 a ha).callC rfl k).callV
theorem Ic(P:AS B cS cC cI){d2 d3:D}(k:AQ B n DA [some d0,some d1,some d2,some d3,none,none,none,none,none,none,none,none,none,none,none,none] H (BI K)):AH B (n+1) "_law_asked_right" [d0,d1,d2,d3] H K:=λa ha=>((P.kM a ha).callC rfl k).callV
theorem Of(P:AS B cS cC cI)(k:AQ B n Ch [some d0,none,none,none,none,none,none,none,none,none,none,none,none,none,none,none,none,none,none,none,none,none,none,none,none] H (BI K)):AH B (n+1) "_law_made" [d0] H K:=λa ha=>((P.lg a ha).callC rfl k).callV
theorem Ed(P:AS B cS cC cI){d2 d3 d4:D}(k:AQ B n Ci [some d0,some d1,some d2,some d3,some d4,none,none,none,none,none,none,none] H (BI K)):AH B (n+1) "_law_told_right" [d0,d1,d2,d3,d4] H K:=λa ha=>((P.kN a ha).callC rfl k).callV
theorem iX(P:AS B cS cC cI)(k:AQ B n QF [some d0,none,none,none,none,none,none,none,none,none,none,none,none,none,none,none,none,none,none,none,none,none] H (BI K)):AH B (n+1) "law" [d0] H K:=λa ha=>((P.mA a ha).callC rfl k).callV
theorem Mf(P:AS B cS cC cI)(k:AQ B n SY [some d0,some d1,none] H (BI K)):AH B (n+1) "has_domains" [d0,d1] H K:=λa ha=>((P.lD a ha).callC rfl k).callV
end
noncomputable abbrev Bb:=List (Int×Int)
noncomputable def CZ:Bb->Int->Option Int
 |[],_=>none
 |p::r,v=>if v<=p.2 then some (max p.1 v) else CZ r v
noncomputable def Mg(d:Bb)(k:Int):Bb:=d.filterMap λp=>if p.1<=k then some (p.1,min p.2 k) else none
noncomputable def GF(d:Bb)(k:Int):Bb:=d.filterMap λp=>if k<=p.2 then some (max p.1 k,p.2) else none
def Fo(d:Bb)(v:Int):Bb:=Mg d (v-1)++GF d (v+1)
noncomputable def FS:Bb->Int->Bb
 |[],_=>[]
 |p::r,k=>(if max p.1 k<=min p.2 k then [(max p.1 k,min p.2 k)] else [])++if p.2<k then FS r k else []
noncomputable def Gi(p:Int×Int):List Int:=(List.range (p.2+1-p.1).toNat).map λ(i:Nat)=>p.1+(i:Int)
def vals(d:Bb):List Int:=d.flatMap Gi
set_option genCtorIdx true in
inductive Sg where
 |le|ge|eq|ne
structure CQ where
 x:Nat
 s:Sg
 k:Int
noncomputable def CQ.neg(l:CQ):CQ:=match l.s with
 |.le=>⟨l.x,.ge,l.k+1⟩
 |.ge=>⟨l.x,.le,l.k-1⟩
 |.eq=>⟨l.x,.ne,l.k⟩
 |.ne=>⟨l.x,.eq,l.k⟩
def B2(l:CQ)(d:Bb):Bb:=match l.s with
 |.le=>Mg d l.k
 |.ge=>GF d l.k
 |.eq=>FS d l.k
 |.ne=>Fo d l.k
noncomputable def says(l:CQ)(v:Int):Bool:=match l.s with
 |.le=>decide (v<=l.k)
 |.ge=>decide (l.k<=v)
 |.eq=>decide (v=l.k)
 |.ne=>decide (v≠l.k)
noncomputable def CC(d:Bb)(lo hi:Int):Bb:=match d.getLast? with
 |some p=>if lo<=p.2+1 then (if p.2<hi then d.dropLast++[(p.1,hi)] else d) else d++[(lo,hi)]
 |none=>d++[(lo,hi)]
def Q8(ns:List Int):Bb:=ns.foldl (λd v=>CC d v v) []
def AG(d:Bb):D:=.tup (d.map BW)
noncomputable def Sg.str:Sg->Str
 |.le=>"<="
 |.ge=>">="
 |.eq=>"="
 |.ne=>"!="
noncomputable def BL(l:CQ):D:=.tup [.int l.x,.str l.s.str,.int l.k]
theorem Mu{α:Type}{body:D->KH->(Option D->KH->Prop)->Prop}{KF:List D->KH->Prop}(enc:α->D)(g:α->Option D):∀(xs:List α) (acc:List D),acc.length+xs.length<1000000 ->
  (∀x∈xs,∀acc K',K' (g x) (H.set a (.list acc))->body (enc x) (H.set a (.list acc)) K')->KF (acc++xs.filterMap g) (H.set a (.list (acc++xs.filterMap g)))->CK body a (xs.map enc) acc (H.set a (.list acc)) KF
 |[],acc,_,_,k=>by rw[List.filterMap_nil,List.append_nil] at k;exact k
 |y::ys,acc,hl,hb,k=>by
  refine hb y (List.mem_cons_self ..) acc _ ?_
  rw[List.length_cons] at hl
  rw[List.filterMap_cons] at k
  cases e:g y with
  |none =>
   rw[e] at k
   exact⟨KH.set_self ..,Mu enc g ys acc (by exact AA [_,_] [] [.u (.p Aa (.p Ab Ae)) Ao] (.u (.p Aa Ab) Ao) rfl hl) (λz hz=>hb z (List.mem_cons_of_mem _ hz)) k⟩
  |some r =>
   rw[e] at k
   refine⟨KH.set_self ..,by exact AA [_,_] [] [.u (.p Aa (.p Ab Ae)) Ao] (.u Aa Ao) rfl hl,?_⟩
   rw[KH.set_set]
   exact Mu enc g ys (acc++[r]) (by rw[List.length_append,List.length_singleton];exact AA [_,_] [] [.u (.p Aa (.p Ab Ae)) Ao] (.u (.p (.p Aa Ae) Ab) Ao) rfl hl) (λz hz=>hb z (List.mem_cons_of_mem _ hz)) (by rw[List.append_assoc];exact k)
theorem BX{α:Type}{body:D->KH->(Option D->KH->Prop)->Prop}{KF:List D->KH->Prop}{xs:List α}(enc:α->D)(g:α->Option D)(ha:H a=none)(hl:xs.length<1000000)
  (hb:∀x∈xs,∀acc K',K' (g x) (H.set a (.list acc))->body (enc x) (H.set a (.list acc)) K') (k:(H.set a (.list (xs.filterMap g))) a=some (.list (xs.filterMap g))->H=(H.set a (.list (xs.filterMap g))).erase a->KF (xs.filterMap g) (H.set a (.list (xs.filterMap g)))) :
  CK body a (xs.map enc) [] (H.set a (.list [])) KF :=
 Mu enc g xs [] (by simpa using hl) hb (k (KH.set_self ..) (KH.erase_set _ _ _ ha).symm)
theorem Nk{α:Type}{inner:D->List D->KH->(List D->KH->Prop)->Prop}{KF:List D->KH->Prop}(enc:α->D)(g:α->List D)(c:Nat):∀(xs:List α) (acc:List D),acc.length+c*xs.length<1000000->(∀x∈xs,(g x).length<=c) ->
  (∀x∈xs,∀acc K',acc.length+(g x).length<1000000->K' (acc++g x) (H.set a (.list (acc++g x)))->inner (enc x) acc (H.set a (.list acc)) K')->KF (acc++xs.flatMap g) (H.set a (.list (acc++xs.flatMap g)))->Fh inner (xs.map enc) acc (H.set a (.list acc)) KF
 |[],acc,_,_,_,k=>by rw[List.flatMap_nil,List.append_nil] at k;exact k
 |y::ys,acc,hl,hc,hb,k=>by
  have h1:=hc y (List.mem_cons_self ..)
  rw[List.length_cons,Nat.mul_add,Nat.mul_one] at hl
  refine hb y (List.mem_cons_self ..) acc _ (by exact AA [_,_,_,_] [] [.u (.p Aa (.p Af Aq)) Ao,.l Ab Aq] (.u (.p Aa Ab) Ao) rfl hl h1) ?_
  rw[List.flatMap_cons,←List.append_assoc] at k
  exact Nk enc g c ys (acc++g y) (by rw[List.length_append];exact AA [_,_,_,_] [] [.u (.p Aa (.p Af Aq)) Ao,.l Ab Aq] (.u (.p (.p Aa Ab) Af) Ao) rfl hl h1) (λz hz=>hc z (List.mem_cons_of_mem _ hz)) (λz hz=>hb z (List.mem_cons_of_mem _ hz)) k
section
variable {H:KH} {i j:Int} {k:Bool->Prop} {K:D->KH->Prop} {a b d e:D} {ds:List D} {bb:Bool} {l:Addr}
theorem Lm(h:k (decide (i<j))):CA .Lt (.int i) (.int j) k:=by unfold CA;exact h
theorem Q9(h:k (decide (i<=j))):CA .LtE (.int i) (.int j) k:=by unfold CA;exact h
theorem Uj(h:k (decide (j<i))):CA .Gt (.int i) (.int j) k:=by unfold CA;exact h
theorem gy(h:k (decide (j<=i))):CA .GtE (.int i) (.int j) k:=by unfold CA;exact h
theorem H9(h1:CG AY a=true)(h2:CG AY b=true)(h:k (OJ a b)):CA .Eq a b k:=by unfold CA;exact⟨h1,h2,h⟩
theorem IA(h1:CG AY a=true)(h2:CG AY b=true)(h:k (!OJ a b)):CA .NotEq a b k:=by unfold CA;exact⟨h1,h2,h⟩
theorem Fp{p:Prop}[Decidable p](h:a=b↔p):OJ a b=decide p:=DY (by rw[CF,decide_eq_true_iff];exact h)
theorem HD{p:Prop}[Decidable p](h:a∈ds↔p):inB a ds=decide p:=DY (by rw[KC,decide_eq_true_iff];exact h)
theorem CP(k:Nat)(i:Int):CG k (.int i)=true:=by cases k<;>rfl
theorem DI(h:k (decide (i=j))):CA .Eq (.int i) (.int j) k:=H9 (CP ..) (CP ..) (by rw[Fp (p:=i=j) (by simp)];exact h)
theorem MA(h:k (decide (i≠j))):CA .NotEq (.int i) (.int j) k:=IA (CP ..) (CP ..) (by rw[Fp (p:=i=j) (by simp),←decide_not];exact h)
theorem ai(h1:CG AY a=true)(h2:Bz AY ds=true)(h:k (inB a ds)):CA .In a (.lst ds) k:=by unfold CA;exact⟨h1,h2,h⟩
theorem jg(h1:CG AY a=true)(h2:Bz AY ds=true)(h:k (inB a ds)):CA .In a (.tup ds) k:=by unfold CA;exact⟨h1,h2,h⟩
theorem Sb(h1:CG AY a=true)(h2:Bz AY ds=true)(h:k (!inB a ds)):CA .NotIn a (.lst ds) k:=by unfold CA;exact⟨h1,h2,h⟩
theorem dX(h1:CG AY a=true)(h2:Bz AY ds=true)(h:k (!inB a ds)):CA .NotIn a (.tup ds) k:=by unfold CA;exact⟨h1,h2,h⟩
theorem Bn(k:Nat):∀ns:List Int,Bz k (AC ns)=true
 |[]=>by cases k<;>rfl
 |n::ns=>by
  show(CG k (.int n)&&Bz k (AC ns))=true
  rw[CP,Bn];rfl
theorem Gj:D.int i∈AC ns↔i∈ns:=by
 unfold AC
 rw[List.mem_map]
 exact⟨λ⟨_,h,e⟩=>by cases e;exact h,λh=>⟨i,h,rfl⟩⟩
theorem B1(hs:BC H d=some (bb,ds))(h:K (.int ds.length) H):XR d H K:=⟨hs,λ_=>h⟩
theorem B5(hs:BC H d=some (bb,ds))(h:K (.tup ds) H):Ly d H K:=⟨hs,h⟩
theorem AP{x:Int}(hs:BC H d=some (bb,ds))(hi:T7 ds x=some e)(h:K e H):MR d (.int x) H K:=.seq hs rfl hi h
theorem Ca(hl:H l=some (.list ds))(hz:ds.length<1000000)(h:K .none (H.set l (.list (ds++[e])))):JL l e H K:=⟨hl,hz,h⟩
theorem RA{es:List D}(hl:H l=some (.list ds))(hz:ds.length+es.length<1000000)(h:K .none (H.set l (.list (ds++es)))):LM l (.lst es) H K:=⟨hl,rfl,hz,h⟩
theorem Og{x y:Int}(hl:H l=some (.list ds))(hz:ds.length<1000000)(hx:BA x)(hy:BA y)(h:K .none (H.set l (.list (ds++upto x y)))):Di l x y H K:=⟨hl,hz,hx,hy,h⟩
theorem Gk{g:List D->Addr->Prop}(hl:H l=some (.list ds))(h:g ds l):aP (some (.ref l)) H g:=⟨rfl,hl,h⟩
theorem Cu{α:Type}{xs:List α}{f:α->D}{k:Nat}{x:α}(h:xs[k]? = some x):T7 (xs.map f) (k:Int)=some (f x):=by
 unfold T7
 rw[if_pos (Int.natCast_nonneg k),Int.toNat_natCast,List.getElem?_map,h];rfl
end
theorem jU{c:Bool}{a b:Prop}(h:c=true)(x:a):if c=true then a else b:=by rw[if_pos h];exact x
theorem jV{c:Bool}{a b:Prop}(h:c=false)(x:b):if c=true then a else b:=by rw[h,if_neg (by simp)];exact x
theorem BB{p:Prop}[Decidable p]{a b:Prop}(h1:p->a)(h2:¬p->b):if decide p=true then a else b:=by
 by_cases c:p
 ·rw[if_pos (decide_eq_true c)];exact h1 c
 ·rw[if_neg (by simpa using c)];exact h2 c
theorem map_filterMap{α:Type}(f:α->Option (Int×Int))(xs:List α):(xs.filterMap f).map BW=xs.filterMap λx=>(f x).map BW:=by
 rw[List.map_filterMap]
section
variable {B:Base} {cS cC cI:Addr} {n:Nat} {H:KH} {K:D->KH->Prop}
theorem Tj(P:AS B cS cC cI){d:Bb}{k:Int}(hl:d.length<1000000)(kk:K (AG (Mg d k)) H):AH B (n+1) "up_to" [AG d,.int k] H K:=by
 refine Ui P ?_
 intro a ha
 refine BX (xs:=d) BW (λp=>(if p.1<=k then some (p.1,min p.2 k) else none).map BW) ha hl (λp _ acc K' h=>?_) λe1 e2=>⟨e1,?_⟩
 ·refine Q9 ?_
  show if decide (p.1<=k)=true then K' (some (BW (p.1,min p.2 k))) _ else K' none _
  exact BB (λc=>by rw[if_pos c] at h;exact h) (λc=>by rw[if_neg c] at h;exact h)
 ·rw[if_pos rfl,←e2]
  refine B5 rfl ?_
  show K (.tup _) H
  rw[←map_filterMap];exact kk
theorem PK(P:AS B cS cC cI){d:Bb}{k:Int}(hl:d.length<1000000)(kk:K (AG (GF d k)) H):AH B (n+1) "from_on" [AG d,.int k] H K:=by
 refine Q6 P ?_
 intro a ha
 refine BX (xs:=d) BW (λp=>(if k<=p.2 then some (max p.1 k,p.2) else none).map BW) ha hl (λp _ acc K' h=>?_) λe1 e2=>⟨e1,?_⟩
 ·refine gy ?_
  show if decide (k<=p.2)=true then K' (some (BW (max p.1 k,p.2))) _ else K' none _
  exact BB (λc=>by rw[if_pos c] at h;exact h) (λc=>by rw[if_neg c] at h;exact h)
 ·rw[if_pos rfl,←e2]
  refine B5 rfl ?_
  show K (.tup _) H
  rw[←map_filterMap];exact kk
theorem Uk(P:AS B cS cC cI){d:Bb}{k:Int}(hl:d.length<100000)(kk:K (AG (Fo d k)) H):AH B (n+2) "without" [AG d,.int k] H K:=by
 refine Q7 P ?_
 show AH B (n+1) "up_to" [AG d,.int (k-1)] H _
 refine Tj P (by exact AA [_] [] [.u Aa A4] (.u Aa Ao) rfl hl) ?_
 show AH B (n+1) "from_on" [AG d,.int (k+1)] H _
 refine PK P (by exact AA [_] [] [.u Aa A4] (.u Aa Ao) rfl hl) ?_
 have a:(Mg d (k-1)).length<=d.length:=List.length_filterMap_le ..
 have b:(GF d (k+1)).length<=d.length:=List.length_filterMap_le ..
 refine⟨by rw[List.length_map,List.length_map];exact AA [_,_,_] [] [.l Aa Af,.l Ab Af,.m 2 (.u Af A4)] (.l (.p Aa Ab) Ao) rfl a b hl,?_⟩
 show K (.tup ((Mg d (k-1)).map BW++(GF d (k+1)).map BW)) H
 rw[←List.map_append];exact kk
theorem g6(d:Bb)(k:Int):(Mg d k).length<=d.length:=List.length_filterMap_le ..
theorem dY(d:Bb)(k:Int):(GF d k).length<=d.length:=List.length_filterMap_le ..
noncomputable def Nl:Option Int->D
 |none=>.none
 |some i=>.int i
theorem RB(P:AS B cS cC cI){d:Bb}{v:Int}(kk:K (Nl (CZ d v)) H):AH B (n+1) "next_from" [AG d,.int v] H K:=by
 refine OW P ?_
 have main:∀(e:Bb) (D0:D) (o2 o3:Option D),K (Nl (CZ e v)) H ->
   Bm (AQ B n HQ) (.t [2,3]) (e.map BW) [some D0,some (.int v),o2,o3,none] H
    (λf ρ H=>match f with| .next=>AQ B n (.cons (.ret .none) .nil) ρ H (BI K)|f=>BI K f ρ H):=by
  intro e
  induction e with
  |nil=>intro _ _ _ kk;exact kk
  |cons p e ih =>
   intro D0 o2 o3 kk
   refine Q9 ?_
   show if decide (v<=p.2)=true then K (.int (max p.1 v)) H else Bm _ _ (e.map BW) [some D0,some (.int v),some (.int p.1),some (.int p.2),none] H _
   unfold CZ at kk
   exact BB (λc=>by rw[if_pos c] at kk;exact kk) (λc=>by rw[if_neg c] at kk;exact ih _ _ _ kk)
 exact main d _ _ _ kk
theorem g7(k:Nat)(o:Option Int):CG k (Nl o)=true:=by cases o<;>cases k<;>rfl
theorem g8(P:AS B cS cC cI){d:Bb}{v:Int}(kk:K (.bool (decide (CZ d v=some v))) H):AH B (n+2) "has_domains" [AG d,.int v] H K:=by
 refine Mf P ?_
 show AH B (n+1) "next_from" [AG d,.int v] H _
 refine RB P ?_
 have e:OJ (Nl (CZ d v)) (.int v)=decide (CZ d v=some v):=Fp (by cases CZ d v<;>simp[Nl])
 rw[←e] at kk
 cases h:CZ d v with
 |none=>rw[h] at kk;exact H9 rfl rfl kk
 |some i=>rw[h] at kk;exact H9 rfl rfl kk
theorem Ul(p:Int×Int):upto p.1 (p.2+1)=AC (Gi p):=by
 unfold upto AC Gi
 rw[List.map_map];rfl
theorem g9(p:Int×Int):(Gi p).length=(p.2+1-p.1).toNat:=by simp[Gi]
def iY(p:Int×Int):Prop:=BA p.1/\BA (p.2+1)
theorem C7(a b:List Int):AC a++AC b=AC (a++b):=(List.map_append ..).symm
theorem Id(P:AS B cS cC cI){d:Bb}(hl:(vals d).length<1000000)(ho:∀p∈d,iY p)(kk:K (.lst (AC (vals d))) H):AH B (n+1) "values" [AG d] H K:=by
 refine SZ P ?_
 intro a ha
 have main:∀(e:Bb) (acc:List Int) (o2 o3:Option D),(∀p∈e,iY p)->(acc++vals e).length<1000000->K (.lst (AC (acc++vals e))) H ->
   Bm (AQ B n KV) (.t [2,3]) (e.map BW) [some (AG d),some (.ref a),o2,o3,none] (H.set a (.list (AC acc)))
    (λf ρ H=>match f with| .next=>AQ B n (.cons (.freeze 1) (.cons (.ret (.var 1)) .nil)) ρ H (BI K)|f=>BI K f ρ H):=by
  intro e
  induction e with
  |nil =>
   intro acc o2 o3 _ _ kk
   rw[show vals []=[] from rfl,List.append_nil] at kk
   refine Gk (KH.set_self ..) ?_
   show K (.lst _) ((H.set a _).erase a)
   rw[KH.erase_set _ _ _ ha]
   exact kk
  |cons p e ih =>
   intro acc o2 o3 ho hl kk
   have e1:vals (p::e)=Gi p++vals e:=rfl
   rw[e1] at hl kk
   refine⟨⟨AC acc,KH.set_self ..⟩,?_⟩
   refine Ea (ho p (List.mem_cons_self ..)) λo1 o2'=>?_
   rw[←List.append_assoc] at hl kk
   refine Og (x:=p.1) (y:=p.2+1) (KH.set_self ..) ?_ o1 o2' ?_
   ·simp only[List.length_append] at hl;unfold AC;rw[List.length_map];exact AA [_,_,_] [] [.u (.p (.p Aa Ab) Af) Ao] (.u Aa Ao) rfl hl
   ·rw[KH.set_set,Ul,C7]
    exact ih _ _ _ (λq hq=>ho q (List.mem_cons_of_mem _ hq)) hl kk
 exact main d [] _ _ ho hl kk
theorem dZ(P:AS B cS cC cI){d:Bb}{k:Int}(hl:d.length<100000)(kk:K (AG (FS d k)) H):AH B (n+1) "meet" [AG d,.tup [.tup [.int k,.int k]]] H K:=by
 refine WX P ?_
 intro a ha
 refine⟨rfl,d.length+2,?_⟩
 have main:∀(rest pre acc:Bb) (m:Nat) (o5 o6:Option D) (KK:KS),d=pre++rest->rest.length<m->acc.length+rest.length<1000000 ->
   (∀i j o5 o6,KK .next [some (AG d),some (.tup [.tup [.int k,.int k]]),some (.ref a),some (.int i),some (.int j),o5,o6,none,none,none,none] (H.set a (.list ((acc++FS rest k).map BW)))) ->
   Cw (Cr B n G1) (AQ B n G2) m [some (AG d),some (.tup [.tup [.int k,.int k]]),some (.ref a),some (.int (pre.length:Int)),some (.int 0),o5,o6,none,none,none,none] (H.set a (.list (acc.map BW))) KK:=by
  intro rest
  induction rest with
  |nil =>
   intro pre acc m o5 o6 KK e hm _ hk
   cases m with
   |zero=>exact(AA [_] [] [.u Aa Am] .f rfl hm).elim
   |succ m =>
    refine B1 rfl ?_
    refine Lm ?_
    refine BB (λc=>?_) λ_=>?_
    ·rw[e,List.append_nil,List.length_map] at c;exact(AA [_] [] [.U Ag Ag] .f rfl c).elim
    ·have:=hk pre.length 0 o5 o6
     rw[FS,List.append_nil] at this
     exact this
  |cons p rest ih =>
   intro pre acc m o5 o6 KK e hm hz hk
   have hi:d[pre.length]? = some p:=by rw[e];simp
   rw[List.length_cons] at hm hz
   cases m with
   |zero=>exact(AA [_] [] [.u (.p Aa Ae) Am] .f rfl hm).elim
   |succ m =>
    refine B1 rfl ?_
    refine Lm ?_
    refine BB (λ_=>?_) λc=>?_
    ·refine B1 rfl ?_
     refine Lm ?_
     refine AP (e:=BW p) rfl (Cu hi) ?_
     refine AP (e:=.int p.1) rfl rfl ?_
     refine AP (e:=.tup [.int k,.int k]) rfl rfl ?_
     refine AP (e:=.int k) rfl rfl ?_
     refine AP (e:=BW p) rfl (Cu hi) ?_
     refine AP (e:=.int p.2) rfl rfl ?_
     refine AP (e:=.tup [.int k,.int k]) rfl rfl ?_
     refine AP (e:=.int k) rfl rfl ?_
     refine⟨rfl,?_⟩
     have nxt:∀(mO:Bb),mO=acc++(if max p.1 k<=min p.2 k then [(max p.1 k,min p.2 k)] else [])->mO.length<=acc.length+1 ->
       AQ B n (.cons (.ite (.cmp (.sub (.sub (.var 0) (.var 3)) (.int 1)) .Lt (.sub (.sub (.var 1) (.var 4)) (.int 1))) (.cons (.asg (.v 3) (.bin .Add (.var 3) (.int 1))) .nil) (.cons (.asg (.v 4) (.bin .Add (.var 4) (.int 1))) .nil)) .nil)
        [some (AG d),some (.tup [.tup [.int k,.int k]]),some (.ref a),some (.int (pre.length:Int)),some (.int 0),some (.int (max p.1 k)),some (.int (min p.2 k)),none,none,none,none] (H.set a (.list (mO.map BW)))
        λf ρ2 H0b=>match f with
         |.next=>Cw (Cr B n G1) (AQ B n G2) m ρ2 H0b KK
         |.cont=>Cw (Cr B n G1) (AQ B n G2) m ρ2 H0b KK
         |.brk=>KK .next ρ2 H0b
         |.ret d=>KK (.ret d) ρ2 H0b:=by
      intro mO e' hl'
      refine AP (e:=BW p) rfl (Cu hi) ?_
      refine AP (e:=.int p.2) rfl rfl ?_
      refine AP (e:=.tup [.int k,.int k]) rfl rfl ?_
      refine AP (e:=.int k) rfl rfl ?_
      refine Lm ?_
      refine BB (λc=>?_) λc=>?_
      ·have:=ih (pre++[p]) mO m (some (.int (max p.1 k))) (some (.int (min p.2 k))) KK (by rw[e];simp) (by exact AA [_,_] [] [.u (.p Aa Ae) (.p Ab Ae)] (.u Aa Ab) rfl hm) (by exact AA [_,_,_] [] [.l Aa (.p Af Ae),.u (.p Af (.p Ab Ae)) Ao] (.u (.p Aa Ab) Ao) rfl hl' hz) λi j o5 o6=>by
        have:=hk i j o5 o6
        rw[FS,if_pos c,←List.append_assoc,←e'] at this
        exact this
       rw[List.length_append] at this
       exact this
      ·cases m with
       |zero=>exact(AA [_] [] [.u (.p Aa Ae) (.p Am Ae)] .f rfl hm).elim
       |succ m =>
        refine B1 rfl ?_
        refine Lm ?_
        refine BB (λ_=>?_) λ_=>?_
        ·refine B1 rfl ?_
         refine Lm ?_
         have:=hk pre.length 1 (some (.int (max p.1 k))) (some (.int (min p.2 k)))
         rw[FS,if_neg c,List.append_nil,←e'] at this
         exact this
        ·have:=hk pre.length 1 (some (.int (max p.1 k))) (some (.int (min p.2 k)))
         rw[FS,if_neg c,List.append_nil,←e'] at this
         exact this
     refine Q9 ?_
     refine BB (λc=>?_) λc=>?_
     ·refine⟨⟨_,KH.set_self ..⟩,?_⟩
      refine Ca (KH.set_self ..) (by rw[List.length_map];exact AA [_,_] [] [.u (.p Aa (.p Ab Ae)) Ao] (.u Aa Ao) rfl hz) ?_
      rw[KH.set_set]
      have:=nxt (acc++[(max p.1 k,min p.2 k)]) (by rw[if_pos c]) (by rw[List.length_append];simp)
      rw[List.map_append] at this
      exact this
     ·exact nxt acc (by rw[if_neg c,List.append_nil]) (by exact AA [_] [] [] (.l Aa (.p Aa Ae)) rfl)
    ·rw[e,List.length_map] at c;simp at c;exact(AA [_,_] [] [.L (.p Al (.p Ag Ah)) Al] .f rfl c).elim
 exact main d [] [] _ none none _ rfl (by exact AA [_] [] [] (.u Aa (.p Aa Ar)) rfl) (by simp;exact AA [_] [] [.u Aa A4] (.u Aa Ao) rfl hl) λi j o5 o6=>by
  refine Gk (KH.set_self ..) ?_
  show Ly (.lst ((FS d k).map BW)) ((H.set a _).erase a) _
  rw[KH.erase_set _ _ _ ha]
  exact B5 rfl kk
theorem hG{s:Str}(h1:CG AY (.str s)=true)(h:k true):CA .Eq (.str s) (.str s) k:=H9 h1 h1 (by rw[(CF _ _).mpr rfl];exact h)
theorem hJ{s t:Str}(h1:CG AY (.str s)=true)(h2:CG AY (.str t)=true)(hn:s≠t)(h:k false):CA .Eq (.str s) (.str t) k:=H9 h1 h2 (by rw[(I4 _ _).mpr (λe=>hn (D.str.inj e))];exact h)
theorem WY:∀s:Sg,CG AY (.str s.str)=true
 |.le=>by decide +kernel
 |.ge=>by decide +kernel
 |.eq=>by decide +kernel
 |.ne=>by decide +kernel
theorem hM{s t:Sg}(h:s≠t):s.str≠t.str:=by
 cases s<;>cases t<;>first|exact absurd rfl h|decide +kernel
theorem QH{s t:Sg}(h1:s=t->k true)(h2:s≠t->k false):CA .Eq (.str s.str) (.str t.str) k:=by
 by_cases e:s=t
 ·subst e;exact hG (WY _) (h1 rfl)
 ·exact hJ (WY _) (WY _) (hM e) (h2 e)
theorem Sc(P:AS B cS cC cI){l:CQ}(kk:K (BL l.neg) H):AH B (n+1) "negation" [BL l] H K:=by
 refine QG P ?_
 refine QH (s:=l.s) (t:=.le) (λe=>?_) λe1=>?_
 ·unfold CQ.neg at kk;rw[e] at kk;exact kk
 refine QH (s:=l.s) (t:=.ge) (λe=>?_) λe2=>?_
 ·unfold CQ.neg at kk;rw[e] at kk;exact kk
 refine QH (s:=l.s) (t:=.eq) (λe=>?_) λe3=>?_
 ·unfold CQ.neg at kk;rw[e] at kk;exact kk
 ·have e:l.s= .ne:=by cases h:l.s<;>first|exact absurd h e1|exact absurd h e2|exact absurd h e3|rfl
  unfold CQ.neg at kk;rw[e] at kk;exact kk
theorem WZ(P:AS B cS cC cI){l:CQ}{d:Bb}(hl:d.length<100000)(kk:K (AG (B2 l d)) H):AH B (n+3) "struck" [BL l,AG d] H K:=by
 refine Sa P ?_
 refine AP (e:=.str l.s.str) rfl rfl ?_
 refine AP (e:=.int l.k) rfl rfl ?_
 refine⟨rfl,?_⟩
 unfold B2 at kk
 refine QH (s:=l.s) (t:=.le) (λe=>?_) λe1=>?_
 ·show AH B (n+2) "up_to" [AG d,.int l.k] H _
  rw[e] at kk
  exact Tj P (by exact AA [_] [] [.u Aa A4] (.u Aa Ao) rfl hl) kk
 refine QH (s:=l.s) (t:=.ge) (λe=>?_) λe2=>?_
 ·show AH B (n+2) "from_on" [AG d,.int l.k] H _
  rw[e] at kk
  exact PK P (by exact AA [_] [] [.u Aa A4] (.u Aa Ao) rfl hl) kk
 refine QH (s:=l.s) (t:=.eq) (λe=>?_) λe3=>?_
 ·show AH B (n+2) "meet" [AG d,.tup [.tup [.int l.k,.int l.k]]] H _
  rw[e] at kk
  exact dZ P hl kk
 ·have e:l.s= .ne:=by cases h:l.s<;>first|exact absurd h e1|exact absurd h e2|exact absurd h e3|rfl
  show AH B (n+2) "without" [AG d,.int l.k] H _
  rw[e] at kk
  exact Uk P hl kk
theorem AZ(h:H a=some (.list ds)):BC H (.ref a)=some (true,ds):=by unfold BC;simp only[h]
theorem Wd{l:Addr}{x:Int}{e:D}{k:KH->Prop}(hl:H l=some (.list ds))(h1 : -(ds.length:Int)<=x/\x<ds.length)(h:k (H.set l (.list (ds.set (if 0<=x then x.toNat else (x+ds.length).toNat) e)))):TF l (.int x) e H k:=.list hl rfl h1.1 h1.2 h
theorem QI{α:Type}{q:List α}{p:α}{f:α->D}:T7 ((q++[p]).map f) (-1)=some (f p):=by
 unfold T7
 rw[if_neg (by decide),if_pos (by simp;exact AA [] [_] [.L Ak Ac] (.L Ah (.p Ac Ah)) rfl (Int.natCast_nonneg _))]
 have e:((-1:Int)+((q++[p]).map f).length).toNat=(q.map f).length:=by simp;exact M4 ((Int.le_total 0 _).elim (λmH=>AA [_,_] [] [.E Ag (.p (.g Ah) (.p Al Ah))] (.l Aa Ab) rfl (Int.toNat_of_nonneg mH)) (λmH=>AA [_,_] [] [.e Aa Am] (.l Aa Ab) rfl (Int.toNat_of_nonpos mH))) (AA [_,_] [] [.L (.p (.g Ah) (.p Al Ah)) Ag] (.l Ab Aa) rfl (Int.self_le_toNat _))
 rw[e]
 simp
theorem Wg{α:Type}{q:List α}{p r:α}{f:α->D}:((q++[p]).map f).set (if 0<=(-1:Int) then (-1:Int).toNat else ((-1:Int)+((q++[p]).map f).length).toNat) (f r)=(q++[r]).map f:=by
 rw[if_neg (by decide)]
 have e:((-1:Int)+((q++[p]).map f).length).toNat=(q.map f).length:=by simp;exact M4 ((Int.le_total 0 _).elim (λmH=>AA [_,_] [] [.E Ag (.p (.g Ah) (.p Al Ah))] (.l Aa Ab) rfl (Int.toNat_of_nonneg mH)) (λmH=>AA [_,_] [] [.e Aa Am] (.l Aa Ab) rfl (Int.toNat_of_nonpos mH))) (AA [_,_] [] [.L (.p (.g Ah) (.p Al Ah)) Ag] (.l Ab Aa) rfl (Int.self_le_toNat _))
 rw[e]
 simp
theorem QJ(P:AS B cS cC cI){d:Bb}{lo hi:Int}(ha:H a=some (.list (d.map BW)))(hl:d.length<1000000)(kk:K .none (H.set a (.list ((CC d lo hi).map BW)))):AH B (n+1) "put_behind" [.ref a,.int lo,.int hi] H K:=by
 refine Nf P ?_
 have sq:BC H (.ref a)=some (true,d.map BW):=AZ ha
 have C5:CC d lo hi=d++[(lo,hi)]->(∃es,H a=some (.list es))/\JL a (BW (lo,hi)) H λ_ H=>K .none H:=by
  intro e
  refine⟨⟨_,ha⟩,Ca ha (by rw[List.length_map];exact hl) ?_⟩
  rw[e,List.map_append] at kk
  exact kk
 refine B1 sq ?_
 refine Uj ?_
 rcases List.eq_nil_or_concat d with rfl|⟨q,p,rfl⟩
 ·exact C5 rfl
 ·rw[List.concat_eq_append] at *
  have gl:(q++[p]).getLast? = some p:=by simp
  have dl:(q++[p]).dropLast=q:=by simp
  unfold CC at kk C5
  simp only[gl,dl] at kk C5
  refine BB (λ_=>?_) λc=>?_
  ·refine AP (e:=BW p) sq QI ?_
   refine AP (e:=.int p.2) rfl rfl ?_
   refine Q9 ?_
   refine BB (λc=>?_) λc=>?_
   ·rw[if_pos c] at kk
    refine AP (e:=BW p) sq QI ?_
    refine AP (e:=.int p.2) rfl rfl ?_
    refine Uj ?_
    refine BB (λc=>?_) λc=>?_
    ·rw[if_pos c] at kk
     refine AP (e:=BW p) sq QI ?_
     refine AP (e:=.int p.1) rfl rfl ?_
     refine Wd (x:=-1) ha ⟨by simp;exact AA [] [_] [.L Ak Ac] (.L Ah (.p Ac Ah)) rfl (Int.natCast_nonneg _),by simp;exact AA [_] [] [] (.U (.g Ah) (.p Ag Ah)) rfl⟩ ?_
     have:=Wg (q:=q) (p:=p) (r:=(p.1,hi)) (f:=BW)
     rw[←this] at kk
     exact kk
    ·rw[if_neg c] at kk
     rw[KH.set_same _ _ _ ha] at kk
     exact kk
   ·exact C5 (by rw[if_neg c])
  ·exfalso;apply c;simp
theorem Oh(P:AS B cS cC cI)(h1:ns.Pairwise (·<=·))(h2:ns.length<64)(kk:K (AG (Q8 ns)) H):AH B (n+2) "from_values" [.lst (AC ns)] H K:=by
 refine Ma P ?_
 intro a ha
 refine⟨ns,rfl,h2,λns' hp hs=>?_⟩
 obtain rfl:ns'=ns:=hp.eq_of_pairwise (λx y _ _ a b=>Int.le_antisymm a b) hs h1
 have main:∀(ms:List Int) (d:Bb) (o:Option D),d.length+ms.length<100->K (AG (ms.foldl (λd v=>CC d v v) d)) H ->
   Bm (AQ B (n+1) Fl) (.v 2) (AC ms) [some (.lst (AC ns')),some (.ref a),o,none,none,none] (H.set a (.list (d.map BW)))
    (λf ρ H=>match f with| .next=>AQ B (n+1) (.cons (.freeze 1) (.cons (.ret (.blt .tuple (.cons (.var 1) .nil))) .nil)) ρ H (BI K)|f=>BI K f ρ H):=by
  intro ms
  induction ms with
  |nil =>
   intro d o _ kk
   refine Gk (KH.set_self ..) ?_
   show Ly (.lst (d.map BW)) ((H.set a _).erase a) _
   rw[KH.erase_set _ _ _ ha]
   exact B5 rfl kk
  |cons m ms ih =>
   intro d o hl kk
   rw[List.length_cons] at hl
   show AH B (n+1) "put_behind" [.ref a,.int m,.int m] (H.set a (.list (d.map BW))) _
   refine QJ P (KH.set_self ..) (by exact AA [_,_] [] [.u (.p Aa (.p Ab Ae)) Av] (.u Aa Ao) rfl hl) ?_
   rw[KH.set_set]
   have hle:(CC d m m).length<=d.length+1:=by
    unfold CC
    split
    ·split
     ·split
      ·simp
      ·exact AA [_] [] [] (.l Aa (.p Aa Ae)) rfl
     ·simp
    ·simp
   exact ih (CC d m m) _ (by exact AA [_,_,_] [] [.l Aa (.p Af Ae),.u (.p Af (.p Ab Ae)) Av] (.u (.p Aa Ab) Av) rfl hle hl) kk
 exact main ns' [] none (by simp;exact AA [_] [] [.u Aa (.n 64)] (.u Aa Av) rfl h2) kk
end
structure Qc where
 x:Nat
 old:Bb
 lit:CQ
 rs:Option (List CQ)
 sp:Int
structure St where
 doms:List Bb
 firsts:List Bb
 trail:List Qc
 marks:List Nat
 failed:Bool
 clash:List CQ
noncomputable def CU(d:Bb):Bool:=match d with
 |[p]=>decide (p.1=p.2)
 |_=>false
def EU(d:Bb)(v:Int):Bool:=decide (CZ d v=some v)
noncomputable def AL(d:Bb):Int:=match d with
 |p::_=>p.1
 |[]=>0
noncomputable def St.dom(st:St)(x:Nat):Bb:=st.doms.getD x []
noncomputable def St.fail(st:St)(c:List CQ):St:={st with failed:=true,clash:=c}
noncomputable def St.put(st:St)(e:Qc)(d:Bb):St:={st with trail:=st.trail++[e],doms:=st.doms.set e.x d}
def enter(l:CQ)(rs:Option (List CQ))(sp:Int)(st:St):Bool×St :=
 if B2 l (st.dom l.x)=[] then (false,st.fail (rs.getD []++[l.neg]))
 else if B2 l (st.dom l.x)=st.dom l.x then (true,st)
 else (true,st.put ⟨l.x,st.dom l.x,l,rs,sp⟩ (B2 l (st.dom l.x)))
def strike(l:CQ)(rs:List CQ)(st:St):Bool×St:=enter l (some rs) (-1) st
noncomputable def Ie:List Qc->List Bb->List Bb
 |[],ds=>ds
 |e::r,ds=>(Ie r ds).set e.x e.old
noncomputable def St.popTo(st:St)(m:Nat):St:={st with marks:=st.marks.dropLast,doms:=Ie (st.trail.drop m) st.doms,trail:=st.trail.take m,failed:=decide ([]∈st.firsts),clash:=[]}
noncomputable def Wh:Option (List CQ)->D
 |none=>.none
 |some ls=>.tup (ls.map BL)
def Oi(e:Qc):D:=.tup [.int e.x,AG e.old,BL e.lit,Wh e.rs,.int e.sp]
noncomputable def AE(m:Nat):D:=.int m
structure Dn where
 a:Addr
 dx:Addr
 doms:Addr
 firsts:Addr
 trail:Addr
 marks:Addr
 news:Addr
noncomputable def Dn.all(p:Dn):List Addr:=[p.a,p.dx,p.doms,p.firsts,p.trail,p.marks,p.news]
def DJ(p:Dn)(f:Bool)(c:List CQ):List (Str×D):=[("domains",.ref p.doms),("firsts",.ref p.firsts),("trail",.ref p.trail),("marks",.ref p.marks),("news",.ref p.news),("speaker",.int (-1)),("is_failed",.bool f),("clash",.tup (c.map BL))]
structure AB(C:Addr)(p:Dn)(st:St)(H:KH):Prop where
 ha:H p.a=some (.inst C p.dx)
 hx:H p.dx=some (.attrs (DJ p st.failed st.clash))
 hd:H p.doms=some (.list (st.doms.map AG))
 hf:H p.firsts=some (.list (st.firsts.map AG))
 ht:H p.trail=some (.list (st.trail.map Oi))
 hm:H p.marks=some (.list (st.marks.map AE))
 hn:H p.news=some .idict
 nd:p.all.Nodup
noncomputable def EI(p:Dn)(H H':KH):Prop:=∀b,b∉p.all->H' b=H b
theorem EI.refl(p:Dn)(H:KH):EI p H H:=λ_ _=>rfl
theorem EI.trans{p:Dn}{H0b:KH}(x:EI p H H0a)(y:EI p H0a H0b):EI p H H0b:=λb h=>(y b h).trans (x b h)
theorem EI.set{p:Dn}{A:AO}(h:b∈p.all):EI p H (H.set b A):=λc hc=>KH.set_ne _ _ λe=>hc (e▸h)
section
variable {B:Base} {cS cC cI:Addr} {n:Nat} {H H':KH} {K:D->KH->Prop} {p:Dn} {st:St}
theorem AB.agree(S:AB C p st H)(h:∀b∈p.all,H' b=H b):AB C p st H':=by
 have g:∀b,b∈p.all->H' b=H b:=h
 exact⟨(g _ (by simp[Dn.all])).trans S.ha,(g _ (by simp[Dn.all])).trans S.hx,(g _ (by simp[Dn.all])).trans S.hd,(g _ (by simp[Dn.all])).trans S.hf,(g _ (by simp[Dn.all])).trans S.ht,(g _ (by simp[Dn.all])).trans S.hm,(g _ (by simp[Dn.all])).trans S.hn,S.nd⟩
theorem AB.known(S:AB C p st H)(h:b∈p.all):H b≠none:=by
 simp only[Dn.all,List.mem_cons,List.not_mem_nil,or_false] at h
 rcases h with rfl|rfl|rfl|rfl|rfl|rfl|rfl
 ·rw[S.ha];simp
 ·rw[S.hx];simp
 ·rw[S.hd];simp
 ·rw[S.hf];simp
 ·rw[S.ht];simp
 ·rw[S.hm];simp
 ·rw[S.hn];simp
theorem AB.fresh(S:AB C p st H)(h:H b=none):b∉p.all:=λhm=>S.known hm h
theorem AB.set(S:AB C p st H){A:AO}(h:b∉p.all):AB C p st (H.set b A):=S.agree λc hc=>KH.set_ne _ _ λe=>h (e▸hc)
theorem AB.erase(S:AB C p st H)(h:b∉p.all):AB C p st (H.erase b):=S.agree λc hc=>KH.erase_ne _ λe=>h (e▸hc)
theorem AX{v:D}(S:AB C p st H)(ha:BS B.K C name=true)(hl:(DJ p st.failed st.clash).lookup name=some v)(k:K v H):Ri (.ref p.a) name H B.K K:=⟨rfl,S.ha,S.hx,hl,ha,k⟩
theorem Dw{e:D}{k:KH->Prop}(S:AB C p st H)(ha:B0 B.K C name=true)(h:k (H.set p.dx (.attrs (L1 name e (DJ p st.failed st.clash))))):Fd (.ref p.a) name e H B.K k:=⟨rfl,S.ha,S.hx,ha,(by decide:8<50),h⟩
theorem Bf{k:Addr->Prop}(S:AB C p st H)(hl:(DJ p st.failed st.clash).lookup name=none)(hm:hasM B C name)(h:k C):iH B name (.ref p.a) H k:=⟨rfl,S.ha,S.hx,hl,hm,h⟩
theorem FT(k:Nat)(d:Bb):CG (k+2) (AG d)=true:=by
 show Bz (k+1) (d.map BW)=true
 induction d with
 |nil=>rfl
 |cons q d ih=>show(CG (k+1) (BW q)&&Bz (k+1) (d.map BW))=true;rw[ih];cases k<;>rfl
theorem RC{a b:Int×Int}(h:BW a=BW b):a=b:=by
 obtain⟨a1,a2⟩:=a;obtain⟨b1,b2⟩:=b
 simp[BW] at h;rw[h.1,h.2]
theorem Mv{α β:Type}{f:α->β}(hf:∀a b,f a=f b->a=b):∀{xs ys:List α},xs.map f=ys.map f->xs=ys
 |[],[],_=>rfl
 |[],_::_,h=>by cases h
 |_::_,[],h=>by cases h
 |x::xs,y::ys,h=>by
  rw[List.map_cons,List.map_cons] at h
  refine Ea (List.cons.inj h) λh1 h2=>?_
  rw[hf _ _ h1,Mv hf h2]
theorem Jv{d e:Bb}(h:AG d=AG e):d=e:=Mv (λ_ _=>RC) (D.tup.inj h)
theorem Ig(P:AS B cS cC cI)(S:AB cS p st H)(k:K (.int st.doms.length) H):AJ B (n+1) cS "size" [.ref p.a] H K:=by
 refine Ng P ?_
 refine AX (v:=.ref p.doms) S P.jp rfl ?_
 refine B1 (AZ S.hd) ?_
 rw[List.length_map];exact k
theorem Z4(P:AS B cS cC cI)(S:AB cS p st H)(k:K (.int st.marks.length) H):AJ B (n+1) cS "depth" [.ref p.a] H K:=by
 refine Md P ?_
 refine AX (v:=.ref p.marks) S P.ju rfl ?_
 refine B1 (AZ S.hm) ?_
 rw[List.length_map];exact k
theorem C8{x:Nat}(hx:x<st.doms.length):st.doms[x]? = some (st.dom x):=by
 unfold St.dom;rw[List.getD_eq_getElem?_getD,List.getElem?_eq_getElem hx];rfl
theorem RD(P:AS B cS cC cI)(S:AB cS p st H){x:Nat}(hx:x<st.doms.length)(k:K (AG (st.dom x)) H):AJ B (n+1) cS "dom" [.ref p.a,.int x] H K:=by
 refine OX P ?_
 refine AX (v:=.ref p.doms) S P.jp rfl ?_
 exact AP (AZ S.hd) (Cu (C8 hx)) k
theorem Um(P:AS B cS cC cI)(S:AB cS p st H){x:Nat}{d:Bb}(hx:st.firsts[x]? = some d)(k:K (AG d) H):AJ B (n+1) cS "initial" [.ref p.a,.int x] H K:=by
 refine Ks P ?_
 refine AX (v:=.ref p.firsts) S P.j2 rfl ?_
 exact AP (AZ S.hf) (Cu hx) k
theorem Nm(P:AS B cS cC cI)(S:AB cS p st H){x:Nat}{v:Int}(hx:x<st.doms.length)(k:K (.bool (EU (st.dom x) v)) H):AJ B (n+3) cS "has" [.ref p.a,.int x,.int v] H K:=by
 refine OY P ?_
 refine AX (v:=.ref p.doms) S P.jp rfl ?_
 refine AP (e:=AG (st.dom x)) (AZ S.hd) (Cu (C8 hx)) ?_
 show AH B (n+2) "has_domains" [AG (st.dom x),.int v] H _
 exact g8 P k
theorem Jw(P:AS B cS cC cI)(S:AB cS p st H){x:Nat}(hx:x<st.doms.length)(k:K (.bool (CU (st.dom x))) H):AJ B (n+1) cS "is_fixed" [.ref p.a,.int x] H K:=by
 refine Ju P ?_
 refine AX (v:=.ref p.doms) S P.jp rfl ?_
 refine AP (e:=AG (st.dom x)) (AZ S.hd) (Cu (C8 hx)) ?_
 refine B1 (d:=AG (st.dom x)) rfl ?_
 match h:st.dom x with
 |[] =>
  rw[h] at k
  exact DI k
 |[q] =>
  rw[h] at k
  refine DI ?_
  refine AP (d:=AG [q]) (e:=BW q) rfl rfl ?_
  refine AP (d:=BW q) (e:=.int q.1) rfl rfl ?_
  refine AP (d:=AG [q]) (e:=BW q) rfl rfl ?_
  refine AP (d:=BW q) (e:=.int q.2) rfl rfl ?_
  exact DI k
 |q::r::t =>
  rw[h] at k
  refine H9 (CP ..) (CP ..) ?_
  rw[(I4 _ _).mpr (λe=>by have:=D.int.inj e;simp at this;exact AA [] [_] [.E (.p (.p Ac Ah) Ah) Ah,.L Ak Ac] .f rfl this (Int.natCast_nonneg _))]
  exact k
theorem QK(P:AS B cS cC cI)(S:AB cS p st H){x:Nat}(hx:x<st.doms.length)(hne:st.dom x≠[])(k:K (.int (AL (st.dom x))) H):AJ B (n+1) cS "value" [.ref p.a,.int x] H K:=by
 refine Mb P ?_
 refine AX (v:=.ref p.doms) S P.jp rfl ?_
 refine AP (e:=AG (st.dom x)) (AZ S.hd) (Cu (C8 hx)) ?_
 match h:st.dom x with
 |[]=>exact absurd h hne
 |q::t =>
  rw[h] at k
  refine AP (d:=AG (q::t)) (e:=BW q) rfl rfl ?_
  exact AP (d:=BW q) (e:=.int q.1) rfl rfl k
end
theorem hO{l:List Addr}(h:l.Nodup)(hi:l[i]? = some a)(hj:l[j]? = some b)(hij:i≠j):a≠b:=by
 rintro rfl
 have hp:=List.pairwise_iff_getElem.mp h
 obtain⟨h1,e1⟩:=List.getElem?_eq_some_iff.mp hi
 obtain⟨h2,e2⟩:=List.getElem?_eq_some_iff.mp hj
 rcases Nat.lt_or_gt_of_ne hij with q|q
 ·exact hp i j h1 h2 q (e1.trans e2.symm)
 ·exact hp j i h2 h1 q (e2.trans e1.symm)
noncomputable def Ext(H H':KH):Prop:=∀b A,H b=some A->H' b=some A
theorem Ext.refl(H:KH):Ext H H:=λ_ _ h=>h
theorem Ext.trans{H0b:KH}(x:Ext H H0a)(y:Ext H0a H0b):Ext H H0b:=λb A h=>y b A (x b A h)
theorem Ext.free(x:Ext H H')(h:H' b=none):H b=none:=by
 cases e:H b with
 |none=>rfl
 |some A=>rw[x b A e] at h;exact sN h
theorem Ext.set(x:Ext H H'){A:AO}(h:H a=none):Ext H (H'.set a A):=λb B e=>(KH.set_ne _ _ (by rintro rfl;rw[h] at e;exact nS e)).trans (x b B e)
structure J2(H:KH)(l:List (Addr×AO)):Prop where
 nd:(l.map (·.1)).Nodup
 all:∀q∈l,H q.1=some q.2
theorem J2.new{x:Addr×AO}{A:AO}(h:J2 H (x::l))(ha:H a=none):J2 (H.set a A) (x::(a,A)::l):=by
 have hne:∀q∈x::l,q.1≠a:=λq hq e=>by have:=h.all q hq;rw[e,ha] at this;exact nS this
 have nd:=h.nd
 rw[List.map_cons,List.nodup_cons] at nd
 refine⟨?_,λq hq=>?_⟩
 ·rw[List.map_cons,List.map_cons,List.nodup_cons,List.nodup_cons]
  refine⟨λhm=>?_,λhm=>?_,nd.2⟩
  ·rcases List.mem_cons.mp hm with e|hm
   ·exact hne x (List.mem_cons_self ..) e
   ·exact nd.1 hm
  ·refine BG (List.mem_map.mp hm) λq hq e=>?_
   exact hne q (List.mem_cons_of_mem _ hq) e
 ·rcases List.mem_cons.mp hq with rfl|hq
  ·exact(KH.set_ne _ _ (hne _ (List.mem_cons_self ..))).trans (h.all _ (List.mem_cons_self ..))
  rcases List.mem_cons.mp hq with rfl|hq
  ·exact KH.set_self ..
  ·exact(KH.set_ne _ _ (hne _ (List.mem_cons_of_mem _ hq))).trans (h.all _ (List.mem_cons_of_mem _ hq))
theorem J2.head{A A':AO}(h:J2 H ((a,A)::l)):J2 (H.set a A') ((a,A')::l):=by
 have nd:=h.nd
 rw[List.map_cons,List.nodup_cons] at nd
 refine⟨h.nd,λq hq=>?_⟩
 rcases List.mem_cons.mp hq with rfl|hq
 ·exact KH.set_self ..
 ·exact(KH.set_ne _ _ λe=>nd.1 (List.mem_map.mpr ⟨q,hq,e⟩)).trans (h.all q (List.mem_cons_of_mem _ hq))
theorem J2.two{A A':AO}(h:b≠a):J2 ((H.set a A).set b A') [(a,A),(b,A')]:=by
 refine⟨by simpa using (Ne.symm h),λq hq=>?_⟩
 rcases List.mem_cons.mp hq with rfl|hq
 ·exact(KH.set_ne _ _ (Ne.symm h)).trans (KH.set_self ..)
 rcases List.mem_cons.mp hq with rfl|hq
 ·exact KH.set_self ..
 ·cases hq
theorem set_same{α:Type}:∀{l:List α} {i:Nat} {a:α},l[i]? = some a->l.set i a=l
 |_::_,0,_,h=>by cases h;rfl
 |x::l,i+1,a,h=>congrArg (x::·) (set_same (l:=l) h)
theorem PL:∀{l:List Addr} {i:Nat} {a:Addr},l.Nodup->a∉l->(l.set i a).Nodup
 |[],_,_,h,_=>h
 |x::l,0,a,h,ha=>List.nodup_cons.mpr ⟨λm=>ha (List.mem_cons_of_mem _ m),(List.nodup_cons.mp h).2⟩
 |x::l,i+1,a,h,ha=>List.nodup_cons.mpr ⟨λm=>(List.mem_or_eq_of_mem_set m).elim (List.nodup_cons.mp h).1 λe=>ha (e▸List.mem_cons_self ..),PL (List.nodup_cons.mp h).2 λm=>ha (List.mem_cons_of_mem _ m)⟩
theorem J2.get{q:Addr×AO}(h:J2 H l)(hi:l[i]? = some q):H q.1=some q.2:=h.all _ (List.mem_of_getElem? hi)
theorem J2.notin(h:J2 H l)(ha:H a=none):a∉l.map (·.1):=λm=>by
 refine BG (List.mem_map.mp m) λq hq mN=>?_;subst mN
 rw[h.all q hq] at ha;exact sN ha
theorem J2.at{A A':AO}(h:J2 H l)(hi:l[i]? = some (a,A)):J2 (H.set a A') (l.set i (a,A')):=by
 refine⟨?_,λq hq=>?_⟩
 ·rw[List.map_set,set_same (by rw[List.getElem?_map,hi];rfl)];exact h.nd
 ·refine Ex (List.mem_iff_getElem?.mp hq) λj hj=>?_
  by_cases e:i=j
  ·subst e
   rw[List.getElem?_set_self (List.getElem?_eq_some_iff.mp hi).1] at hj
   obtain rfl:=Option.some.inj hj;exact KH.set_self ..
  ·rw[List.getElem?_set_ne e] at hj
   exact(KH.set_ne _ _ (hO h.nd (i:=j) (j:=i) (by rw[List.getElem?_map,hj];rfl) (by rw[List.getElem?_map,hi];rfl) (Ne.symm e))).trans (h.all _ (List.mem_of_getElem? hj))
theorem J2.put{A:AO}(h:J2 H l)(ha:H a=none):J2 (H.set a A) (l.set i (a,A)):=by
 refine⟨?_,λq hq=>?_⟩
 ·rw[List.map_set];exact PL h.nd (h.notin ha)
 ·rcases List.mem_or_eq_of_mem_set hq with hq|rfl
  ·exact(KH.set_ne _ _ λe=>h.notin ha (List.mem_map.mpr ⟨q,hq,e⟩)).trans (h.all _ hq)
  ·exact KH.set_self ..
def jW(C:Addr)(p:Dn)(st:St):List (Addr×AO):=[(p.a,.inst C p.dx),(p.dx,.attrs (DJ p st.failed st.clash)),(p.doms,.list (st.doms.map AG)),(p.firsts,.list (st.firsts.map AG)),(p.trail,.list (st.trail.map Oi)),(p.marks,.list (st.marks.map AE)),(p.news,.idict)]
section
variable {C:Addr} {H:KH} {p:Dn} {st:St}
theorem AB.has(S:AB C p st H):J2 H (jW C p st):=by
 refine⟨S.nd,?_⟩
 unfold jW
 simp only[List.forall_mem_cons]
 exact⟨S.ha,S.hx,S.hd,S.hf,S.ht,S.hm,S.hn,λ_ h=>(nomatch h)⟩
theorem Jx(h:J2 H (jW C p st)):AB C p st H:=⟨h.get (i:=0) rfl,h.get (i:=1) rfl,h.get (i:=2) rfl,h.get (i:=3) rfl,h.get (i:=4) rfl,h.get (i:=5) rfl,h.get (i:=6) rfl,h.nd⟩
theorem AB.attr(S:AB C p st H)(f:Bool)(c:List CQ):AB C p {st with failed:=f,clash:=c} (H.set p.dx (.attrs (DJ p f c))):=Jx (S.has.at (i:=1) rfl)
theorem AB.doms(S:AB C p st H)(ds:List Bb):AB C p {st with doms:=ds} (H.set p.doms (.list (ds.map AG))):=Jx (S.has.at (i:=2) rfl)
theorem AB.firsts(S:AB C p st H)(ds:List Bb):AB C p {st with firsts:=ds} (H.set p.firsts (.list (ds.map AG))):=Jx (S.has.at (i:=3) rfl)
theorem AB.trail(S:AB C p st H)(ts:List Qc):AB C p {st with trail:=ts} (H.set p.trail (.list (ts.map Oi))):=Jx (S.has.at (i:=4) rfl)
theorem AB.marks(S:AB C p st H)(ms:List Nat):AB C p {st with marks:=ms} (H.set p.marks (.list (ms.map AE))):=Jx (S.has.at (i:=5) rfl)
end
section
variable {B:Base} {cS cC cI:Addr} {n:Nat} {H H':KH} {K:D->KH->Prop} {p:Dn} {st:St}
theorem Wj:p.dx∈p.all:=by simp[Dn.all]
theorem Se:p.doms∈p.all:=by simp[Dn.all]
theorem Wk:p.firsts∈p.all:=by simp[Dn.all]
theorem Tk:p.trail∈p.all:=by simp[Dn.all]
theorem Z5:p.marks∈p.all:=by simp[Dn.all]
abbrev FU(C:Addr)(p:Dn)(st':St)(H:KH)(k:KH->Prop):Prop:=∀H',AB C p st' H'->EI p H H'->k H'
theorem Sf(P:AS B cS cC cI){c:List CQ}(S:AB cS p st H)(k:FU cS p (st.fail c) H (K (.bool false))):AJ B (n+1) cS "fail" [.ref p.a,.tup (c.map BL)] H K:=by
 refine Nh P ?_
 refine Dw S P.jy ?_
 have S1:=S.attr true st.clash
 refine B5 (d:=.tup (c.map BL)) rfl ?_
 refine Dw S1 P.j4 ?_
 exact k _ (S1.attr true c) ((EI.set Wj).trans (EI.set Wj))
theorem da(P:AS B cS cC cI)(S:AB cS p st H)(hz:st.marks.length<1000)(k:FU cS p {st with marks:=st.marks++[st.trail.length]} H (K .none)):AJ B (n+1) cS "push" [.ref p.a] H K:=by
 refine Ni P ?_
 refine AX (v:=.ref p.marks) S P.ju rfl ?_
 refine⟨⟨_,S.hm⟩,?_⟩
 refine AX (v:=.ref p.trail) S P.jo rfl ?_
 refine B1 (AZ S.ht) ?_
 refine Ca S.hm (by rw[List.length_map];exact AA [_] [] [.u Aa Aj] (.u Aa Ao) rfl hz) ?_
 have S1:=S.marks (st.marks++[st.trail.length])
 rw[List.map_append] at S1
 rw[List.length_map]
 exact k _ S1 (EI.set Z5)
theorem Tl{d:Bb}:AG d= .tup []↔d=[]:=by
 constructor
 ·intro h;exact Jv (e:=[]) h
 ·rintro rfl;rfl
theorem db{l:Addr}{x:Nat}{e:D}{k:KH->Prop}(hl:H l=some .idict)(h1:x<100)(h:k H):TF l (.int x) e H k:=.idict hl rfl (Int.natCast_nonneg _) (Int.ofNat_lt.mpr h1) h
theorem QL{α:Type}{f:α->D}{xs:List α}{l:Addr}{x:Nat}{e:α}{k:KH->Prop}(hl:H l=some (.list (xs.map f)))(h1:x<xs.length)(h:k (H.set l (.list ((xs.set x e).map f)))):TF l (.int x) (f e) H k:=by
 refine Wd hl ⟨by exact AA [_,_] [] [] (.L (.g Ag) Al) rfl,by rw[List.length_map];exact AA [_,_] [] [.u Aa Ab] (.U Ag Al) rfl h1⟩ ?_
 rw[if_pos (by exact AA [] [_] [.L Ak Ac] (.L Ak Ac) rfl (Int.natCast_nonneg _)),Int.toNat_natCast]
 rw[List.map_set] at h
 exact h
theorem Wl(h:k true):CA .Is .none .none k:=by unfold CA;exact h
theorem PM(h:k false):CA .Is (.tup ds) .none k:=by unfold CA;exact h
theorem Tm(P:AS B cS cC cI){l:CQ}{rs:Option (List CQ)}{sp:Int}(S:AB cS p st H)(hx:l.x<st.doms.length)(h100:l.x<100)(hl:(st.dom l.x).length<100000)(ht:st.trail.length<1000000)(hr:(rs.getD []).length<100000)
  (k:FU cS p (enter l rs sp st).2 H (K (.bool (enter l rs sp st).1))):AJ B (n+4) cS "enter" [.ref p.a,BL l,Wh rs,.int sp] H K:=by
 refine Mc P ?_
 refine AP (d:=BL l) (e:=.int l.x) rfl rfl ?_
 refine AX (v:=.ref p.doms) S P.jp rfl ?_
 refine AP (e:=AG (st.dom l.x)) (AZ S.hd) (Cu (C8 hx)) ?_
 show AH B (n+3) "struck" [BL l,AG (st.dom l.x)] H _
 refine WZ P hl ?_
 unfold enter at k
 refine H9 (a:=AG (B2 l (st.dom l.x))) (b:=.tup []) (FT 4 _) rfl ?_
 rw[Fp Tl]
 refine BB (λc=>?_) λc=>?_
 ·rw[if_pos c] at k
  refine Bf S rfl P.j5 ?_
  have C5:AH B (n+3) "negation" [BL l] H λd H=>(((rs.getD []).map BL).length+[d].length<=1000000)/\AJ B (n+3) cS "fail" [.ref p.a,.tup ((rs.getD []).map BL++[d])] H K:=by
   refine Sc P ⟨by simp;exact AA [_] [] [.u Aa A4] (.l Aa (.n 999999)) rfl hr,?_⟩
   have:=Sf (n:=n+2) (K:=K) P (c:=rs.getD []++[l.neg]) S k
   rw[List.map_append] at this
   exact this
  cases rs with
  |none=>exact Wl C5
  |some rs=>exact PM C5
 ·rw[if_neg c] at k
  refine H9 (a:=AG (B2 l (st.dom l.x))) (b:=AG (st.dom l.x)) (FT 4 _) (FT 4 _) ?_
  rw[Fp (p:=B2 l (st.dom l.x)=st.dom l.x) ⟨Jv,λe=>by rw[e]⟩]
  refine BB (λc=>?_) λc=>?_
  ·rw[if_pos c] at k
   exact k H S (EI.refl _ _)
  ·rw[if_neg c] at k
   refine AX (v:=.ref p.trail) S P.jo rfl ?_
   refine⟨⟨_,S.ht⟩,?_⟩
   refine Ca S.ht (by rw[List.length_map];exact AA [_] [] [.u Aa Ao] (.u Aa Ao) rfl ht) ?_
   have S1:=S.trail (st.trail++[⟨l.x,st.dom l.x,l,rs,sp⟩])
   rw[List.map_append] at S1
   refine AX (v:=.ref p.doms) S1 P.jp rfl ?_
   refine QL (f:=AG) (e:=B2 l (st.dom l.x)) S1.hd hx ?_
   have S2:=S1.doms (st.doms.set l.x (B2 l (st.dom l.x)))
   refine AX (v:=.ref p.news) S2 P.lT rfl ?_
   refine db S2.hn h100 ?_
   exact k _ S2 ((EI.set Tk).trans (EI.set Se))
theorem Wm(P:AS B cS cC cI){l:CQ}{rs:List CQ}{b:Bool}(S:AB cS p st H)(hx:l.x<st.doms.length)(h100:l.x<100)(hl:(st.dom l.x).length<100000)(ht:st.trail.length<1000000)(hr:rs.length<100000)
  (hd:BC H d=some (b,rs.map BL)) (k:FU cS p (strike l rs st).2 H (K (.bool (strike l rs st).1))):AJ B (n+5) cS "strike" [.ref p.a,BL l,d] H K:=by
 refine Lf P ?_
 refine Bf S rfl P.kD ?_
 refine B5 hd ?_
 refine AX (v:=.int (-1)) S P.kS rfl ?_
 show AJ B (n+4) cS "enter" [.ref p.a,BL l,Wh (some rs),.int (-1)] H _
 exact Tm P S hx h100 hl ht hr k
theorem Wn(P:AS B cS cC cI){l:CQ}(S:AB cS p st H)(hx:l.x<st.doms.length)(h100:l.x<100)(hl:(st.dom l.x).length<100000)(ht:st.trail.length<1000000)
  (k:FU cS p (enter l none (-1) st).2 H (K (.bool (enter l none (-1) st).1))):AJ B (n+5) cS "decide" [.ref p.a,BL l] H K:=by
 refine Lg P ?_
 refine Bf S rfl P.kD ?_
 show AJ B (n+4) cS "enter" [.ref p.a,BL l,Wh none,.int (-1)] H _
 exact Tm P S hx h100 hl ht (by simp) k
end
section
variable {B:Base} {cS cC cI:Addr} {n:Nat} {H H':KH} {K:D->KH->Prop} {p:Dn} {st:St}
theorem Cp{x dx:Addr}{e:D}{k:KH->Prop}(h:J2 H ((dx,.attrs mP)::l))(hx:(x,AO.inst C dx)∈l)(hz:mP.length<50)(ha:B0 B.K C name=true)(hk:k (H.set dx (.attrs (L1 name e mP)))):Fd (.ref x) name e H B.K k:=⟨rfl,h.all _ (List.mem_cons_of_mem _ hx),h.all _ (List.mem_cons_self ..),ha,hz,hk⟩
theorem J2.last{A:AO}(h:J2 H l)(ha:H a=none):J2 (H.set a A) (l++[(a,A)]):=by
 have hn:=h.notin ha
 refine⟨?_,λq hq=>?_⟩
 ·rw[List.map_append]
  exact List.nodup_append.mpr ⟨h.nd,List.nodup_cons.mpr ⟨λm=>(nomatch m),List.nodup_nil⟩,λb hb c hc e=>by
   rw[List.mem_singleton.mp hc] at e;subst e;exact hn hb⟩
 ·rcases List.mem_append.mp hq with hq|hq
  ·exact(KH.set_ne _ _ λe=>hn (List.mem_map.mpr ⟨q,hq,e⟩)).trans (h.all _ hq)
  ·rw[List.mem_singleton.mp hq];exact KH.set_self ..
theorem Ih{H0c:KH}{x dx:Addr}{A:AO}{k:KH->Prop}(hs:B0 B.K C name=true)(hz:mP.length<50)(h1:H0c dx=none)(X:J2 H ((dx,.attrs mP)::l))(E:Ext H0c H)(hx:l[0]? = some (x,AO.inst C dx))
  (hk:∀a H',H0c a=none->J2 H' ((dx,.attrs (L1 name (.ref a) mP))::(l++[(a,A)]))->Ext H0c H'->k H'):∀a,H a=none->Fd (.ref x) name (.ref a) (H.set a A) B.K k:=by
 intro a ha
 have X1:=X.last (A:=A) ha
 have E1:=E.set (a:=a) (A:=A) (E.free ha)
 refine Cp X1 (List.mem_append_left _ (List.mem_of_getElem? hx)) hz hs ?_
 exact hk a _ (E.free ha) X1.head (E1.set h1)
theorem Nn{H0c:KH}{x dx:Addr}{e:D}{k:KH->Prop}(hs:B0 B.K C name=true)(hz:mP.length<50)(h1:H0c dx=none)(X:J2 H ((dx,.attrs mP)::l))(E:Ext H0c H)(hx:l[0]? = some (x,AO.inst C dx))
  (hk:∀H',J2 H' ((dx,.attrs (L1 name e mP))::l)->Ext H0c H'->k H'):Fd (.ref x) name e H B.K k :=
 Cp X (List.mem_of_getElem? hx) hz hs (hk _ X.head (E.set h1))
noncomputable def jX:St:=⟨[],[],[],[],false,[]⟩
theorem Z6(P:AS B cS cC cI)(k:∀p H',AB cS p jX H'->Ext H H'->(∀b∈p.all,H b=none)->K (.ref p.a) H'):AH B (n+4) "Store" [] H K:=by
 intro a ha
 obtain rfl:=P.mF a ha
 refine DO P.mB λfI i1 i2 i3=>?_
 refine Jr P.mE i1 i2 λdx x h1 h2 h3=>i3.callC rfl ?_
 have E0:Ext H ((H.set dx (.attrs [])).set x (.inst a dx)):=((Ext.refl H).set h1).set h2
 have X0:=J2.two (H:=H) (A:=.attrs []) (A':=.inst a dx) h3
 generalize (H.set dx (.attrs [])).set x (.inst a dx)=H0 at E0 X0 ⊢
 refine Ih P.kX (of_decide_eq_true rfl) h1 X0 E0 rfl λl1 H1 f1 X1 E1=>?_
 refine Ih P.lB (of_decide_eq_true rfl) h1 X1 E1 rfl λl2 H2 f2 X2 E2=>?_
 refine Ih P.lE (of_decide_eq_true rfl) h1 X2 E2 rfl λl3 H3 f3 X3 E3=>?_
 refine Ih P.kB (of_decide_eq_true rfl) h1 X3 E3 rfl λl4 H4 f4 X4 E4=>?_
 refine Ih P.kK (of_decide_eq_true rfl) h1 X4 E4 rfl λl5 H5 f5 X5 E5=>?_
 refine Nn P.kR (of_decide_eq_true rfl) h1 X5 E5 rfl λH6 X6 E6=>?_
 refine Nn P.jy (of_decide_eq_true rfl) h1 X6 E6 rfl λH7 X7 E7=>?_
 refine Nn P.j4 (of_decide_eq_true rfl) h1 X7 E7 rfl λH8 X8 E8=>?_
 have nd:=X8.nd
 have pm:List.Perm [x,dx,l1,l2,l3,l4,l5] [dx,x,l1,l2,l3,l4,l5]:=List.Perm.swap dx x _
 exact⟨rfl,k ⟨x,dx,l1,l2,l3,l4,l5⟩ _ ⟨X8.get (i:=1) rfl,X8.get (i:=0) rfl,X8.get (i:=2) rfl,X8.get (i:=3) rfl,X8.get (i:=4) rfl,X8.get (i:=5) rfl,X8.get (i:=6) rfl,pm.nodup_iff.mpr nd⟩ E8
  (List.forall_mem_cons.mpr ⟨h2,List.forall_mem_cons.mpr ⟨h1,List.forall_mem_cons.mpr ⟨f1,List.forall_mem_cons.mpr ⟨f2,List.forall_mem_cons.mpr ⟨f3,List.forall_mem_cons.mpr ⟨f4,List.forall_mem_cons.mpr ⟨f5,λ_ h=>(nomatch h)⟩⟩⟩⟩⟩⟩⟩)⟩
end
section
variable {B:Base} {cS cC cI:Addr} {n:Nat} {H H':KH} {K:D->KH->Prop} {p:Dn} {st:St}
theorem Un(P:AS B cS cC cI){d:Bb}(S:AB cS p st H)(hne:d≠[])(h1:st.doms.length<1000)(h2:st.firsts.length<1000)(k:FU cS p {st with doms:=st.doms++[d],firsts:=st.firsts++[d]} H (K (.int st.doms.length))) :
  AJ B (n+1) cS "new_var" [.ref p.a,AG d] H K:=by
 refine Kr P ?_
 refine AX (v:=.ref p.doms) S P.jp rfl ?_
 refine⟨⟨_,S.hd⟩,?_⟩
 refine Ca S.hd (by rw[List.length_map];exact AA [_] [] [.u Aa Aj] (.u Aa Ao) rfl h1) ?_
 have S1:=S.doms (st.doms++[d])
 rw[List.map_append] at S1
 refine AX (v:=.ref p.firsts) S1 P.j2 rfl ?_
 refine⟨⟨_,S1.hf⟩,?_⟩
 refine Ca S1.hf (by rw[List.length_map];exact Nat.lt_of_lt_of_le h2 (by decide)) ?_
 have S2:=S1.firsts (st.firsts++[d])
 rw[List.map_append] at S2
 refine H9 (a:=AG d) (b:=.tup []) (FT 4 _) rfl ?_
 rw[(I4 _ _).mpr λe=>hne (Tl.mp e)]
 refine AX (v:=.ref p.doms) S2 P.jp rfl ?_
 refine B1 (AZ S2.hd) ?_
 have:=k _ S2 ((EI.set Se).trans (EI.set Wk))
 have e:((((st.doms++[d]).map AG).length:Nat):Int)-1=st.doms.length:=by simp
 rw[←e] at this
 exact this
theorem Ii(a b:List Qc)(ds:List Bb):Ie (a++b) ds=Ie a (Ie b ds):=by
 induction a with
 |nil=>rfl
 |cons e a ih=>show(Ie (a++b) ds).set e.x e.old=_;rw[ih];rfl
theorem aj(a:List Qc)(ds:List Bb):(Ie a ds).length=ds.length:=by
 induction a with
 |nil=>rfl
 |cons e a ih=>show((Ie a ds).set e.x e.old).length=_;rw[List.length_set,ih]
noncomputable def Oj(p p':Dn)(H H':KH):Prop:=∀b A,H b=some A->b∉p.all->H' b=some A/\b∉p'.all
theorem EI.toN(x:EI p H H'):Oj p p H H':=λb A h hb=>⟨(x b hb).trans h,hb⟩
theorem Oj.trans{pa pb:Dn}{H0b:KH}(x:Oj p pa H H0a)(y:Oj pa pb H0a H0b):Oj p pb H H0b:=λb A h hb=>let ⟨h1,h2⟩:=x b A h hb;y b A h1 h2
theorem Oj.two{p':Dn}{A A':AO}(ha:H a=none)(hp:∀b,b∈p'.all->b=a\/b∈p.all):Oj p p' H ((H.set a A).set p.dx A'):=λb A h hb=>by
 have hba:b≠a:=by rintro rfl;rw[ha] at h;exact nS h
 exact⟨(KH.set_ne _ _ λe=>hb (by rw[e];exact Wj)).trans ((KH.set_ne _ _ hba).trans h),λhm=>(hp b hm).elim hba hb⟩
theorem AB.newMarks(S:AB C p st H)(ha:H a=none)(ms:List Nat) :
  AB C {p with marks:=a} {st with marks:=ms} ((H.set a (.list (ms.map AE))).set p.dx (.attrs (DJ {p with marks:=a} st.failed st.clash)))/\Oj p {p with marks:=a} H ((H.set a (.list (ms.map AE))).set p.dx (.attrs (DJ {p with marks:=a} st.failed st.clash))) :=
 ⟨Jx ((S.has.put (i:=5) ha).at (i:=1) rfl),.two ha λb hb=>(List.mem_or_eq_of_mem_set (l:=p.all) (i:=5) hb).symm⟩
theorem AB.newNews(S:AB C p st H)(ha:H a=none) :
  AB C {p with news:=a} st ((H.set a .idict).set p.dx (.attrs (DJ {p with news:=a} st.failed st.clash)))/\Oj p {p with news:=a} H ((H.set a .idict).set p.dx (.attrs (DJ {p with news:=a} st.failed st.clash))) :=
 ⟨Jx ((S.has.put (i:=6) ha).at (i:=1) rfl),.two ha λb hb=>(List.mem_or_eq_of_mem_set (l:=p.all) (i:=6) hb).symm⟩
theorem Wo{fr:Bool}{x:Int}(hl:H a=some (.list ds))(h0:0<=x)(h:ND fr (ds.take x.toNat) H K):Pc fr (.ref a) (.int x) H K:=.list (AZ hl) (Int.toNat_of_nonneg h0▸rfl) h
theorem Wp{x:Int}(hl:H a=some (.list ds))(h0:0<=x)(h:K (.lst (ds.drop x.toNat)) H):Rj (.ref a) (.int x) H K:=.list (AZ hl) (Int.toNat_of_nonneg h0▸rfl) h
theorem ak{e:D}(hl:H a=some (.list (ds++[e])))(h:K e (H.set a (.list ds))):XS a H K:=⟨hl,List.getLast?_concat ..,by rw[List.dropLast_concat];exact h⟩
theorem Sh{l:Addr}(hl:H l=some (.list ds)):rd H (.ref l)= .lst ds:=by unfold rd;simp only[hl]
theorem am{l:Addr}{a:D}(hl:H l=some (.list ds))(h1:CG AY a=true)(h2:Bz AY ds=true)(h:k (inB a ds)):CA .In a (rd H (.ref l)) k:=by
 rw[Sh hl];exact ai h1 h2 h
theorem dc{l:Addr}{a:D}(hl:H l=some (.list ds))(h1:CG AY a=true)(h2:Bz AY ds=true)(h:k (!inB a ds)):CA .NotIn a (rd H (.ref l)) k:=by
 rw[Sh hl];exact Sb h1 h2 h
theorem Dx(k:Nat)(ds:List Bb):Bz (k+2) (ds.map AG)=true:=by
 induction ds with
 |nil=>rfl
 |cons d ds ih=>show(CG (k+2) (AG d)&&Bz (k+2) (ds.map AG))=true;rw[ih,FT];rfl
theorem Wq{d:Bb}{ds:List Bb}:AG d∈ds.map AG↔d∈ds:=by
 rw[List.mem_map]
 exact⟨λ⟨e,h,q⟩=>Jv q▸h,λh=>⟨d,h,rfl⟩⟩
theorem hU(P:AS B cS cC cI){ms:List Nat}(S:AB cS p st H)(hms:st.marks=ms++[m])(hm:m<=st.trail.length)(hx:∀e∈st.trail,e.x<st.doms.length)
  (k:∀p' H',p'.a=p.a->AB cS p' (st.popTo m) H'->Oj p p' H H'->K .none H'):AJ B (n+1) cS "pop" [.ref p.a,.int 1] H K:=by
 refine OZ P ?_
 refine Lm ?_
 have hlen:((st.marks.map AE).length:Int)-1=ms.length:=by rw[hms];simp
 have ix:T7 (st.marks.map AE) ((st.marks.map AE).length-1:Int)=some (.int m):=by
  rw[hlen,hms]
  exact Cu (by simp)
 have tk:(st.marks.map AE).take (((st.marks.map AE).length-1:Int)).toNat=ms.map AE:=by
  rw[hlen,hms,Int.toNat_natCast,List.map_append,←List.length_map (f:=AE),List.take_left]
 refine AX (v:=.ref p.marks) S P.ju rfl ?_
 refine AX (v:=.ref p.marks) S P.ju rfl ?_
 refine B1 (AZ S.hm) ?_
 refine AP (AZ S.hm) ix ?_
 refine AX (v:=.ref p.marks) S P.ju rfl ?_
 refine AX (v:=.ref p.marks) S P.ju rfl ?_
 refine B1 (AZ S.hm) ?_
 refine Wo S.hm (by rw[hlen];exact AA [] [_] [.L Ak Ac] (.L Ak Ac) rfl (Int.natCast_nonneg _)) ?_
 intro a ha
 rw[tk]
 have S0:AB cS p st (H.set a (.list (ms.map AE))):=S.set (S.fresh ha)
 refine Dw S0 P.kB ?_
 refine Ea (S.newMarks ha ms) λS1 O1=>?_
 refine⟨st.trail.length-m+1,?_⟩
 have main:∀(j:Nat) (tr:List Qc) (ds:List Bb) (H0a:KH) (oe:Option D) (KK:KS),AB cS {p with marks:=a} {st with marks:=ms,trail:=tr,doms:=ds} H0a->tr.length=m+j->(∀e∈tr,e.x<ds.length) ->
   (∀H0b oe,AB cS {p with marks:=a} {st with marks:=ms,trail:=tr.take m,doms:=Ie (tr.drop m) ds} H0b->EI {p with marks:=a} H0a H0b->KK .next [some (.ref p.a),some (.int 1),some (.int m),oe,none] H0b) ->
   Cw (Cr B n HV) (AQ B n HW) (j+1) [some (.ref p.a),some (.int 1),some (.int m),oe,none] H0a KK:=by
  intro j
  induction j with
  |zero =>
   intro tr ds H0a oe KK S0b hl hx hk
   refine AX (p:={p with marks:=a}) (v:=.ref p.trail) S0b P.jo rfl ?_
   refine B1 (AZ S0b.ht) ?_
   refine Uj ?_
   refine BB (λc=>?_) λ_=>?_
   ·simp at c;exact(AA [_,_] [] [.u Aa Ab,.e Ab (.p Aa Am)] .f rfl c hl).elim
   ·have:=hk H0a oe
    rw[List.take_of_length_le (by exact AA [_,_] [] [.e Aa (.p Ab Am)] (.l Aa Ab) rfl hl),List.drop_of_length_le (by exact AA [_,_] [] [.e Aa (.p Ab Am)] (.l Aa Ab) rfl hl)] at this
    exact this S0b (EI.refl _ _)
  |succ j ih =>
   intro tr ds H0a oe KK S0b hl hx hk
   refine AX (p:={p with marks:=a}) (v:=.ref p.trail) S0b P.jo rfl ?_
   refine B1 (AZ S0b.ht) ?_
   refine Uj ?_
   refine BB (λ_=>?_) λc=>?_
   ·refine AX (p:={p with marks:=a}) (v:=.ref p.trail) S0b P.jo rfl ?_
    rcases List.eq_nil_or_concat tr with rfl|⟨tr',e,rfl⟩
    ·simp at hl
    rw[List.concat_eq_append] at *
    have hl':tr'.length=m+j:=by rw[List.length_append] at hl;simp at hl;exact Nat.le_antisymm (AA [_,_,_] [] [.e (.p Aa Ae) (.p Ab (.p Af Ae))] (.l Aa (.p Ab Af)) rfl hl) (AA [_,_,_] [] [.r (.p Aa Ae) (.p Ab (.p Af Ae))] (.l (.p Ab Af) Aa) rfl hl)
    have he:=hx e (by simp)
    have ht:=S0b.ht
    simp only[List.map_append] at ht
    refine ak ht ?_
    have S2:=S0b.trail tr'
    refine AP (d:=Oi e) (e:=AG e.old) rfl rfl ?_
    refine AX (p:={p with marks:=a}) (v:=.ref p.doms) S2 P.jp rfl ?_
    refine AP (d:=Oi e) (e:=.int e.x) rfl rfl ?_
    refine QL (f:=AG) (e:=e.old) S2.hd he ?_
    have S3:=S2.doms (ds.set e.x e.old)
    refine ih tr' (ds.set e.x e.old) _ _ KK S3 hl' (λe' h'=>by rw[List.length_set];exact hx e' (by simp[h'])) λH0b oe S0d O0d=>?_
    have e1:(tr'++[e]).take m=tr'.take m:=by rw[List.take_append_of_le_length (by exact AA [_,_,_] [] [.r Ab (.p Aa Af)] (.l Aa Ab) rfl hl')]
    have e2:(tr'++[e]).drop m=tr'.drop m++[e]:=by rw[List.drop_append_of_le_length (by exact AA [_,_,_] [] [.r Ab (.p Aa Af)] (.l Aa Ab) rfl hl')]
    have:=hk H0b oe
    rw[e1,e2,Ii] at this
    exact this S0d (((EI.set (Tk (p:={p with marks:=a}))).trans (EI.set (Se (p:={p with marks:=a})))).trans O0d)
   ·exfalso;apply c;simp;exact AA [_,_,_] [] [.r Ab (.p Aa (.p Af Ae))] (.u Aa Ab) rfl hl
 refine main _ _ _ _ _ _ S1 (by exact M4 (AA [_,_,_] [] [.l Aa (.p Af Ab)] (.l Aa (.p Ab Af)) rfl (J7 _ _)) (AA [_,_,_] [] [.e (.p Af Ab) Aa] (.l (.p Ab Af) Aa) rfl (IC (AA [_,_] [] [.l Ab Aa] (.l Ab Aa) rfl hm)))) hx λH0b oe S0a O0a=>?_
 intro b hb
 refine Ea (S0a.newNews hb) λS3 O3=>?_
 have S2':AB cS {p with marks:=a} {st with marks:=ms,trail:=st.trail.take m,doms:=Ie (st.trail.drop m) st.doms} (H0b.set b .idict):=S0a.set (S0a.fresh hb)
 refine Dw (p:={p with marks:=a}) S2' P.kK ?_
 refine AX (p:={p with marks:=a,news:=b}) (v:=.ref p.firsts) S3 P.j2 rfl ?_
 refine am (a:=.tup []) S3.hf rfl (Dx 4 _) ?_
 have ei:inB (.tup []) (st.firsts.map AG)=decide ([]∈st.firsts):=HD (Wq (d:=[]))
 rw[ei]
 refine Dw (p:={p with marks:=a,news:=b}) S3 P.jy ?_
 have S4:=S3.attr (decide ([]∈st.firsts)) st.clash
 refine Dw (p:={p with marks:=a,news:=b}) S4 P.j4 ?_
 have S5:=S4.attr (decide ([]∈st.firsts)) []
 refine k {p with marks:=a,news:=b} _ rfl ?_ (((O1.trans O0a.toN).trans O3).trans ((EI.set (Wj (p:={p with marks:=a,news:=b}))).trans (EI.set (Wj (p:={p with marks:=a,news:=b})))).toN)
 have e:ms=st.marks.dropLast:=by rw[hms];simp
 subst e
 exact S5
end
def Cj(sc:List Nat):List (Str×D):=[("number",.int (-1)),("scope",.tup (sc.map AE)),("strength",.str "weak")]
def HE(fs gs:List Nat):List (Str×D):=[("number",.int (-1)),("scope",.tup ((fs++gs).map AE)),("strength",.str "weak"),("fs",.tup (fs.map AE)),("gs",.tup (gs.map AE))]
structure BJ(C x dx:Addr)(mP:List (Str×D))(H:KH):Prop where
 hx:H x=some (.inst C dx)
 hd:H dx=some (.attrs mP)
section
variable {B:Base} {cS cC cI:Addr} {n:Nat} {H H':KH} {K:D->KH->Prop} {p:Dn} {st:St} {C x dx:Addr} {mP:List (Str×D)}
theorem Bl{v:D}(S:BJ C x dx mP H)(ha:BS B.K C name=true)(hl:mP.lookup name=some v)(k:K v H):Ri (.ref x) name H B.K K:=⟨rfl,S.hx,S.hd,hl,ha,k⟩
theorem Kw{k:Addr->Prop}(S:BJ C x dx mP H)(hl:mP.lookup name=none)(hm:hasM B C name)(h:k C):iH B name (.ref x) H k:=⟨rfl,S.hx,S.hd,hl,hm,h⟩
theorem Et{r:Bool×List D}(E:Ext H H')(h:BC H d=some r):BC H' d=some r:=by
 cases d with
 |ref a =>
  unfold BC at h ⊢
  dsimp only at h ⊢
  cases e:H a with
  |none=>rw[e] at h;exact nS h
  |some A=>rw[e] at h;rw[E a A e];exact h
 |_=>exact h
theorem Uo(P:AS B cS cC cI){b:Bool}(hs:BC H d=some (b,sc.map AE))(k:∀x dx H',BJ cC x dx (Cj sc) H'->Ext H H'->H x=none->H dx=none->K (.ref x) H'):AH B (n+5) "Circuit" [d] H K:=by
 intro a ha
 obtain rfl:=P.ll a ha
 refine DX P.l0 λfI fP i1 i2 i3 i4=>?_
 refine Jr P.lq i1 i2 λdx x h1 h2 h3=>i3.callC rfl rfl (KH.set_self ..) ?_
 have X0:=J2.two (H:=H) (A:=.attrs []) (A':=.inst a dx) h3
 have E0:Ext H ((H.set dx (.attrs [])).set x (.inst a dx)):=((Ext.refl H).set h1).set h2
 refine i4.callC (ds:=[.ref x,d,.str "weak"]) rfl ?_
 refine Cp X0 (by simp) (of_decide_eq_true rfl) P.kO ?_
 have X1:=X0.head (A':=.attrs [("number",.int (-1))])
 have E1:=E0.set (a:=dx) (A:=.attrs [("number",.int (-1))]) h1
 refine B5 (Et E1 hs) ?_
 refine Cp X1 (by simp) (of_decide_eq_true rfl) P.kg ?_
 have X2:=X1.head (A':=.attrs [("number",.int (-1)),("scope",.tup (sc.map AE))])
 have E2:=E1.set (a:=dx) (A:=.attrs [("number",.int (-1)),("scope",.tup (sc.map AE))]) h1
 refine Cp X2 (by simp) (of_decide_eq_true rfl) P.kJ ?_
 have X3:=X2.head (A':=.attrs (Cj sc))
 have E3:=E2.set (a:=dx) (A:=.attrs (Cj sc)) h1
 exact⟨rfl,k x dx _ ⟨X3.all (x,.inst a dx) (by simp),X3.all _ (List.mem_cons_self ..)⟩ E3 h2 h1⟩
theorem Up(P:AS B cS cC cI){d':D}{b b':Bool}{fs gs:List Nat}(hs:BC H d=some (b,fs.map AE))(hs':BC H d'=some (b',gs.map AE))(hz:fs.length+gs.length<1000)
  (k:∀x dx H',BJ cI x dx (HE fs gs) H'->Ext H H'->H x=none->H dx=none->K (.ref x) H'):AH B (n+5) "Inverse" [d,d'] H K:=by
 intro a ha
 obtain rfl:=P.ln a ha
 refine DX P.lz λfI fP i1 i2 i3 i4=>?_
 refine Jr P.lm i1 i2 λdx x h1 h2 h3=>i3.callC rfl rfl (KH.set_self ..) ?_
 have X0:=J2.two (H:=H) (A:=.attrs []) (A':=.inst a dx) h3
 have E0:Ext H ((H.set dx (.attrs [])).set x (.inst a dx)):=((Ext.refl H).set h1).set h2
 refine B5 (Et E0 hs) ?_
 refine B5 (Et E0 hs') ?_
 refine⟨by rw[List.length_map,List.length_map];exact AA [_,_] [] [.u (.p Aa Ab) Aj] (.l (.p Aa Ab) Ao) rfl hz,?_⟩
 refine i4.callC (ds:=[.ref x,.tup (fs.map AE++gs.map AE),.str "weak"]) rfl ?_
 rw[←List.map_append]
 refine Cp X0 (by simp) (of_decide_eq_true rfl) P.kQ ?_
 have X1:=X0.head (A':=.attrs [("number",.int (-1))])
 have E1:=E0.set (a:=dx) (A:=.attrs [("number",.int (-1))]) h1
 refine B5 (d:=.tup ((fs++gs).map AE)) rfl ?_
 refine Cp X1 (by simp) (of_decide_eq_true rfl) P.kZ ?_
 have X2:=X1.head (A':=.attrs [("number",.int (-1)),("scope",.tup ((fs++gs).map AE))])
 have E2:=E1.set (a:=dx) (A:=.attrs [("number",.int (-1)),("scope",.tup ((fs++gs).map AE))]) h1
 refine Cp X2 (by simp) (of_decide_eq_true rfl) P.kL ?_
 have X3:=X2.head (A':=.attrs [("number",.int (-1)),("scope",.tup ((fs++gs).map AE)),("strength",.str "weak")])
 have E3:=E2.set (a:=dx) (A:=.attrs [("number",.int (-1)),("scope",.tup ((fs++gs).map AE)),("strength",.str "weak")]) h1
 refine B5 (Et E3 hs) ?_
 refine Cp X3 (by simp) (of_decide_eq_true rfl) P.lL ?_
 have X4:=X3.head (A':=.attrs [("number",.int (-1)),("scope",.tup ((fs++gs).map AE)),("strength",.str "weak"),("fs",.tup (fs.map AE))])
 have E4:=E3.set (a:=dx) (A:=.attrs [("number",.int (-1)),("scope",.tup ((fs++gs).map AE)),("strength",.str "weak"),("fs",.tup (fs.map AE))]) h1
 refine B5 (Et E4 hs') ?_
 refine Cp X4 (by simp) (of_decide_eq_true rfl) P.lM ?_
 have X5:=X4.head (A':=.attrs (HE fs gs))
 have E5:=E4.set (a:=dx) (A:=.attrs (HE fs gs)) h1
 exact⟨rfl,k x dx _ ⟨X5.all (x,.inst a dx) (by simp),X5.all _ (List.mem_cons_self ..)⟩ E5 h2 h1⟩
theorem Z7(P:AS B cS cC cI)(S:BJ cC x dx (Cj sc) H)(k:K (.tup [.str "circuit",.tup (sc.map AE)]) H):AJ B (n+1) cC "told" [.ref x] H K:=by
 refine Li P ?_
 exact Bl (v:=.tup (sc.map AE)) S P.jn rfl k
theorem Z8(P:AS B cS cC cI){fs gs:List Nat}(S:BJ cI x dx (HE fs gs) H)(k:K (.tup [.str "inverse",.tup (fs.map AE),.tup (gs.map AE)]) H):AJ B (n+1) cI "told" [.ref x] H K:=by
 refine Lk P ?_
 refine Bl (v:=.tup (fs.map AE)) S P.jv rfl ?_
 exact Bl (v:=.tup (gs.map AE)) S P.jw rfl k
end
noncomputable abbrev M:=St->Bool×St
noncomputable def Bg{α:Type}(f:α->M):List α->M
 |[],st=>(true,st)
 |a::r,st=>if(f a st).1 then Bg f r (f a st).2 else (false,(f a st).2)
noncomputable def Bp(f g:M):M:=λst=>if(f st).1 then g (f st).2 else (false,(f st).2)
noncomputable def okM:M:=λst=>(true,st)
noncomputable def CR{α:Type}(i:Nat):List α->List (Nat×α)
 |[]=>[]
 |a::r=>(i,a)::CR (i+1) r
def AT(many:Int)(x:Nat):M:=Bp (strike ⟨x,.ge,1⟩ []) (strike ⟨x,.le,many⟩ [])
noncomputable def FV(pass:M):Nat->M
 |0,st=>(true,st)
 |m+1,st=>if(pass st).1 then (if(pass st).2.trail.length=st.trail.length then (true,(pass st).2) else FV pass m (pass st).2) else (false,(pass st).2)
def HF(i x:Nat)(v:Int)(b:Nat×Nat):M:=λst=>if b.1≠i/\EU (st.dom b.2) v=true then strike ⟨b.2,.ne,v⟩ [⟨x,.eq,v⟩] st else (true,st)
def Fq(sc:List Nat)(a:Nat×Nat):M:=λst=>if CU (st.dom a.2) then Bg (HF a.1 a.2 (AL (st.dom a.2))) (CR 0 sc) st else (true,st)
def part(sc:List Nat):M:=Bg (Fq sc) (CR 0 sc)
noncomputable def DK(sc:List Nat)(i:Int):Nat:=sc.getD (i-1).toNat 0
noncomputable def CS(st:St)(sc:List Nat)(begin:Int):Nat->Int->List CQ->Int×List CQ
 |0,e,rs=>(e,rs)
 |m+1,e,rs=>if rs.length<sc.length/\CU (st.dom (DK sc e))=true then
   (if AL (st.dom (DK sc e))=begin then (AL (st.dom (DK sc e)),rs++[⟨DK sc e,.eq,AL (st.dom (DK sc e))⟩])
   else CS st sc begin m (AL (st.dom (DK sc e))) (rs++[⟨DK sc e,.eq,AL (st.dom (DK sc e))⟩]))
  else (e,rs)
def Ij(sc:List Nat)(begin:Int)(e:Int)(rs:List CQ):M:=λst =>
 if e=begin/\0<rs.length/\rs.length<sc.length then (false,st.fail rs)
 else if rs.length+1<sc.length/\EU (st.dom (DK sc e)) begin=true then strike ⟨DK sc e,.ne,begin⟩ rs st
 else (true,st)
def Fr(sc:List Nat)(begin:Int):M:=λst=>Ij sc begin (CS st sc begin (sc.length+1) begin []).1 (CS st sc begin (sc.length+1) begin []).2 st
noncomputable def CD(a b:Int):List Int:=(List.range (b-a).toNat).map λ(i:Nat)=>a+(i:Int)
def ED(sc:List Nat):M:=Bg (Fr sc) (CD 1 (sc.length+1))
def grow(st:St)(sc:List Nat)(found:List Int)(x:Nat):List Int:=(CD 1 (sc.length+1)).filter λv=>!decide (v∈found)&&EU (st.dom x) v
noncomputable def Db(st:St)(sc:List Nat):Nat->List Int->Nat->List Int
 |0,found,_=>found
 |m+1,found,spot=>if spot<found.length then Db st sc m (found++grow st sc found (DK sc (found.getD spot 0))) (spot+1) else found
def DM(st:St)(sc:List Nat):List Int:=Db st sc (sc.length+1) [1] 0
def Dc(st:St)(sc:List Nat):List Int:=(CD 1 (sc.length+1)).filter λv=>!decide (v∈DM st sc)
def Wr(sc:List Nat)(found out:List Int):List CQ:=found.flatMap λhere=>out.map λv=>⟨DK sc here,.ne,v⟩
def reach(sc:List Nat):M:=λst=>if Dc st sc=[] then (true,st) else (false,st.fail (Wr sc (DM st sc) (Dc st sc)))
def Ce(sc:List Nat):M:=λst=>if st.failed then (false,st) else Bp (Bg (AT sc.length) sc) (Bp (FV (Bp (part sc) (ED sc)) 2000) (reach sc)) st
def Dd(i x:Nat)(b:Nat×Nat):M:=λst=>if EU (st.dom x) (b.1+1)=true/\EU (st.dom b.2) (i+1)=false then strike ⟨x,.ne,b.1+1⟩ [⟨b.2,.ne,i+1⟩] st else (true,st)
def JD(bk:List Nat)(i x:Nat):M:=λst=>if CU (st.dom x) then strike ⟨DK bk (AL (st.dom x)),.eq,i+1⟩ [⟨x,.eq,AL (st.dom x)⟩] st else (true,st)
def Kx(bk:List Nat)(a:Nat×Nat):M:=Bp (Bg (Dd a.1 a.2) (CR 0 bk)) (JD bk a.1 a.2)
def turn(row bk:List Nat):M:=Bg (Kx bk) (CR 0 row)
def Ek(fs gs:List Nat):M:=λst=>if st.failed then (false,st) else Bp (Bp (Bg (AT gs.length) fs) (Bg (AT fs.length) gs)) (FV (Bp (turn fs gs) (turn gs fs)) 2000) st
noncomputable def Bh(d:Bb):Prop:=(∀p∈d,p.1<=p.2)/\d.Pairwise λp q=>p.2<q.1
theorem Bh.tail{d:Bb}(h:Bh (p::d)):Bh d:=⟨λq hq=>h.1 q (List.mem_cons_of_mem _ hq),(List.pairwise_cons.mp h.2).2⟩
theorem Bh.le{d:Bb}(h:Bh (p::d)):p.1<=p.2:=h.1 p (List.mem_cons_self ..)
theorem Bh.lt{q:Int×Int}{d:Bb}(h:Bh (p::d))(hq:q∈d):p.2<q.1:=(List.pairwise_cons.mp h.2).1 q hq
theorem FW{v:Int}:v∈Gi p↔p.1<=v/\v<=p.2:=by
 unfold Gi
 rw[List.mem_map]
 constructor
 ·rintro⟨i,hi,rfl⟩
  rw[List.mem_range] at hi
  exact⟨AA [_] [_] [] (.L Ac (.p Ac Ag)) rfl,(Int.le_total 0 _).elim (λmH=>AA [_,_] [_,_] [.u Aa Ab,.E Al (.s (.p Ad Ah) Ac)] (.L (.p Ac Ag) Ad) rfl hi (Int.toNat_of_nonneg mH)) (λmH=>(AA [_,_] [] [.u Aa Ab,.e Ab Am] .f rfl hi (Int.toNat_of_nonpos mH)).elim)⟩
 ·intro h
  exact⟨(v-p.1).toNat,by rw[List.mem_range];exact(Int.le_total 0 _).elim (λmH=>AA [_,_] [_,_,_] [.L Ac Ai,.E Ag (.s Ac Ad),.L (.s (.p Ai Ah) Ad) Al] (.u Aa Ab) rfl h.2 (Int.toNat_of_nonneg mH) (Int.self_le_toNat _)) (λmH=>AA [_,_] [_,_,_] [.L Ac Ai,.L Ad Ac,.e Aa Am,.L (.s (.p Ai Ah) Ad) Al] (.u Aa Ab) rfl h.2 h.1 (Int.toNat_of_nonpos mH) (Int.self_le_toNat _)),by exact Int.le_antisymm ((Int.le_total 0 _).elim (λmH=>AA [_] [_,_] [.E Ag (.s Ad Ac)] (.L (.p Ac Ag) Ad) rfl (Int.toNat_of_nonneg mH)) (λmH=>AA [_] [_,_] [.L Ac Ad,.e Aa Am] (.L (.p Ac Ag) Ad) rfl h.1 (Int.toNat_of_nonpos mH))) (AA [_] [_,_] [.L (.s Ad Ac) Ag] (.L Ad (.p Ac Ag)) rfl (Int.self_le_toNat _))⟩
theorem B8{d:Bb}{v:Int}:v∈vals d↔∃p∈d,p.1<=v/\v<=p.2:=by
 unfold vals
 rw[List.mem_flatMap]
 simp only[FW]
theorem RE(p:Int×Int):(Gi p).Pairwise (· < ·):=by
 unfold Gi
 rw[List.pairwise_map]
 exact List.pairwise_lt_range.imp λh=>by exact AA [_,_] [_] [.u Aa Ab] (.U (.p Ac Ag) (.p Ac Al)) rfl h
theorem DV(p:Int×Int)(d:Bb):vals (p::d)=Gi p++vals d:=rfl
theorem EE:∀{d:Bb},Bh d->(vals d).Pairwise (· < ·)
 |[],_=>.nil
 |p::d,h=>by
  rw[DV,List.pairwise_append]
  refine⟨RE p,EE h.tail,λa ha b hb=>?_⟩
  refine DO (B8.mp hb) λq hq h1 h2=>?_
  have t1:=FW.mp ha
  have:=h.lt hq
  exact AA [] [_,_,_,_] [.L Ai Ad,.L Ac Ay,.U Ay Ai] (.U Ac Ad) rfl h1 t1.2 this
theorem No:∀{xs ys:List Int},xs.Pairwise (· < ·)->ys.Pairwise (· < ·)->(∀a,a∈xs↔a∈ys)->xs=ys
 |[],[],_,_,_=>rfl
 |[],y::ys,_,_,h=>by have:=(h y).mpr (List.mem_cons_self ..);cases this
 |x::xs,[],_,_,h=>by have:=(h x).mp (List.mem_cons_self ..);cases this
 |x::xs,y::ys,hx,hy,h=>by
  rw[List.pairwise_cons] at hx hy
  have exy:x=y:=by
   rcases List.mem_cons.mp ((h x).mp (List.mem_cons_self ..)) with e|e
   ·exact e
   ·rcases List.mem_cons.mp ((h y).mpr (List.mem_cons_self ..)) with e'|e'
    ·exact e'.symm
    ·have t1:=hy.1 x e;have:=hx.1 y e';exact Int.le_antisymm (AA [] [_,_] [.U Ac Ad] (.L Ac Ad) rfl this) (AA [] [_,_] [.U Ad Ac] (.L Ad Ac) rfl t1)
  subst exy
  rw[No hx.2 hy.2 λa=>?_]
  constructor
  ·intro ha
   rcases List.mem_cons.mp ((h a).mp (List.mem_cons_of_mem _ ha)) with e|e
   ·have:=hx.1 a ha;exact(AA [] [_,_] [.U Ad Ac,.E Ac Ad] .f rfl this e).elim
   ·exact e
  ·intro ha
   rcases List.mem_cons.mp ((h a).mpr (List.mem_cons_of_mem _ ha)) with e|e
   ·have:=hy.1 a ha;exact(AA [] [_,_] [.U Ad Ac,.E Ac Ad] .f rfl this e).elim
   ·exact e
theorem Np{d:Bb}{k v:Int}:v∈vals (Mg d k)↔v∈vals d/\v<=k:=by
 rw[B8,B8]
 unfold Mg
 constructor
 ·rintro⟨q,hq,h1,h2⟩
  refine BG (List.mem_filterMap.mp hq) λp hp e=>?_
  split at e
  ·rename_i hc;obtain rfl:=Option.some.inj e;exact⟨⟨p,hp,h1,by omega⟩,by omega⟩
  ·exact nS e
 ·rintro⟨⟨p,hp,h1,h2⟩,h3⟩
  exact⟨(p.1,min p.2 k),List.mem_filterMap.mpr ⟨p,hp,by rw[if_pos (by exact AA [] [_,_,_] [.L Ai Ad,.L Ac Ai] (.L Ac Ad) rfl h3 h1)]⟩,h1,by show v<=min p.2 k;exact(Int.le_total _ _).elim (λmH=>AA [] [_,_,_] [.L Ac Ai,.R Ad Ai] (.L Ac Ad) rfl h2 (Int.min_eq_left mH)) (λmH=>AA [] [_,_,_] [.L Ac Ai,.R Ad Ai] (.L Ac Ad) rfl h3 (Int.min_eq_right mH))⟩
theorem Jy{d:Bb}{k v:Int}:v∈vals (GF d k)↔v∈vals d/\k<=v:=by
 rw[B8,B8]
 unfold GF
 constructor
 ·rintro⟨q,hq,h1,h2⟩
  refine BG (List.mem_filterMap.mp hq) λp hp e=>?_
  split at e
  ·rename_i hc;obtain rfl:=Option.some.inj e;exact⟨⟨p,hp,by omega,h2⟩,by omega⟩
  ·exact nS e
 ·rintro⟨⟨p,hp,h1,h2⟩,h3⟩
  exact⟨(max p.1 k,p.2),List.mem_filterMap.mpr ⟨p,hp,by rw[if_pos (by exact AA [] [_,_,_] [.L Ai Ad,.L Ac Ai] (.L Ac Ad) rfl h2 h3)]⟩,by show max p.1 k<=v;exact(Int.le_total _ _).elim (λmH=>AA [] [_,_,_] [.L Ad Ai,.E Ac Ad] (.L Ac Ai) rfl h3 (Int.max_eq_right mH)) (λmH=>AA [] [_,_,_] [.L Ad Ai,.E Ac Ad] (.L Ac Ai) rfl h1 (Int.max_eq_left mH)),h2⟩
theorem Nq{d:Bb}{k:Int}(h:Bh d):Bh (Mg d k):=by
 refine⟨λq hq=>?_,h.2.filterMap _ λa a' hl b hb b' hb'=>?_⟩
 ·refine BG (List.mem_filterMap.mp hq) λp hp e=>?_
  have:=h.1 p hp
  split at e
  ·rename_i hc;obtain rfl:=Option.some.inj e;show p.1<=min p.2 k;exact(Int.le_total _ _).elim (λmH=>AA [] [_,_,_] [.L Ac Ai,.R Ad Ai] (.L Ac Ad) rfl this (Int.min_eq_left mH)) (λmH=>AA [] [_,_,_] [.L Ac Ai,.R Ad Ai] (.L Ac Ad) rfl hc (Int.min_eq_right mH))
  ·exact nS e
 ·split at hb
  ·obtain rfl:=Option.some.inj hb
   split at hb'
   ·cases hb';show min a.2 k<a'.1;exact AA [] [_,_,_] [.U Ad Ai,.L Ac Ad] (.U Ac Ai) rfl hl (Int.min_le_left _ _)
   ·exact nS hb'
  ·exact nS hb
theorem Ky{d:Bb}{k:Int}(h:Bh d):Bh (GF d k):=by
 refine⟨λq hq=>?_,h.2.filterMap _ λa a' hl b hb b' hb'=>?_⟩
 ·refine BG (List.mem_filterMap.mp hq) λp hp e=>?_
  have:=h.1 p hp
  split at e
  ·rename_i hc;obtain rfl:=Option.some.inj e;show max p.1 k<=p.2;exact(Int.le_total _ _).elim (λmH=>AA [] [_,_,_] [.L Ad Ai,.E Ac Ad] (.L Ac Ai) rfl hc (Int.max_eq_right mH)) (λmH=>AA [] [_,_,_] [.L Ad Ai,.E Ac Ad] (.L Ac Ai) rfl this (Int.max_eq_left mH))
  ·exact nS e
 ·split at hb
  ·obtain rfl:=Option.some.inj hb
   split at hb'
   ·cases hb';show a.2<max a'.1 k;exact AA [] [_,_,_] [.U Ac Ai,.L Ai Ad] (.U Ac Ad) rfl hl (Int.le_max_left _ _)
   ·exact nS hb'
  ·exact nS hb
theorem Fs(a b:Bb):vals (a++b)=vals a++vals b:=List.flatMap_append ..
theorem RF{d:Bb}{k v:Int}:v∈vals (Fo d k)↔v∈vals d/\v≠k:=by
 unfold Fo
 rw[Fs,List.mem_append,Np,Jy]
 constructor
 ·rintro(⟨h,h'⟩|⟨h,h'⟩)<;>exact⟨h,by omega⟩
 ·rintro⟨h,h'⟩
  by_cases c:v<=k-1
  ·exact .inl ⟨h,c⟩
  ·exact .inr ⟨h,by exact(Int.lt_or_gt_of_ne h').elim (λmH=>(AA [] [_,_] [.U Ad Ac,.U (.s Ac Ah) Ad] .f rfl mH (Int.not_le.mp c)).elim) (λmH=>AA [] [_,_] [.U Ac Ad] (.L (.p Ac Ah) Ad) rfl mH)⟩
theorem Ok{d:Bb}{k:Int}(h:Bh d):Bh (Fo d k):=by
 have a:=Nq (k:=k-1) h
 have b:=Ky (k:=k+1) h
 refine⟨λq hq=>(List.mem_append.mp hq).elim (a.1 q) (b.1 q),List.pairwise_append.mpr ⟨a.2,b.2,λx hx y hy=>?_⟩⟩
 have h1:x.2<=k-1:=(Np.mp (B8.mpr ⟨x,hx,a.1 x hx,Int.le_refl _⟩)).2
 have h2:k+1<=y.1:=(Jy.mp (B8.mpr ⟨y,hy,Int.le_refl _,b.1 y hy⟩)).2
 exact AA [] [_,_,_] [.L (.p Ai Ah) Ad,.L Ac (.s Ai Ah)] (.U Ac Ad) rfl h2 h1
theorem Kz:∀{d:Bb} {k:Int},Bh d->k∈vals d->FS d k=[(k,k)]
 |[],k,_,h=>by cases h
 |p::d,k,hv,h=>by
  have hp:=hv.le
  rw[DV,List.mem_append,FW] at h
  unfold FS
  rcases h with h|h
  ·rw[if_pos (by exact(Int.le_total _ _).elim (λmH=>(Int.le_total _ _).elim (λmI=>AA [] [_,_,_,_] [.L Ad Ay,.R Ai Ay,.E Ac Ad] (.L Ac Ai) rfl h.2 (Int.min_eq_left mI) (Int.max_eq_right mH)) (λmI=>AA [] [_,_,_] [.R Ai Ad,.E Ac Ad] (.L Ac Ai) rfl (Int.min_eq_right mI) (Int.max_eq_right mH))) (λmH=>(Int.le_total _ _).elim (λmI=>AA [] [_,_,_,_] [.L Ad Ay,.R Ai Ay,.E Ac Ad] (.L Ac Ai) rfl hp (Int.min_eq_left mI) (Int.max_eq_left mH)) (λmI=>AA [] [_,_,_,_] [.L Ad Ai,.R Ay Ai,.E Ac Ad] (.L Ac Ay) rfl h.1 (Int.min_eq_right mI) (Int.max_eq_left mH)))),if_neg (by exact Int.not_lt.mpr (AA [] [_,_] [.L Ac Ad] (.L Ac Ad) rfl h.2)),show max p.1 k=k by exact Int.le_antisymm ((Int.le_total _ _).elim (λmH=>AA [] [_,_] [.E Ac Ad] (.L Ac Ad) rfl (Int.max_eq_right mH)) (λmH=>AA [] [_,_,_] [.L Ad Ai,.E Ac Ad] (.L Ac Ai) rfl h.1 (Int.max_eq_left mH))) (AA [] [_,_] [.L Ad Ac] (.L Ad Ac) rfl (Int.le_max_right _ _)),show min p.2 k=k by exact Int.le_antisymm (AA [] [_,_] [.L Ac Ad] (.L Ac Ad) rfl (Int.min_le_right _ _)) ((Int.le_total _ _).elim (λmH=>AA [] [_,_,_] [.L Ai Ad,.R Ac Ad] (.L Ai Ac) rfl h.2 (Int.min_eq_left mH)) (λmH=>AA [] [_,_] [.R Ac Ad] (.L Ad Ac) rfl (Int.min_eq_right mH)))];rfl
  ·refine DO (B8.mp h) λq hq h1 h2=>?_
   have:=hv.lt hq
   rw[if_neg (by exact Int.not_le.mpr (AA [] [_,_,_,_,_] [.L (.v 4) Ai,.U Ad (.v 4),.L Ai Ay,.L Ac Ad] (.U Ac Ay) rfl h1 this (Int.le_max_right _ _) (Int.min_le_left _ _))),if_pos (by exact AA [] [_,_,_] [.L Ai Ad,.U Ac Ai] (.U Ac Ad) rfl h1 this),Kz hv.tail h];rfl
theorem Lo:∀{d:Bb} {k:Int},Bh d->k∉vals d->FS d k=[]
 |[],k,_,h=>rfl
 |p::d,k,hv,h=>by
  have hp:=hv.le
  rw[DV,List.mem_append,FW,not_or] at h
  unfold FS
  rw[if_neg (by exact Int.not_le.mpr ((Decidable.not_and_iff_or_not.mp h.1).elim (λmH=>AA [] [_,_,_,_] [.L Ad Ac,.L Ay Ai,.U Ai Ad] (.U Ay Ac) rfl (Int.le_max_left _ _) (Int.min_le_right _ _) (Int.not_le.mp mH)) (λmH=>AA [] [_,_,_,_] [.L Ad Ac,.L Ai Ay,.U Ay Ad] (.U Ai Ac) rfl (Int.le_max_right _ _) (Int.min_le_left _ _) (Int.not_le.mp mH))))]
  split
  ·rw[Lo hv.tail h.2];rfl
  ·rfl
theorem Uq{d:Bb}{k v:Int}(h:Bh d):v∈vals (FS d k)↔v∈vals d/\v=k:=by
 by_cases c:k∈vals d
 ·rw[Kz h c]
  have:v∈vals [(k,k)]↔v=k:=by
   rw[DV,List.mem_append,FW]
   simp only[vals,List.flatMap_nil,List.not_mem_nil,or_false]
   exact⟨λmL=>Int.le_antisymm (AA [] [_,_] [.L Ad Ac] (.L Ad Ac) rfl mL.2) (AA [] [_,_] [.L Ac Ad] (.L Ac Ad) rfl mL.1),λmL=>⟨AA [] [_,_] [.R Ad Ac] (.L Ac Ad) rfl mL,AA [] [_,_] [.E Ad Ac] (.L Ad Ac) rfl mL⟩⟩
  rw[this]
  exact⟨λe=>⟨e▸c,e⟩,λe=>e.2⟩
 ·rw[Lo h c]
  exact⟨λe=>(by cases e),λe=>absurd (e.2▸e.1) c⟩
theorem RG{d:Bb}{k:Int}(h:Bh d):Bh (FS d k):=by
 by_cases c:k∈vals d
 ·rw[Kz h c];exact⟨λp hp=>by cases List.mem_singleton.mp hp;exact Int.le_refl _,List.pairwise_singleton ..⟩
 ·rw[Lo h c];exact⟨λp hp=>(List.not_mem_nil hp).elim,.nil⟩
theorem K0{l:CQ}{d:Bb}(h:Bh d):Bh (B2 l d):=by
 unfold B2
 split
 ·exact Nq h
 ·exact Ky h
 ·exact RG h
 ·exact Ok h
theorem Dz{l:CQ}{d:Bb}(h:Bh d){v:Int}:v∈vals (B2 l d)↔v∈vals d/\says l v=true:=by
 unfold B2 says
 cases l.s with
 |le=>exact Np.trans (and_congr Iff.rfl decide_eq_true_iff.symm)
 |ge=>exact Jy.trans (and_congr Iff.rfl decide_eq_true_iff.symm)
 |eq=>exact(Uq h).trans (and_congr Iff.rfl decide_eq_true_iff.symm)
 |ne=>exact RF.trans (and_congr Iff.rfl decide_eq_true_iff.symm)
theorem MB{l:CQ}{d:Bb}(h:Bh d):vals (B2 l d)=(vals d).filter (says l) :=
 No (EE (K0 h)) ((EE h).filter _) λv=>by rw[Dz h,List.mem_filter]
theorem RH{d:Bb}(h:Bh d):vals d=[]↔d=[]:=by
 constructor
 ·intro e
  cases d with
  |nil=>rfl
  |cons p d =>
   have:p.1∈vals (p::d):=B8.mpr ⟨p,List.mem_cons_self ..,Int.le_refl _,h.le⟩
   rw[e] at this;cases this
 ·rintro rfl;rfl
theorem FY{d:Bb}{f:Int×Int->Option (Int×Int)}(h:∀p∈d,f p=some p):d.filterMap f=d:=by
 induction d with
 |nil=>rfl
 |cons p d ih=>rw[List.filterMap_cons,h p (List.mem_cons_self ..)];simp only;rw[ih λq hq=>h q (List.mem_cons_of_mem _ hq)]
theorem K1:∀{d:Bb} {k:Int},Bh d->k∉vals d->Fo d k=d
 |[],k,_,_=>rfl
 |p::d,k,hv,h=>by
  have hp:=hv.le
  rw[DV,List.mem_append,FW,not_or] at h
  by_cases c:p.2<k
  ·have ih:=K1 hv.tail h.2
   unfold Fo Mg GF at ih ⊢
   rw[List.filterMap_cons,List.filterMap_cons,if_pos (by exact AA [] [_,_,_] [.U Ai Ad,.L Ac Ai] (.L Ac (.s Ad Ah)) rfl c hp),if_neg (by exact Int.not_le.mpr (AA [] [_,_] [.U Ac Ad] (.U Ac (.p Ad Ah)) rfl c)),show min p.2 (k-1)=p.2 by exact Int.le_antisymm (AA [] [_,_] [.L Ac Ad] (.L Ac Ad) rfl (Int.min_le_left _ _)) ((Int.le_total _ _).elim (λmH=>AA [] [_,_] [.R Ac Ad] (.L Ad Ac) rfl (Int.min_eq_left mH)) (λmH=>AA [] [_,_,_] [.U Ad Ai,.R Ac (.s Ai Ah)] (.L Ad Ac) rfl c (Int.min_eq_right mH)))]
   simp only[List.cons_append]
   rw[ih]
  ·have e1:Mg (p::d) (k-1)=[]:=by
    unfold Mg
    rw[List.filterMap_eq_nil_iff]
    intro q hq
    have:k<q.1:=by
     rcases List.mem_cons.mp hq with rfl|hq
     ·exact(Decidable.not_and_iff_or_not.mp h.1).elim (λmH=>AA [] [_,_] [.U Ac Ad] (.U Ac Ad) rfl (Int.not_le.mp mH)) (λmH=>(AA [] [_,_] [.U Ad Ac,.L Ac Ad] .f rfl (Int.not_le.mp mH) (Int.not_lt.mp c)).elim)
     ·have:=hv.lt hq;exact AA [] [_,_,_] [.U Ai Ad,.L Ac Ai] (.U Ac Ad) rfl this (Int.not_lt.mp c)
    rw[if_neg (by exact Int.not_le.mpr (AA [] [_,_] [.U Ac Ad] (.U (.s Ac Ah) Ad) rfl this))]
   unfold Fo
   rw[e1,List.nil_append]
   refine FY λq hq=>?_
   have h2:=hv.1 q hq
   have:k<q.1:=by
    rcases List.mem_cons.mp hq with rfl|hq
    ·exact(Decidable.not_and_iff_or_not.mp h.1).elim (λmH=>AA [] [_,_] [.U Ac Ad] (.U Ac Ad) rfl (Int.not_le.mp mH)) (λmH=>(AA [] [_,_] [.U Ad Ac,.L Ac Ad] .f rfl (Int.not_le.mp mH) (Int.not_lt.mp c)).elim)
    ·have:=hv.lt hq;exact AA [] [_,_,_] [.U Ai Ad,.L Ac Ai] (.U Ac Ad) rfl this (Int.not_lt.mp c)
   rw[if_pos (by exact AA [] [_,_,_] [.L Ai Ad,.U Ac Ai] (.L (.p Ac Ah) Ad) rfl h2 this),show max q.1 (k+1)=q.1 by exact Int.le_antisymm ((Int.le_total _ _).elim (λmH=>AA [] [_,_,_] [.U Ai Ad,.E Ac (.p Ai Ah)] (.L Ac Ad) rfl this (Int.max_eq_right mH)) (λmH=>AA [] [_,_] [.E Ac Ad] (.L Ac Ad) rfl (Int.max_eq_left mH))) (AA [] [_,_] [.L Ad Ac] (.L Ad Ac) rfl (Int.le_max_left _ _))]
theorem MC{l:CQ}{d:Bb}(h:Bh d)(hs:∀v∈vals d,says l v=true):B2 l d=d:=by
 have lo:∀p∈d,says l p.1=true:=λp hp=>hs _ (B8.mpr ⟨p,hp,Int.le_refl _,h.1 p hp⟩)
 have hi:∀p∈d,says l p.2=true:=λp hp=>hs _ (B8.mpr ⟨p,hp,h.1 p hp,Int.le_refl _⟩)
 unfold B2
 unfold says at lo hi hs
 cases e:l.s with
 |le =>
  rw[e] at lo hi
  refine FY λp hp=>?_
  have t1:=of_decide_eq_true (hi p hp)
  have:=h.1 p hp
  rw[if_pos (by exact AA [] [_,_,_] [.L Ai Ad,.L Ac Ai] (.L Ac Ad) rfl t1 this),show min p.2 l.k=p.2 by exact Int.le_antisymm (AA [] [_,_] [.L Ac Ad] (.L Ac Ad) rfl (Int.min_le_left _ _)) ((Int.le_total _ _).elim (λmH=>AA [] [_,_] [.R Ac Ad] (.L Ad Ac) rfl (Int.min_eq_left mH)) (λmH=>AA [] [_,_,_] [.L Ad Ai,.R Ac Ai] (.L Ad Ac) rfl t1 (Int.min_eq_right mH)))]
 |ge =>
  rw[e] at lo hi
  refine FY λp hp=>?_
  have t1:=of_decide_eq_true (lo p hp)
  have:=h.1 p hp
  rw[if_pos (by exact AA [] [_,_,_] [.L Ai Ad,.L Ac Ai] (.L Ac Ad) rfl this t1),show max p.1 l.k=p.1 by exact Int.le_antisymm ((Int.le_total _ _).elim (λmH=>AA [] [_,_,_] [.L Ai Ad,.E Ac Ai] (.L Ac Ad) rfl t1 (Int.max_eq_right mH)) (λmH=>AA [] [_,_] [.E Ac Ad] (.L Ac Ad) rfl (Int.max_eq_left mH))) (AA [] [_,_] [.L Ad Ac] (.L Ad Ac) rfl (Int.le_max_left _ _))]
 |eq =>
  rw[e] at lo hi
  match d,h,lo,hi with
  |[],_,_,_=>rfl
  |[p],h,lo,hi =>
   have a:=of_decide_eq_true (lo p (List.mem_cons_self ..))
   have b:=of_decide_eq_true (hi p (List.mem_cons_self ..))
   obtain⟨p1,p2⟩:=p
   simp only at a b
   subst a b
   exact Kz h (B8.mpr ⟨_,List.mem_cons_self ..,Int.le_refl _,Int.le_refl _⟩)
  |p::q::r,h,lo,hi =>
   have a:=of_decide_eq_true (hi p (List.mem_cons_self ..))
   have b:=of_decide_eq_true (lo q (List.mem_cons_of_mem _ (List.mem_cons_self ..)))
   have:=h.lt (List.mem_cons_self ..)
   exact(AA [] [_,_,_] [.U Ac Ai,.R Ac Ad,.E Ai Ad] .f rfl this a b).elim
 |ne =>
  rw[e] at hs
  exact K1 h λhm=>of_decide_eq_true (hs _ hm) rfl
theorem K2:∀{d:Bb} {v:Int},Bh d->(CZ d v=some v↔v∈vals d)
 |[],v,_=>by simp[CZ,vals]
 |p::d,v,h=>by
  have hp:=h.le
  unfold CZ
  rw[DV,List.mem_append,FW]
  split
  ·rename_i hc;constructor
   ·intro e;have:=Option.some.inj e;exact .inl (by exact⟨AA [] [_,_,_] [.E Ai Ad,.L Ac Ai] (.L Ac Ad) rfl this (Int.le_max_left _ _),AA [] [_,_] [.L Ac Ad] (.L Ac Ad) rfl hc⟩)
   ·rintro(e|e)
    ·rw[show max p.1 v=v by exact Int.le_antisymm ((Int.le_total _ _).elim (λmH=>AA [] [_,_] [.E Ac Ad] (.L Ac Ad) rfl (Int.max_eq_right mH)) (λmH=>AA [] [_,_,_] [.L Ad Ai,.E Ac Ad] (.L Ac Ai) rfl e.1 (Int.max_eq_left mH))) (AA [] [_,_] [.L Ad Ac] (.L Ad Ac) rfl (Int.le_max_right _ _))]
    ·refine DO (B8.mp e) λq hq h1 h2=>?_
     have:=h.lt hq
     exact(AA [] [_,_,_] [.U Ac Ai,.L Ad Ac,.L Ai Ad] .f rfl this hc h1).elim
  ·rename_i hc;rw[K2 h.tail]
   exact⟨.inr,λe=>e.resolve_left (by exact λmL=>AA [] [_,_] [.L Ac Ad,.U Ad Ac] .f rfl mL.2 (Int.not_le.mp hc))⟩
theorem Ik{d:Bb}{v:Int}(h:Bh d):EU d v=true↔v∈vals d:=decide_eq_true_iff.trans (K2 h)
theorem Si{d:Bb}{v:Int}(h:Bh d):EU d v=false↔v∉vals d:=by rw[←Ik h];simp
theorem MD(p:Int×Int):(Gi p).length=(p.2+1-p.1).toNat:=by simp[Gi]
theorem Il:∀{d:Bb},Bh d->d.length<=(vals d).length
 |[],_=>Nat.le_refl _
 |p::d,h=>by
  have t1:=Il h.tail
  have:=h.le
  rw[DV,List.length_append,MD,List.length_cons]
  exact AA [_,_,_] [_,_] [.l Aa Af,.L Ad Ac,.L (.s (.p Ac Ah) Ad) Al] (.l (.p Aa Ae) (.p Ab Af)) rfl t1 this (Int.self_le_toNat _)
theorem RI{d:Bb}(h:Bh d):CU d=true↔(vals d).length=1:=by
 match d,h with
 |[],_=>simp[CU,vals]
 |[p],h =>
  have:=h.le
  show decide (p.1=p.2)=true↔(vals [p]).length=1
  rw[decide_eq_true_iff,DV,List.length_append,MD]
  simp[vals]
  exact⟨λmL=>M4 ((Int.le_total 0 _).elim (λmH=>AA [_] [_,_] [.R Ac Ad,.E Ag (.s (.p Ad Ah) Ac)] (.l Aa Ae) rfl mL (Int.toNat_of_nonneg mH)) (λmH=>AA [_] [] [.e Aa Am] (.l Aa Ae) rfl (Int.toNat_of_nonpos mH))) (AA [_] [_,_] [.L Ac Ad,.L (.s (.p Ad Ah) Ac) Ag] (.l Ae Aa) rfl this (Int.self_le_toNat _)),λmL=>Int.le_antisymm (AA [] [_,_] [.L Ac Ad] (.L Ac Ad) rfl this) (AA [_] [_,_] [.e Aa Ae,.L (.s (.p Ad Ah) Ac) Ag] (.L Ad Ac) rfl mL (Int.self_le_toNat _))⟩
 |p::q::r,h =>
  have h1:=Il h
  simp only[List.length_cons] at h1
  simp[CU]
  exact λmL=>AA [_,_] [] [.l (.p (.p Ab Ae) Ae) Aa,.e Aa Ae] .f rfl h1 mL
theorem FZ{d:Bb}(h:CU d=true):vals d=[AL d]:=by
 match d,h with
 |[p],h =>
  have e:p.1=p.2:=of_decide_eq_true h
  show Gi p++[]=[p.1]
  unfold Gi
  rw[show(p.2+1-p.1).toNat=1 by exact M4 ((Int.le_total 0 _).elim (λmH=>AA [_] [_,_] [.R Ad Ac,.E Ag (.s (.p Ac Ah) Ad)] (.l Aa Ae) rfl e (Int.toNat_of_nonneg mH)) (λmH=>AA [_] [] [.e Aa Am] (.l Aa Ae) rfl (Int.toNat_of_nonpos mH))) (AA [_] [_,_] [.E Ad Ac,.L (.s (.p Ac Ah) Ad) Ag] (.l Ae Aa) rfl e (Int.self_le_toNat _))]
  simp[List.range_succ]
theorem Nr{d:Bb}(h:CU d=true):d≠[]:=by rintro rfl;cases h
def Ur(ds:List Bb):Nat:=(ds.map λd=>(vals d).length).sum
structure B3(st:St):Prop where
 n:st.doms.length<=50
 v:∀d∈st.doms,Bh d
 ne:∀d∈st.doms,d≠[]
 z:st.trail.length+Ur st.doms<=1000
theorem CY{st:St}{x:Nat}(h:x<st.doms.length):st.dom x∈st.doms:=List.mem_of_getElem? (C8 h)
theorem El:∀{ds:List Bb} {d:Bb},d∈ds->(vals d).length<=Ur ds
 |[],_,h=>by cases h
 |e::ds,d,h=>by
  unfold Ur
  rw[List.map_cons,List.sum_cons]
  rcases List.mem_cons.mp h with rfl|h
  ·exact AA [_,_] [] [] (.l Aa (.p Aa Ab)) rfl
  ·have:=El h;unfold Ur at this;exact AA [_,_,_] [] [.l Aa Af] (.l Aa (.p Ab Af)) rfl this
theorem Tn:∀{ds:List Bb} {x:Nat} {d e:Bb},ds[x]? = some d->Ur (ds.set x e)+(vals d).length=Ur ds+(vals e).length
 |[],_,_,_,h=>by simp at h
 |c::ds,0,d,e,h=>by
  simp at h;subst h
  unfold Ur
  rw[List.set_cons_zero,List.map_cons,List.map_cons,List.sum_cons,List.sum_cons];exact Nat.le_antisymm (AA [_,_,_] [] [] (.l (.p (.p Aa Ab) Af) (.p (.p Af Ab) Aa)) rfl) (AA [_,_,_] [] [] (.l (.p (.p Af Ab) Aa) (.p (.p Aa Ab) Af)) rfl)
 |c::ds,x+1,d,e,h=>by
  have:=Tn (ds:=ds) (x:=x) (d:=d) (e:=e) (by simpa using h)
  unfold Ur at this ⊢
  rw[List.set_cons_succ,List.map_cons,List.map_cons,List.sum_cons,List.sum_cons];exact Nat.le_antisymm (AA [_,_,_,_,_] [] [.e (.p Ab Af) (.p Aq A2)] (.l (.p (.p Aa Ab) Af) (.p (.p Aa Aq) A2)) rfl this) (AA [_,_,_,_,_] [] [.r (.p Ab Af) (.p Aq A2)] (.l (.p (.p Aa Aq) A2) (.p (.p Aa Ab) Af)) rfl this)
section
variable {st:St} {l:CQ} {rs:Option (List CQ)} {sp:Int}
theorem B3.valid(I:B3 st){x:Nat}(h:x<st.doms.length):Bh (st.dom x):=I.v _ (CY h)
theorem B3.dne(I:B3 st){x:Nat}(h:x<st.doms.length):st.dom x≠[]:=I.ne _ (CY h)
theorem B3.len(I:B3 st){x:Nat}(h:x<st.doms.length):(st.dom x).length<=1000:=by
 have a:=Il (I.valid h)
 have b:=El (CY h)
 have:=I.z
 exact AA [_,_,_,_] [] [.l Aa Ab,.l Ab Af,.l (.p Aq Af) Aj] (.l Aa Aj) rfl a b this
theorem B3.tl(I:B3 st):st.trail.length<=1000:=by have:=I.z;exact AA [_,_] [] [.l (.p Aa Ab) Aj] (.l Aa Aj) rfl this
theorem Z9{ds:List Bb}{x:Nat}{d:Bb}(h:x<ds.length):(ds.set x d).getD y []=if x=y then d else ds.getD y []:=by
 rw[List.getD_eq_getElem?_getD,List.getD_eq_getElem?_getD,List.getElem?_set]
 split
 ·rename_i e;subst e;rfl
 ·rfl
theorem QM{e:Qc}{d:Bb}(h:e.x<st.doms.length)(y:Nat):(st.put e d).dom y=if e.x=y then d else st.dom y:=Z9 h
theorem Ft(I:B3 st)(hx:l.x<st.doms.length){C:Bool×St->Prop}(h1:B2 l (st.dom l.x)=[]->C (false,st.fail (rs.getD []++[l.neg])))(h2:(∀v∈vals (st.dom l.x),says l v=true)->C (true,st))
  (h3:B2 l (st.dom l.x)≠[]->B3 (st.put ⟨l.x,st.dom l.x,l,rs,sp⟩ (B2 l (st.dom l.x)))->C (true,st.put ⟨l.x,st.dom l.x,l,rs,sp⟩ (B2 l (st.dom l.x)))):C (enter l rs sp st):=by
 have V:=I.valid hx
 unfold enter
 by_cases c:B2 l (st.dom l.x)=[]
 ·rw[if_pos c];exact h1 c
 ·rw[if_neg c]
  by_cases c':B2 l (st.dom l.x)=st.dom l.x
  ·rw[if_pos c']
   refine h2 λv hv=>?_
   rw[←c'] at hv
   exact((Dz V).mp hv).2
  ·rw[if_neg c']
   refine h3 c ⟨?_,?_,?_,?_⟩
   ·show(st.doms.set _ _).length<=50
    rw[List.length_set];exact I.n
   ·intro d hd
    rcases List.mem_or_eq_of_mem_set hd with h|rfl
    ·exact I.v d h
    ·exact K0 V
   ·intro d hd
    rcases List.mem_or_eq_of_mem_set hd with h|rfl
    ·exact I.ne d h
    ·exact c
   ·show(st.trail++[_]).length+Ur (st.doms.set l.x _)<=1000
    have e:=Tn (e:=B2 l (st.dom l.x)) (C8 hx)
    have hlt:(vals (B2 l (st.dom l.x))).length<(vals (st.dom l.x)).length:=by
     rw[MB V]
     rw[List.length_filter_lt_length_iff_exists]
     apply Classical.byContradiction
     intro hn
     exact c' (MC V λv hv=>by
      cases hs:says l v with
      |true=>rfl
      |false=>exact(hn ⟨v,hv,by rw[hs];exact Bool.false_ne_true⟩).elim)
    have:=I.z
    rw[List.length_append,List.length_singleton]
    exact AA [_,_,_,_,_] [] [.l (.p Aa Aq) Aj,.e (.p Ab Af) (.p Aq A2),.u A2 Af] (.l (.p (.p Aa Ae) Ab) Aj) rfl this e hlt
theorem PN(I:B3 st)(hx:l.x<st.doms.length):B3 (enter l rs sp st).2:=by
 refine Ft (C:=λr=>B3 r.2) I hx (λ_=>⟨I.n,I.v,I.ne,I.z⟩) (λ_=>I) λ_ h=>h
theorem PO:(enter l rs sp st).2.doms.length=st.doms.length:=by
 unfold enter
 split
 ·rfl
 ·split
  ·rfl
  ·show(st.doms.set _ _).length=_;rw[List.length_set]
theorem Sj{rs:List CQ}(I:B3 st)(hx:l.x<st.doms.length):B3 (strike l rs st).2:=PN I hx
theorem Sk{rs:List CQ}:(strike l rs st).2.doms.length=st.doms.length:=PO
theorem Wu{ds:List Bb}{x:Nat}{d:Bb}(h:x<ds.length):(ds.set x d).set x (ds.getD x [])=ds:=by
 rw[List.set_set]
 refine List.ext_getElem? λi=>?_
 rw[List.getElem?_set]
 split
 ·rename_i e;subst e
  rw[List.getD_eq_getElem?_getD,List.getElem?_eq_getElem h];rfl
 ·rfl
theorem ME(hx:l.x<st.doms.length):∃es,(enter l rs sp st).2.trail=st.trail++es/\Ie es (enter l rs sp st).2.doms=st.doms/\∀e∈es,e.x<st.doms.length:=by
 unfold enter
 split
 ·exact⟨[],by rw[List.append_nil];rfl,rfl,λe h=>(List.not_mem_nil h).elim⟩
 ·split
  ·exact⟨[],by rw[List.append_nil],rfl,λe h=>(List.not_mem_nil h).elim⟩
  ·exact⟨[_],rfl,Wu hx,λe h=>by rw[List.mem_singleton.mp h];exact hx⟩
theorem Em:(enter l rs sp st).2.firsts=st.firsts/\(enter l rs sp st).2.marks=st.marks:=by
 unfold enter
 split
 ·exact⟨rfl,rfl⟩
 ·split<;>exact⟨rfl,rfl⟩
end
theorem PP{st:St}{l:CQ}{rs:Option (List CQ)}{sp:Int}(I:B3 st)(hx:l.x<st.doms.length):∀x v,v∈vals ((enter l rs sp st).2.dom x)->v∈vals (st.dom x):=by
 refine Ft (C:=λr=>∀x v,v∈vals (r.2.dom x)->v∈vals (st.dom x)) I hx (λ_ _ _ h=>h) (λ_ _ _ h=>h) λ_ _ x v h=>?_
 rw[QM hx] at h
 split at h
 ·rename_i e
  rw[←e]
  exact((Dz (I.valid hx)).mp h).1
 ·exact h
structure AI(st st':St):Prop where
 inv:B3 st'
 len:st'.doms.length=st.doms.length
 trail:∃es,st'.trail=st.trail++es/\Ie es st'.doms=st.doms/\∀e∈es,e.x<st.doms.length
 firsts:st'.firsts=st.firsts
 marks:st'.marks=st.marks
 sub:∀x v,v∈vals (st'.dom x)->v∈vals (st.dom x)
theorem AI.refl{st:St}(I:B3 st):AI st st:=⟨I,rfl,⟨[],by rw[List.append_nil],rfl,λe h=>(List.not_mem_nil h).elim⟩,rfl,rfl,λ_ _ h=>h⟩
theorem AI.trans{a b c:St}(x:AI a b)(y:AI b c):AI a c :=
 ⟨y.inv,y.len.trans x.len,let ⟨e,h,b,l⟩:=x.trail;let ⟨e',h',b',l'⟩:=y.trail;⟨e++e',by rw[h',h,List.append_assoc],by rw[Ii,b',b],λz hz=>(List.mem_append.mp hz).elim (l z) λq=>x.len▸l' z q⟩,y.firsts.trans x.firsts,y.marks.trans x.marks,λv w h=>x.sub v w (y.sub v w h)⟩
noncomputable def DQ(n:Nat)(f:M):Prop:=∀st,B3 st->st.doms.length=n->AI st (f st).2
theorem RJ{st:St}{l:CQ}{rs:Option (List CQ)}{sp:Int}(I:B3 st)(h:l.x<st.doms.length):AI st (enter l rs sp st).2:=⟨PN I h,PO,ME h,Em.1,Em.2,PP I h⟩
theorem B6{l:CQ}{rs:List CQ}(h:l.x<n):DQ n (strike l rs):=λst I e =>
 ⟨Sj I (e▸h),Sk,ME (e▸h),Em.1,Em.2,PP I (e▸h)⟩
theorem Nt{st:St}{c:List CQ}(I:B3 st):AI st (st.fail c):=⟨⟨I.n,I.v,I.ne,I.z⟩,rfl,⟨[],by rw[List.append_nil];rfl,rfl,λe h=>(List.not_mem_nil h).elim⟩,rfl,rfl,λ_ _ h=>h⟩
theorem Us{f g:M}(hf:DQ n f)(hg:DQ n g):DQ n (Bp f g):=λst I e=>by
 have k:=hf st I e
 unfold Bp
 split
 ·exact k.trans (hg _ k.inv (k.len.trans e))
 ·exact k
theorem Bv{α:Type}{f:α->M}:∀{xs:List α},(∀a∈xs,DQ n (f a))->DQ n (Bg f xs)
 |[],_,st,I,e=>AI.refl I
 |a::xs,h,st,I,e=>by
  have k:=h a (List.mem_cons_self ..) st I e
  unfold Bg
  split
  ·exact k.trans (Bv (λb hb=>h b (List.mem_cons_of_mem _ hb)) _ k.inv (k.len.trans e))
  ·exact k
theorem Ut{f:M}(h:DQ n f):∀m,DQ n (FV f m)
 |0,st,I,e=>AI.refl I
 |m+1,st,I,e=>by
  have k:=h st I e
  unfold FV
  split
  ·split
   ·exact k
   ·exact k.trans (Ut h m _ k.inv (k.len.trans e))
  ·exact k
theorem BY{α:Type}:∀{xs:List α} {i:Nat} {b:Nat×α},b∈CR i xs->b.2∈xs/\i<=b.1/\xs[b.1-i]? = some b.2
 |[],_,_,h=>by cases h
 |a::xs,i,b,h=>by
  rcases List.mem_cons.mp h with rfl|h
  ·exact⟨List.mem_cons_self ..,Nat.le_refl _,by simp⟩
  ·refine OK (BY h) λh1 h2 h3=>?_
   refine⟨List.mem_cons_of_mem _ h1,by exact AA [_,_] [] [.l (.p Aa Ae) Ab] (.l Aa Ab) rfl h2,?_⟩
   rw[show b.1-i=b.1-(i+1)+1 by exact M4 (AA [_,_,_,_] [] [.e (.p Aa Af) Ab,.l Ab (.p Aq (.p Af Ae))] (.l Aa (.p Aq Ae)) rfl (IC (AA [_,_] [] [.l (.p Ab Ae) Aa] (.l Ab Aa) rfl h2)) (J7 _ _)) (AA [_,_,_,_] [] [.e (.p Aq (.p Af Ae)) Ab,.l Ab (.p Aa Af)] (.l (.p Aq Ae) Aa) rfl (IC (AA [_,_] [] [.l (.p Ab Ae) Aa] (.l (.p Ab Ae) Aa) rfl h2)) (J7 _ _)),List.getElem?_cons_succ];exact h3
theorem BJ.off{p:Dn}{x dx:Addr}(A:BJ C x dx mP H)(O:EI p H H')(h1:x∉p.all)(h2:dx∉p.all):BJ C x dx mP H':=⟨(O x h1).trans A.hx,(O dx h2).trans A.hd⟩
theorem BJ.set{x dx:Addr}{A':AO}(A:BJ C x dx mP H)(h:H a=none):BJ C x dx mP (H.set a A') :=
 ⟨(KH.set_ne _ _ (by rintro rfl;rw[A.hx] at h;exact sN h)).trans A.hx,(KH.set_ne _ _ (by rintro rfl;rw[A.hd] at h;exact sN h)).trans A.hd⟩
section
variable {B:Base} {cS cC cI:Addr} {n nv:Nat} {H H' H0c:KH} {K:D->KH->Prop} {p:Dn} {st:St} {C x dx:Addr} {mP:List (Str×D)}
theorem PQ{α:Type}{f:α->M}{enc:α->D}{body:Bw->KH->KS->Prop}{tgt:Qb}{sta:St}(R:Bw->Prop):∀(xs:List α) (st:St) (H:KH) (ρ:Bw) (KK:KS),(∀a∈xs,DQ sta.doms.length (f a)) ->
  (∀a∈xs,∀st H ρ,AI sta st->AB C p st H->EI p H0c H->R ρ->∀KK:KS,(∀H' ρ',AB C p (f a st).2 H'->EI p H0c H'->R ρ'->if(f a st).1=true then KK .next ρ' H' else KK (.ret (.bool false)) ρ' H')->∃ρ1,D5 tgt (enc a) ρ=some ρ1/\body ρ1 H KK) ->
  AI sta st->AB C p st H->EI p H0c H->R ρ->(∀H' ρ',AB C p (Bg f xs st).2 H'->EI p H0c H'->R ρ'->if(Bg f xs st).1=true then KK .next ρ' H' else KK (.ret (.bool false)) ρ' H') ->
  Bm body tgt (xs.map enc) ρ H KK
 |[],st,H,ρ,KK,hk,hb,I,S,O,r,C5=>C5 H ρ S O r
 |a::xs,st,H,ρ,KK,hk,hb,I,S,O,r,C5=>by
  have kp:=hk a (List.mem_cons_self ..) st I.inv I.len
  obtain⟨ρ1,e0a,k⟩:=hb a (List.mem_cons_self ..) st H ρ I S O r (λf ρ2 H0b=>match f with
   |.next=>Bm body tgt (xs.map enc) ρ2 H0b KK
   |.cont=>Bm body tgt (xs.map enc) ρ2 H0b KK
   |.brk=>KK .next ρ2 H0b
   |.ret d=>KK (.ret d) ρ2 H0b) (λH' ρ' S' O' r'=>by
    unfold Bg at C5
    by_cases c:(f a st).1=true
    ·rw[if_pos c] at C5 ⊢
     exact PQ R xs _ H' ρ' KK (λb hb=>hk b (List.mem_cons_of_mem _ hb)) (λb h=>hb b (List.mem_cons_of_mem _ h)) (I.trans kp) S' O' r' C5
    ·rw[if_neg c] at C5 ⊢
     have:=C5 H' ρ' S' O' r'
     rwa [if_neg (by simp)] at this)
  show match D5 tgt (enc a) ρ with|some ρ'=>_|none=>False
  rw[e0a];exact k
theorem J4{c:Bool}{a b:Prop}(h1:c=true->a)(h2:c=false->b):if c=true then a else b:=by
 cases c with
 |true=>rw[if_pos rfl];exact h1 rfl
 |false=>rw[if_neg (by simp)];exact h2 rfl
theorem Gl{α:Type}{f:α->D}:∀(xs:List α) (i:Nat),Bc i (xs.map f)=(CR i xs).map λb=>.tup [.int b.1,f b.2]
 |[],_=>rfl
 |a::xs,i=>by
  show D.tup [.int i,f a]::Bc (i+1) (xs.map f)=_
  rw[Gl xs (i+1)];rfl
theorem Gm(P:AS B cS cC cI){l:CQ}{rs:List CQ}{b:Bool}(S:AB cS p st H)(I:B3 st)(hx:l.x<st.doms.length)(hr:rs.length<100000)
  (hd:BC H d=some (b,rs.map BL)) (k:FU cS p (strike l rs st).2 H (K (.bool (strike l rs st).1))):AJ B (n+5) cS "strike" [.ref p.a,BL l,d] H K :=
 Wm P S hx (by have:=I.n;exact AA [_,_] [] [.u Aa Ab,.l Ab A0] (.u Aa Av) rfl hx this) (by have:=I.len hx;exact AA [_] [] [.l Aa Aj] (.u Aa A4) rfl this) (by have:=I.tl;exact AA [_] [] [.l Aa Aj] (.u Aa Ao) rfl this) hr hd k
theorem BR{x:Nat}(h:x<nv):DQ nv (AT many x):=Us (B6 h) (B6 h)
theorem HG{x:Nat}{v:Int}{b:Nat×Nat}(h:b.2<nv):DQ nv (HF i x v b):=λst I e=>by
 unfold HF
 split
 ·exact B6 h st I e
 ·exact AI.refl I
theorem GG{a:Nat×Nat}(hs:∀y∈sc,y<nv):DQ nv (Fq sc a):=λst I e=>by
 unfold Fq
 split
 ·exact Bv (λb hb=>HG (hs _ (BY hb).1)) st I e
 ·exact AI.refl I
theorem Fa(hs:∀y∈sc,y<nv):DQ nv (part sc):=Bv λ_ _=>GG hs
noncomputable def R7(x a:Addr)(ρ:Bw):Prop:=∃o2 o3 o4 o5 o6,ρ=[some (.ref x),some (.ref a),o2,o3,o4,o5,o6,none]
theorem dd(P:AS B cS cC cI)(S:AB cS p st H)(A:BJ cC x dx (Cj sc) H)(hx:x∉p.all)(hdx:dx∉p.all)(I:B3 st)(hs:∀y∈sc,y<st.doms.length)
  (k:FU cS p (part sc st).2 H (K (.bool (part sc st).1))):AJ B (n+6) cC "part" [.ref x,.ref p.a] H K:=by
 refine Lh P ?_
 refine Bl (v:=.tup (sc.map AE)) A P.jn rfl ?_
 show Bm (AQ B (n+5) FI) (.t [2,3]) (Bc 0 (sc.map AE)) _ _ _
 rw[Gl]
 refine PQ (sta:=st) (H0c:=H) (C:=cS) (p:=p) (f:=Fq sc) (R7 x p.a) (CR 0 sc) st H _ _ (λ_ _=>GG hs) ?_ (AI.refl I) S (EI.refl _ _) ⟨none,none,none,none,none,rfl⟩ ?_
 ·intro a ha st1 H0a ρ k0a S0b O0b rc KK hk
  refine Ve rc λo2 o3 o4 o5 o6 mN=>?_;subst mN
  have ha2:=(BY ha).1
  have hxa:a.2<st1.doms.length:=k0a.len▸hs _ ha2
  refine⟨_,rfl,?_⟩
  refine Bf S0b rfl P.j1 ?_
  show AJ B (n+5) cS "is_fixed" [.ref p.a,.int a.2] H0a _
  refine Jw P S0b hxa ?_
  unfold Fq at hk
  refine J4 (λc=>?_) λc=>?_
  ·rw[if_pos c] at hk
   refine Bf S0b rfl P.j3 ?_
   show AJ B (n+5) cS "value" [.ref p.a,.int a.2] H0a _
   refine QK P S0b hxa (Nr c) ?_
   refine Bl (v:=.tup (sc.map AE)) (A.off O0b hx hdx) P.jn rfl ?_
   show Bm (AQ B (n+5) FH) (.t [5,6]) (Bc 0 (sc.map AE)) _ _ _
   rw[Gl]
   refine PQ (sta:=st) (H0c:=H) (C:=cS) (p:=p) (f:=HF a.1 a.2 (AL (st1.dom a.2))) (λρ=>∃o5 o6,ρ=[some (.ref x),some (.ref p.a),some (.int a.1),some (.int a.2),some (.int (AL (st1.dom a.2))),o5,o6,none])
    (CR 0 sc) st1 H0a _ _ (λb hb=>HG (hs _ (BY hb).1)) ?_ k0a S0b O0b ⟨o5,o6,rfl⟩ ?_
   ·intro b hb st2 H0b ρ k0b S0a O0a re KK2 hk2
    refine OI re λo5 o6 mN=>?_;subst mN
    have hxb:b.2<st2.doms.length:=k0b.len▸hs _ (BY hb).1
    refine⟨_,rfl,?_⟩
    refine MA ?_
    unfold HF at hk2
    refine BB (λc1=>?_) λc1=>?_
    ·refine Bf S0a rfl P.jz ?_
     show AJ B (n+5) cS "has" [.ref p.a,.int b.2,.int (AL (st1.dom a.2))] H0b _
     refine Nm P S0a hxb ?_
     refine J4 (λc2=>?_) λc2=>?_
     ·rw[if_pos ⟨λe=>c1 (by exact Int.le_antisymm (AA [_,_] [] [.e Aa Ab] (.L Ag Al) rfl e) (AA [_,_] [] [.r Aa Ab] (.L Al Ag) rfl e)),c2⟩] at hk2
      refine Bf S0a rfl P.jt ?_
      show AJ B (n+5) cS "strike" [.ref p.a,BL ⟨b.2,.ne,AL (st1.dom a.2)⟩,.tup [BL ⟨a.2,.eq,AL (st1.dom a.2)⟩]] H0b _
      refine Gm P (rs:=[⟨a.2,.eq,AL (st1.dom a.2)⟩]) S0a k0b.inv hxb (of_decide_eq_true rfl) rfl λH0d S0c O0c=>?_
      have:=hk2 H0d [some (.ref x),some (.ref p.a),some (.int a.1),some (.int a.2),some (.int (AL (st1.dom a.2))),some (.int b.1),some (.int b.2),none] S0c (O0a.trans O0c) ⟨_,_,rfl⟩
      generalize (strike _ _ st2).1=r at this ⊢
      cases r with
      |true=>rw[if_pos rfl] at this;exact this
      |false=>rw[if_neg (by simp)] at this;exact this
     ·rw[if_neg (λh=>by rw[c2] at h;exact Jf h.2)] at hk2
      have:=hk2 H0b [some (.ref x),some (.ref p.a),some (.int a.1),some (.int a.2),some (.int (AL (st1.dom a.2))),some (.int b.1),some (.int b.2),none] S0a O0a ⟨_,_,rfl⟩
      rw[if_pos rfl] at this
      exact this
    ·rw[if_neg (λh=>c1 (λe=>h.1 (by exact M4 (AA [_,_] [] [.E Ag Al] (.l Aa Ab) rfl e) (AA [_,_] [] [.R Ag Al] (.l Ab Aa) rfl e))))] at hk2
     have:=hk2 H0b [some (.ref x),some (.ref p.a),some (.int a.1),some (.int a.2),some (.int (AL (st1.dom a.2))),some (.int b.1),some (.int b.2),none] S0a O0a ⟨_,_,rfl⟩
     rw[if_pos rfl] at this
     exact this
   ·intro H0b ρ S0a O0a re
    refine OI re λo5 o6 mN=>?_;subst mN
    have:=hk H0b [some (.ref x),some (.ref p.a),some (.int a.1),some (.int a.2),some (.int (AL (st1.dom a.2))),o5,o6,none] S0a O0a ⟨_,_,_,_,_,rfl⟩
    generalize (Bg _ _ st1).1=r at this ⊢
    cases r with
    |true=>rw[if_pos rfl] at this ⊢;exact this
    |false=>rw[if_neg (by simp)] at this ⊢;exact this
  ·rw[if_neg (by rw[c];simp)] at hk
   have:=hk H0a [some (.ref x),some (.ref p.a),some (.int a.1),some (.int a.2),o4,o5,o6,none] S0b O0b ⟨_,_,_,_,_,rfl⟩
   rw[if_pos rfl] at this
   exact this
 ·intro H0a ρ S0b O0b rc
  have:=k H0a S0b O0b
  unfold part at this
  refine J4 (λc=>?_) λc=>?_
  ·rw[c] at this;exact this
  ·rw[c] at this;exact this
def Bx(sc:List Nat)(many:Int)(st:St):Prop:=∀y∈sc,∀v∈vals (st.dom y),1<=v/\v<=many
theorem Bx.keep{st':St}(h:Bx sc many st)(k:AI st st'):Bx sc many st':=λy hy v hv=>h y hy v (k.sub y v hv)
theorem K3{e:Int}(h1:1<=e)(h2:e<=sc.length):sc[(e-1).toNat]? = some (DK sc e):=by
 unfold DK
 have:(e-1).toNat<sc.length:=by exact(Int.le_total 0 _).elim (λmH=>AA [_,_] [_] [.L Ac Al,.E Ag (.s Ac Ah)] (.u Aa Ab) rfl h2 (Int.toNat_of_nonneg mH)) (λmH=>AA [_,_] [_] [.L Ah Ac,.L Ac Al,.e Aa Am] (.u Aa Ab) rfl h1 h2 (Int.toNat_of_nonpos mH))
 rw[List.getD_eq_getElem?_getD,List.getElem?_eq_getElem this];rfl
theorem Ck{e:Int}(h1:1<=e)(h2:e<=sc.length):DK sc e∈sc:=List.mem_of_getElem? (K3 h1 h2)
theorem Jz{e:Int}(h1:1<=e)(h2:e<=sc.length):T7 (sc.map AE) (e-1)=some (.int (DK sc e)):=by
 have:e-1=((e-1).toNat:Int):=by exact Int.le_antisymm (AA [_] [_] [.L (.s Ac Ah) Ag] (.L (.s Ac Ah) Ag) rfl (Int.self_le_toNat _)) ((Int.le_total 0 _).elim (λmH=>AA [_] [_] [.E Ag (.s Ac Ah)] (.L Ag (.s Ac Ah)) rfl (Int.toNat_of_nonneg mH)) (λmH=>AA [_] [_] [.L Ah Ac,.e Aa Am] (.L Ag (.s Ac Ah)) rfl h1 (Int.toNat_of_nonpos mH)))
 rw[this]
 exact Cu (f:=AE) (K3 h1 h2)
theorem CV{x:Nat}(h:CU (st.dom x)=true):AL (st.dom x)∈vals (st.dom x):=by rw[FZ h];exact List.mem_singleton.mpr rfl
theorem HH(a b:Int):Internal.upto a b=(CD a b).map .int:=by unfold Internal.upto CD;rw[List.map_map];rfl
theorem Bo{a b v:Int}:v∈CD a b↔a<=v/\v<b:=by
 unfold CD
 rw[List.mem_map]
 constructor
 ·rintro⟨i,hi,rfl⟩;rw[List.mem_range] at hi;exact⟨AA [_] [_] [] (.L Ac (.p Ac Ag)) rfl,(Int.le_total 0 _).elim (λmH=>AA [_,_] [_,_] [.u Aa Ab,.E Al (.s Ad Ac)] (.U (.p Ac Ag) Ad) rfl hi (Int.toNat_of_nonneg mH)) (λmH=>(AA [_,_] [] [.u Aa Ab,.e Ab Am] .f rfl hi (Int.toNat_of_nonpos mH)).elim)⟩
 ·intro h;exact⟨(v-a).toNat,by rw[List.mem_range];exact(Int.le_total 0 _).elim (λmH=>AA [_,_] [_,_,_] [.U Ac Ai,.E Ag (.s Ac Ad),.L (.s Ai Ad) Al] (.u Aa Ab) rfl h.2 (Int.toNat_of_nonneg mH) (Int.self_le_toNat _)) (λmH=>AA [_,_] [_,_,_] [.U Ac Ai,.L Ad Ac,.e Aa Am,.L (.s Ai Ad) Al] (.u Aa Ab) rfl h.2 h.1 (Int.toNat_of_nonpos mH) (Int.self_le_toNat _)),by exact Int.le_antisymm ((Int.le_total 0 _).elim (λmH=>AA [_] [_,_] [.E Ag (.s Ad Ac)] (.L (.p Ac Ag) Ad) rfl (Int.toNat_of_nonneg mH)) (λmH=>AA [_] [_,_] [.L Ac Ad,.e Aa Am] (.L (.p Ac Ag) Ad) rfl h.1 (Int.toNat_of_nonpos mH))) (AA [_] [_,_] [.L (.s Ad Ac) Ag] (.L Ad (.p Ac Ag)) rfl (Int.self_le_toNat _))⟩
theorem QN{b e:Int}{rs:List CQ}(h:DK sc e<nv):DQ nv (Ij sc b e rs):=λst I q=>by
 unfold Ij
 split
 ·exact Nt I
 ·split
  ·exact B6 h st I q
  ·exact AI.refl I
theorem JE{b:Int}(R:Bx sc sc.length st):∀(m:Nat) (e:Int) (rs:List CQ),1<=e->e<=sc.length->1<=(CS st sc b m e rs).1/\(CS st sc b m e rs).1<=sc.length
 |0,e,rs,h1,h2=>⟨h1,h2⟩
 |m+1,e,rs,h1,h2=>by
  unfold CS
  split
  ·rename_i c
   have:=R _ (Ck h1 h2) _ (CV c.2)
   split
   ·exact this
   ·exact JE R m _ _ this.1 this.2
  ·exact⟨h1,h2⟩
theorem Nu{b:Int}:∀(m:Nat) (e:Int) (rs:List CQ),rs.length<=sc.length->(CS st sc b m e rs).2.length<=sc.length
 |0,e,rs,h=>h
 |m+1,e,rs,h=>by
  unfold CS
  split
  ·rename_i c
   split
   ·show(rs++[_]).length<=_;rw[List.length_append,List.length_singleton];exact AA [_,_] [] [.u Aa Ab] (.l (.p Aa Ae) Ab) rfl c.1
   ·exact Nu m _ _ (by rw[List.length_append,List.length_singleton];exact AA [_,_] [] [.u Aa Ab] (.l (.p Aa Ae) Ab) rfl c.1)
  ·exact h
noncomputable abbrev ao(x a:Addr)(n b:Int)(e:Option D)(r o:Option D):Bw:=[some (.ref x),some (.ref a),some (.int n),some (.int b),e,r,o,none,none,none]
theorem RK(P:AS B cS cC cI){b:Int}(S:AB cS p st H)(A:BJ cC x dx (Cj sc) H)(ha:H a=none)(hs:∀y∈sc,y<st.doms.length)(R:Bx sc sc.length st)(hz:sc.length<1000) :
  ∀(m:Nat) (e:Int) (rs:List CQ) (o6:Option D) (KK:KS),1<=e->e<=sc.length->rs.length<=sc.length->m+rs.length=sc.length+1 ->
  (∀o6,KK .next (ao x p.a sc.length b (some (.int (CS st sc b m e rs).1)) (some (.ref a)) o6) (H.set a (.list ((CS st sc b m e rs).2.map BL)))) ->
  Cw (Cr B (n+5) DE) (AQ B (n+5) DF) m (ao x p.a sc.length b (some (.int e)) (some (.ref a)) o6) (H.set a (.list (rs.map BL))) KK
 |0,e,rs,o6,KK,h1,h2,h3,h4,hk=>by exact(AA [_,_] [] [.r (.p Am Ab) (.p Aa Ae),.l Ab Aa] .f rfl h4 h3).elim
 |m+1,e,rs,o6,KK,h1,h2,h3,h4,hk=>by
  have S0b:∀A',AB cS p st (H.set a A'):=λA'=>S.set (S.fresh ha)
  have A0b:∀A',BJ cC x dx (Cj sc) (H.set a A'):=λA'=>A.set ha
  have hx:=hs _ (Ck h1 h2)
  unfold CS at hk
  refine B1 (AZ (KH.set_self ..)) ?_
  refine Lm ?_
  refine BB (λc=>?_) λc=>?_
  ·have c':rs.length<sc.length:=by rw[List.length_map] at c;exact AA [_,_] [] [.U Ag Al] (.u Aa Ab) rfl c
   refine Bf (S0b _) rfl P.j1 ?_
   refine Bl (v:=.tup (sc.map AE)) (A0b _) P.jn rfl ?_
   refine AP (d:=.tup (sc.map AE)) rfl (Jz h1 h2) ?_
   show AJ B (n+5) cS "is_fixed" [.ref p.a,.int (DK sc e)] _ _
   refine Jw P (S0b _) hx ?_
   refine J4 (λf=>?_) λf=>?_
   ·have cc:rs.length<sc.length/\CU (st.dom (DK sc e))=true:=⟨c',f⟩
    simp only[if_pos cc] at hk
    refine Bl (v:=.tup (sc.map AE)) (A0b _) P.jn rfl ?_
    refine AP (d:=.tup (sc.map AE)) rfl (Jz h1 h2) ?_
    refine Bf (S0b _) rfl P.j3 ?_
    show AJ B (n+5) cS "value" [.ref p.a,.int (DK sc e)] _ _
    refine QK P (S0b _) hx (Nr f) ?_
    refine⟨⟨_,KH.set_self ..⟩,?_⟩
    refine Ca (KH.set_self ..) (by rw[List.length_map];exact AA [_,_] [] [.l Aa Ab,.u Ab Aj] (.u Aa Ao) rfl h3 hz) ?_
    rw[KH.set_set]
    have em:rs.map BL++[BL ⟨DK sc e,.eq,AL (st.dom (DK sc e))⟩]=(rs++[(⟨DK sc e,.eq,AL (st.dom (DK sc e))⟩:CQ)]).map BL:=by rw[List.map_append];rfl
    have hv:=R _ (Ck h1 h2) _ (CV f)
    refine DI ?_
    refine BB (λq=>?_) λq=>?_
    ·simp only[if_pos q] at hk
     have:=hk (some (.int (DK sc e)))
     rw[←em] at this
     exact this
    ·simp only[if_neg q] at hk
     have:=RK P S A ha hs R hz m (AL (st.dom (DK sc e))) (rs++[⟨DK sc e,.eq,AL (st.dom (DK sc e))⟩]) (some (.int (DK sc e))) KK hv.1 hv.2 (by rw[List.length_append,List.length_singleton];exact AA [_,_] [] [.u Aa Ab] (.l (.p Aa Ae) Ab) rfl c') (by rw[List.length_append,List.length_singleton];exact Nat.le_antisymm (AA [_,_,_] [] [.e (.p (.p Aa Ae) Ab) (.p Af Ae)] (.l (.p Aa (.p Ab Ae)) (.p Af Ae)) rfl h4) (AA [_,_,_] [] [.r (.p (.p Aa Ae) Ab) (.p Af Ae)] (.l (.p Af Ae) (.p Aa (.p Ab Ae))) rfl h4)) hk
     rw[←em] at this
     exact this
   ·have cc:¬(rs.length<sc.length/\CU (st.dom (DK sc e))=true):=λh=>by rw[f] at h;exact Jf h.2
    simp only[if_neg cc] at hk
    exact hk o6
  ·have c':¬rs.length<sc.length:=by rw[List.length_map] at c;exact Nat.not_lt_of_le (AA [_,_] [] [.L Ag Al] (.l Aa Ab) rfl (Int.not_lt.mp c))
   have cc:¬(rs.length<sc.length/\CU (st.dom (DK sc e))=true):=λh=>c' h.1
   simp only[if_neg cc] at hk
   exact hk o6
theorem GH{b:Int}(hs:∀y∈sc,y<nv)(h1:1<=b)(h2:b<=sc.length):∀st,B3 st->st.doms.length=nv->Bx sc sc.length st->AI st (Fr sc b st).2:=λst I e R=>by
 have q:=JE (b:=b) R (sc.length+1) b [] h1 h2
 exact QN (hs _ (Ck q.1 q.2)) st I e
theorem Sl{α:Type}{f:α->M}{enc:α->D}{body:Bw->KH->KS->Prop}{tgt:Qb}{sta:St}(R:Bw->Prop):∀(xs:List α) (st:St) (H:KH) (ρ:Bw) (KK:KS),(∀a∈xs,∀st,AI sta st->AI st (f a st).2) ->
  (∀a∈xs,∀st H ρ,AI sta st->AB C p st H->EI p H0c H->R ρ->∀KK:KS,(∀H' ρ',AB C p (f a st).2 H'->EI p H0c H'->R ρ'->if(f a st).1=true then KK .next ρ' H' else KK (.ret (.bool false)) ρ' H')->∃ρ1,D5 tgt (enc a) ρ=some ρ1/\body ρ1 H KK) ->
  AI sta st->AB C p st H->EI p H0c H->R ρ->(∀H' ρ',AB C p (Bg f xs st).2 H'->EI p H0c H'->R ρ'->if(Bg f xs st).1=true then KK .next ρ' H' else KK (.ret (.bool false)) ρ' H') ->
  Bm body tgt (xs.map enc) ρ H KK
 |[],st,H,ρ,KK,hk,hb,I,S,O,r,C5=>C5 H ρ S O r
 |a::xs,st,H,ρ,KK,hk,hb,I,S,O,r,C5=>by
  have kp:=hk a (List.mem_cons_self ..) st I
  obtain⟨ρ1,e0a,k⟩:=hb a (List.mem_cons_self ..) st H ρ I S O r (λf ρ2 H0b=>match f with
   |.next=>Bm body tgt (xs.map enc) ρ2 H0b KK
   |.cont=>Bm body tgt (xs.map enc) ρ2 H0b KK
   |.brk=>KK .next ρ2 H0b
   |.ret d=>KK (.ret d) ρ2 H0b) (λH' ρ' S' O' r'=>by
    unfold Bg at C5
    by_cases c:(f a st).1=true
    ·rw[if_pos c] at C5 ⊢
     exact Sl R xs _ H' ρ' KK (λb hb=>hk b (List.mem_cons_of_mem _ hb)) (λb h=>hb b (List.mem_cons_of_mem _ h)) (I.trans kp) S' O' r' C5
    ·rw[if_neg c] at C5 ⊢
     have:=C5 H' ρ' S' O' r'
     rwa [if_neg (by simp)] at this)
  show match D5 tgt (enc a) ρ with|some ρ'=>_|none=>False
  rw[e0a];exact k
theorem J0(h:K (.int ds.length) H):XR (.lst ds) H K:=B1 rfl h
theorem Im(hs:∀y∈sc,y<nv):∀st,B3 st->st.doms.length=nv->Bx sc sc.length st->AI st (ED sc st).2:=by
 intro st I e R
 have main:∀(xs:List Int) (st':St),(∀b∈xs,1<=b/\b<=sc.length)->AI st st'->AI st (Bg (Fr sc) xs st').2:=by
  intro xs
  induction xs with
  |nil=>intro st' _ k;exact k
  |cons b xs ih =>
   intro st' hb k
   refine Ea (hb b (List.mem_cons_self ..)) λh1 h2=>?_
   have k':=k.trans (GH hs h1 h2 st' k.inv (k.len.trans e) (R.keep k))
   unfold Bg
   split
   ·exact ih _ (λc hc=>hb c (List.mem_cons_of_mem _ hc)) k'
   ·exact k'
 exact main _ st (λb hb=>by have:=Bo.mp hb;exact⟨AA [] [_] [.L Ah Ac] (.L Ah Ac) rfl this.1,AA [_] [_] [.U Ac (.p Ag Ah)] (.L Ac Ag) rfl this.2⟩) (AI.refl I)
theorem aA(P:AS B cS cC cI)(S:AB cS p st H)(A:BJ cC x dx (Cj sc) H)(hx:x∉p.all)(hdx:dx∉p.all)(I:B3 st)(hs:∀y∈sc,y<st.doms.length)(R:Bx sc sc.length st)(hz:sc.length<1000)
  (k:FU cS p (ED sc st).2 H (K (.bool (ED sc st).1))):AJ B (n+6) cC "open_rings" [.ref x,.ref p.a] H K:=by
 refine HB P ?_
 refine Bl (v:=.tup (sc.map AE)) A P.jn rfl ?_
 refine B1 (d:=.tup (sc.map AE)) rfl ?_
 refine⟨by unfold BA;exact⟨AA [] [] [] (.L (.g Ap) Ah) rfl,AA [] [] [] (.L Ah Ap) rfl⟩,by rw[List.length_map];unfold BA;exact⟨AA [_] [] [] (.L (.g Ap) (.p Ag Ah)) rfl,AA [_] [] [.u Aa Aj] (.L (.p Ag Ah) Ap) rfl hz⟩,?_⟩
 rw[List.length_map,HH]
 refine Sl (sta:=st) (H0c:=H) (C:=cS) (p:=p) (f:=Fr sc) (λρ=>∃o3 o4 o5 o6,ρ=[some (.ref x),some (.ref p.a),some (.int sc.length),o3,o4,o5,o6,none,none,none]) (CD 1 (sc.length+1)) st H _ _ ?_ ?_ (AI.refl I) S (EI.refl _ _) ⟨none,none,none,none,rfl⟩ ?_
 ·intro b hb st1 k0a
  have:=Bo.mp hb
  exact GH (λy hy=>k0a.len▸hs y hy) this.1 (by exact AA [] [_,_] [.U Ac (.p Ad Ah)] (.L Ac Ad) rfl this.2) st1 k0a.inv rfl (R.keep k0a)
 ·intro b hb st1 H0a ρ k0a S0b O0b rc KK hk
  refine gX rc λo3 o4 o5 o6 mN=>?_;subst mN
  have hb':=Bo.mp hb
  have R0a:=R.keep k0a
  have hsa:∀y∈sc,y<st1.doms.length:=λy hy=>k0a.len▸hs y hy
  have A0b:=A.off O0b hx hdx
  refine⟨_,rfl,?_⟩
  intro a ha
  refine⟨rfl,sc.length+1,?_⟩
  refine RK P S0b A0b ha hsa R0a hz (b:=b) (sc.length+1) b [] o6 _ hb'.1 (by exact AA [] [_,_] [.U Ac (.p Ad Ah)] (.L Ac Ad) rfl hb'.2) (by simp) (by simp) λo6=>?_
  have q:=JE (b:=b) R0a (sc.length+1) b [] hb'.1 (by exact AA [] [_,_] [.U Ac (.p Ad Ah)] (.L Ac Ad) rfl hb'.2)
  have ql:=Nu (sc:=sc) (st:=st1) (b:=b) (sc.length+1) b [] (by simp)
  unfold Fr at hk
  generalize (CS st1 sc b (sc.length+1) b []).1=e at q hk ⊢
  generalize (CS st1 sc b (sc.length+1) b []).2=rs at ql hk ⊢
  refine Gk (KH.set_self ..) ?_
  show AQ B (n+5) _ (ao x p.a sc.length b (some (.int e)) (some (.lst (rs.map BL))) o6) ((H0a.set a _).erase a) _
  rw[KH.erase_set _ _ _ ha]
  unfold Ij at hk
  have two:(¬(e=b/\0<rs.length/\rs.length<sc.length))->AQ B (n+5) (.cons (.ite (.and (.cmp (.bin .Add (.blt .len (.cons (.var 5) .nil)) (.int 1)) .Lt (.var 2)) (.meth (.var 1) "has" (.cons (.sub (.attr (.var 0) "scope") (.bin .Sub (.var 4) (.int 1))) (.cons (.var 3) .nil))))
    (.cons (.ite (.not (.meth (.var 1) "strike" (.cons (.tup (.cons (.sub (.attr (.var 0) "scope") (.bin .Sub (.var 4) (.int 1))) (.cons (.str "!=") (.cons (.var 3) .nil)))) (.cons (.blt .tuple (.cons (.var 5) .nil)) .nil))))
    (.cons (.ret (.bool false)) .nil) .nil) .nil) .nil) .nil) (ao x p.a sc.length b (some (.int e)) (some (.lst (rs.map BL))) o6) H0a KK:=by
   intro nc
   simp only[if_neg nc] at hk
   refine J0 ?_
   refine Lm ?_
   refine BB (λc=>?_) λc=>?_
   ·refine Bf S0b rfl P.jz ?_
    refine Bl (v:=.tup (sc.map AE)) A0b P.jn rfl ?_
    refine AP (d:=.tup (sc.map AE)) rfl (Jz q.1 q.2) ?_
    show AJ B (n+5) cS "has" [.ref p.a,.int (DK sc e),.int b] H0a _
    refine Nm P S0b (hsa _ (Ck q.1 q.2)) ?_
    refine J4 (λf=>?_) λf=>?_
    ·have cc:rs.length+1<sc.length/\EU (st1.dom (DK sc e)) b=true:=⟨by rw[List.length_map] at c;exact AA [_,_] [] [.U (.p Ag Ah) Al] (.u (.p Aa Ae) Ab) rfl c,f⟩
     simp only[if_pos cc] at hk
     refine Bf S0b rfl P.jt ?_
     refine Bl (v:=.tup (sc.map AE)) A0b P.jn rfl ?_
     refine AP (d:=.tup (sc.map AE)) rfl (Jz q.1 q.2) ?_
     refine B5 (d:=.lst (rs.map BL)) rfl ?_
     show AJ B (n+5) cS "strike" [.ref p.a,BL ⟨DK sc e,.ne,b⟩,.tup (rs.map BL)] H0a _
     refine Gm P (rs:=rs) S0b k0a.inv (hsa _ (Ck q.1 q.2)) (by exact AA [_,_] [] [.l Aa Ab,.u Ab Aj] (.u Aa A4) rfl ql hz) rfl λH0b S0a O0a=>?_
     have:=hk H0b (ao x p.a sc.length b (some (.int e)) (some (.lst (rs.map BL))) o6) S0a (O0b.trans O0a) ⟨_,_,_,_,rfl⟩
     generalize (strike _ _ st1).1=r at this ⊢
     cases r with
     |true=>rw[if_pos rfl] at this;exact this
     |false=>rw[if_neg (by simp)] at this;exact this
    ·have cc:¬(rs.length+1<sc.length/\EU (st1.dom (DK sc e)) b=true):=λh=>by rw[f] at h;exact Jf h.2
     simp only[if_neg cc] at hk
     exact hk H0a (ao x p.a sc.length b (some (.int e)) (some (.lst (rs.map BL))) o6) S0b O0b ⟨_,_,_,_,rfl⟩
   ·have cc:¬(rs.length+1<sc.length/\EU (st1.dom (DK sc e)) b=true):=λh=>c (by rw[List.length_map];exact AA [_,_] [] [.u (.p Aa Ae) Ab] (.U (.p Ag Ah) Al) rfl h.1)
    simp only[if_neg cc] at hk
    exact hk H0a (ao x p.a sc.length b (some (.int e)) (some (.lst (rs.map BL))) o6) S0b O0b ⟨_,_,_,_,rfl⟩
  refine DI ?_
  refine BB (λc1=>?_) λc1=>?_
  ·refine J0 ?_
   refine Lm ?_
   refine BB (λc2=>?_) λc2=>?_
   ·refine Lm ?_
    refine BB (λc3=>?_) λc3=>?_
    ·have cc:e=b/\0<rs.length/\rs.length<sc.length:=⟨c1,by rw[List.length_map] at c2;exact AA [_] [] [.U Ak Ag] (.u Am Aa) rfl c2,by rw[List.length_map] at c3;exact AA [_,_] [] [.U Ag Al] (.u Aa Ab) rfl c3⟩
     simp only[if_pos cc] at hk
     refine Bf S0b rfl P.j5 ?_
     refine B5 (d:=.lst (rs.map BL)) rfl ?_
     show AJ B (n+5) cS "fail" [.ref p.a,.tup (rs.map BL)] H0a _
     refine Sf P (c:=rs) S0b λH0b S0a O0a=>?_
     exact hk H0b (ao x p.a sc.length b (some (.int e)) (some (.lst (rs.map BL))) o6) S0a (O0b.trans O0a) ⟨_,_,_,_,rfl⟩
    ·exact two λh=>c3 (by rw[List.length_map];exact AA [_,_] [] [.u Aa Ab] (.U Ag Al) rfl h.2.2)
   ·exact two λh=>c2 (by rw[List.length_map];exact AA [_] [] [.u Am Aa] (.U Ak Ag) rfl h.2.1)
  ·exact two λh=>c1 h.1
 ·intro H0a ρ S0b O0b rc
  have:=k H0a S0b O0b
  unfold ED at this
  refine J4 (λc=>?_) λc=>?_
  ·rw[c] at this;exact this
  ·rw[c] at this;exact this
end
section
variable {B:Base} {cS cC cI:Addr} {n nv:Nat} {H H' H0c:KH} {K:D->KH->Prop} {p:Dn} {st:St} {C x dx:Addr} {mP:List (Str×D)}
theorem En(f:Int->Bool)(xs:List Int):xs.filterMap (λv=>if f v=true then some (D.int v) else none)=AC (xs.filter f):=by
 induction xs with
 |nil=>rfl
 |cons v xs ih =>
  rw[List.filterMap_cons,List.filter_cons]
  cases h:f v
  ·simp only[Bool.false_eq_true,if_false];exact ih
  ·simp only[if_true];rw[ih];rfl
theorem Cb(a b:Int):(CD a b).length=(b-a).toNat:=by simp[CD]
theorem RL(a b:Int):(CD a b).Nodup:=by
 unfold CD
 rw[List.Nodup,List.pairwise_map]
 exact List.pairwise_lt_range.imp λh=>by exact λmL=>AA [_,_] [_] [.u Aa Ab,.R (.p Ac Ag) (.p Ac Al)] .f rfl h mL
theorem JF:∀{xs ys:List Int},xs.Nodup->(∀v∈xs,v∈ys)->xs.length<=ys.length
 |[],ys,_,_=>Nat.zero_le _
 |x::xs,ys,h,hs=>by
  rw[List.nodup_cons] at h
  have hx:=hs x (List.mem_cons_self ..)
  have t1:=JF (ys:=ys.erase x) h.2 λv hv=>(List.mem_erase_of_ne λe=>h.1 (by rw[←e];exact hv)).mpr (hs v (List.mem_cons_of_mem _ hv))
  rw[List.length_erase_of_mem hx] at t1
  have:=List.length_pos_of_mem hx
  rw[List.length_cons]
  exact(Nat.le_total _ _).elim (λmH=>AA [_,_,_] [] [.l Aa Af,.u Am Ab,.e Af Am] (.l (.p Aa Ae) Ab) rfl t1 this (Nat.sub_eq_zero_of_le mH)) (λmH=>AA [_,_,_] [] [.l Aa Af,.e (.p Af Ae) Ab] (.l (.p Aa Ae) Ab) rfl t1 (IC mH))
theorem BZ(ns:List Int):(AC ns).length=ns.length:=by unfold AC;rw[List.length_map]
structure D4(n:Nat)(found:List Int):Prop where
 nd:found.Nodup
 sub:∀v∈found,1<=v/\v<=n
theorem D4.len{found:List Int}(h:D4 n found):found.length<=n:=by
 have:=JF (ys:=CD 1 (n+1)) h.nd λv hv=>by rw[Bo];have:=h.sub v hv;exact⟨AA [] [_] [.L Ah Ac] (.L Ah Ac) rfl this.1,AA [_] [_] [.L Ac Ag] (.U Ac (.p Ag Ah)) rfl this.2⟩
 rw[Cb] at this
 exact(Int.le_total 0 _).elim (λmH=>AA [_,_,_] [] [.l Aa Af,.E (.c Af) (.s (.p Al Ah) Ah)] (.l Aa Ab) rfl this (Int.toNat_of_nonneg mH)) (λmH=>AA [_,_,_] [] [.l Aa Af,.e Af Am] (.l Aa Ab) rfl this (Int.toNat_of_nonpos mH))
theorem D4.grow{found:List Int}(h:D4 sc.length found):D4 sc.length (found++grow st sc found y):=by
 refine⟨List.nodup_append.mpr ⟨h.nd,(RL _ _).filter _,λa ha b hb e=>?_⟩,λv hv=>?_⟩
 ·subst e
  have:=(List.mem_filter.mp hb).2
  simp[ha] at this
 ·rcases List.mem_append.mp hv with hv|hv
  ·exact h.sub v hv
  ·have:=Bo.mp (List.mem_filter.mp hv).1
   exact⟨AA [] [_] [.L Ah Ac] (.L Ah Ac) rfl this.1,AA [_] [_] [.U Ac (.p Ag Ah)] (.L Ac Ag) rfl this.2⟩
noncomputable abbrev jY(x a:Addr)(f pl:D)(s:Int)(o5 o6:Option D):Bw:=[some (.ref x),some (.ref a),some f,some pl,some (.int s),o5,o6,none,none,none,none]
theorem To(P:AS B cS cC cI){l:Addr}(S:AB cS p st H)(A:BJ cC x dx (Cj sc) H)(ha:H l=none)(hs:∀y∈sc,y<st.doms.length)(hn:1<=sc.length)(hz:sc.length<1000) :
  ∀(m:Nat) (found:List Int) (spot:Nat) (o5:Option D) (KK:KS),D4 sc.length found->spot<=found.length->m+spot=sc.length+1 ->
  (∀s o5,KK .next (jY x p.a (.ref l) (.lst (AC (CD 1 (sc.length+1)))) s o5 none) (H.set l (.list (AC (Db st sc m found spot))))) ->
  Cw (Cr B (n+5) EX) (AQ B (n+5) EY) m (jY x p.a (.ref l) (.lst (AC (CD 1 (sc.length+1)))) spot o5 none) (H.set l (.list (AC found))) KK
 |0,found,spot,o5,KK,h1,h2,h3,hk=>by have:=h1.len;exact(AA [_,_,_] [] [.r (.p Am Ab) (.p Aa Ae),.l Ab Af,.l Af Aa] .f rfl h3 h2 this).elim
 |m+1,found,spot,o5,KK,h1,h2,h3,hk=>by
  have S0b:∀A',AB cS p st (H.set l A'):=λA'=>S.set (S.fresh ha)
  have A0b:∀A',BJ cC x dx (Cj sc) (H.set l A'):=λA'=>A.set ha
  unfold Db at hk
  refine B1 (AZ (KH.set_self ..)) ?_
  refine Lm ?_
  refine BB (λc=>?_) λc=>?_
  ·have c':spot<found.length:=by rw[BZ] at c;exact AA [_,_] [] [.U Ag Al] (.u Aa Ab) rfl c
   simp only[if_pos c'] at hk
   refine IA (a:=.lst (AC (CD 1 (sc.length+1)))) (b:=.lst []) (Bn 5 _) rfl ?_
   have ne:OJ (.lst (AC (CD 1 (sc.length+1)))) (.lst [])=false:=(I4 _ _).mpr λe=>by
    have:=congrArg List.length (D.lst.inj e)
    rw[BZ,Cb,List.length_nil] at this
    exact AA [_,_] [] [.l Ae Aa,.e Ab Am,.L (.s (.p Ag Ah) Ah) Al] .f rfl hn this (Int.self_le_toNat _)
   rw[ne]
   have hf:found[spot]? = some (found.getD spot 0):=by rw[List.getD_eq_getElem?_getD,List.getElem?_eq_getElem c'];rfl
   have hr:=h1.sub _ (List.mem_of_getElem? hf)
   refine Bl (v:=.tup (sc.map AE)) (A0b _) P.jn rfl ?_
   refine AP (e:=.int (found.getD spot 0)) (AZ (KH.set_self ..)) (Cu hf) ?_
   refine AP (d:=.tup (sc.map AE)) rfl (Jz hr.1 hr.2) ?_
   refine⟨⟨_,KH.set_self ..⟩,?_⟩
   intro a ha'
   have hal:l≠a:=by rintro rfl;rw[KH.set_self] at ha';exact sN ha'
   have hln:=h1.grow (st:=st) (y:=DK sc (found.getD spot 0))
   have hlen:=hln.len
   rw[List.length_append] at hlen
   refine BX (xs:=CD 1 (sc.length+1)) .int (λv=>if(!decide (v∈found)&&EU (st.dom (DK sc (found.getD spot 0))) v)=true then some (.int v) else none) ha' (by rw[Cb];exact(Int.le_total 0 _).elim (λmH=>AA [_,_] [] [.u Ab Aj,.E Ag (.s (.p Al Ah) Ah)] (.u Aa Ao) rfl hz (Int.toNat_of_nonneg mH)) (λmH=>AA [_] [] [.e Aa Am] (.u Aa Ao) rfl (Int.toNat_of_nonpos mH))) (λv _ acc K' h=>?_) λe1 e2=>⟨e1,?_⟩
   ·refine dc (a:=.int v) ((KH.set_ne _ _ hal).trans (KH.set_self ..)) (CP _ _) (Bn _ _) ?_
    rw[HD Gj]
    refine J4 (λq=>?_) λq=>?_
    ·rw[q,Bool.true_and] at h
     have S0a:AB cS p st ((H.set l (.list (AC found))).set a (.list acc)):=(S0b _).set ((S0b _).fresh ha')
     refine Bf S0a rfl P.jz ?_
     show AJ B (n+5) cS "has" [.ref p.a,.int (DK sc (found.getD spot 0)),.int v] _ _
     refine Nm P S0a (hs _ (Ck hr.1 hr.2)) ?_
     refine J4 (λf=>?_) λf=>?_
     ·rw[if_pos f] at h;exact h
     ·rw[if_neg (by rw[f];simp)] at h;exact h
    ·rw[q,Bool.false_and,if_neg (by simp)] at h
     exact h
   ·rw[if_pos rfl,←e2,En]
    refine RA (KH.set_self ..) (by rw[BZ,BZ];unfold grow at hlen;exact AA [_,_,_] [] [.l (.p Aa Ab) Af,.u Af Aj] (.u (.p Aa Ab) Ao) rfl hlen hz) ?_
    rw[KH.set_set]
    have:=To P S A ha hs hn hz m (found++grow st sc found (DK sc (found.getD spot 0))) (spot+1) (some (.int (DK sc (found.getD spot 0)))) KK hln (by rw[List.length_append];exact AA [_,_,_] [] [.u Aa Ab] (.l (.p Aa Ae) (.p Ab Af)) rfl c') (by exact Nat.le_antisymm (AA [_,_,_] [] [.e (.p (.p Aa Ae) Ab) (.p Af Ae)] (.l (.p Aa (.p Ab Ae)) (.p Af Ae)) rfl h3) (AA [_,_,_] [] [.r (.p (.p Aa Ae) Ab) (.p Af Ae)] (.l (.p Af Ae) (.p Aa (.p Ab Ae))) rfl h3)) hk
    rw[←C7] at this
    exact this
  ·have c':¬spot<found.length:=by rw[BZ] at c;exact Nat.not_lt_of_le (AA [_,_] [] [.L Ag Al] (.l Aa Ab) rfl (Int.not_lt.mp c))
   simp only[if_neg c'] at hk
   exact hk spot o5
theorem Nv:∀(m:Nat) (found:List Int) (spot:Nat),D4 sc.length found->D4 sc.length (Db st sc m found spot)
 |0,found,spot,h=>h
 |m+1,found,spot,h=>by
  unfold Db
  split
  ·exact Nv m _ _ h.grow
  ·exact h
theorem Nw(hn:1<=sc.length):D4 sc.length (DM st sc):=Nv _ _ _ ⟨by simp,λv hv=>by have:=List.mem_singleton.mp hv;exact⟨AA [] [_] [.R Ac Ah] (.L Ah Ac) rfl this,AA [_] [_] [.E Ac Ah,.l Ae Aa] (.L Ac Ag) rfl this hn⟩⟩
theorem aB(P:AS B cS cC cI)(S:AB cS p st H)(A:BJ cC x dx (Cj sc) H)(hs:∀y∈sc,y<st.doms.length)(hn:1<=sc.length)(hz:sc.length<100)
  (k:FU cS p (reach sc st).2 H (K (.bool (reach sc st).1))):AJ B (n+6) cC "reach" [.ref x,.ref p.a] H K:=by
 refine Kt P ?_
 intro l hl
 refine Bl (v:=.tup (sc.map AE)) (A.set hl) P.jn rfl ?_
 refine B1 (d:=.tup (sc.map AE)) rfl ?_
 refine⟨by unfold BA;exact⟨AA [] [] [] (.L (.g Ap) Ah) rfl,AA [] [] [] (.L Ah Ap) rfl⟩,by rw[List.length_map];unfold BA;exact⟨AA [_] [] [] (.L (.g Ap) (.p Ag Ah)) rfl,AA [_] [] [.u Aa Av] (.L (.p Ag Ah) Ap) rfl hz⟩,?_⟩
 rw[List.length_map,HH]
 refine⟨sc.length+1,?_⟩
 refine To P S A hl hs hn (by exact AA [_] [] [.u Aa Av] (.u Aa Aj) rfl hz) (sc.length+1) [1] 0 none _ ⟨by simp,λv hv=>by have:=List.mem_singleton.mp hv;exact⟨AA [] [_] [.R Ac Ah] (.L Ah Ac) rfl this,AA [_] [_] [.E Ac Ah,.l Ae Aa] (.L Ac Ag) rfl this hn⟩⟩ (by simp) (by exact Nat.le_antisymm (AA [_] [] [] (.l (.p (.p Aa Ae) Am) (.p Aa Ae)) rfl) (AA [_] [] [] (.l (.p Aa Ae) (.p (.p Aa Ae) Am)) rfl)) λs o5=>?_
 refine Gk (KH.set_self ..) ?_
 show AQ B (n+5) _ (jY x p.a (.lst (AC (DM st sc))) (.lst (AC (CD 1 (sc.length+1)))) s o5 none) ((H.set l _).erase l) _
 rw[KH.erase_set _ _ _ hl]
 intro a ha
 refine BX (xs:=CD 1 (sc.length+1)) .int (λv=>if(!decide (v∈DM st sc))=true then some (.int v) else none) ha (by rw[Cb];exact(Int.le_total 0 _).elim (λmH=>AA [_,_] [] [.u Ab Av,.E Ag (.s (.p Al Ah) Ah)] (.u Aa Ao) rfl hz (Int.toNat_of_nonneg mH)) (λmH=>AA [_] [] [.e Aa Am] (.u Aa Ao) rfl (Int.toNat_of_nonpos mH))) (λv _ acc K' h=>?_) λe1 e2=>⟨e1,?_⟩
 ·refine Sb (a:=.int v) (ds:=AC (DM st sc)) (CP _ _) (Bn _ _) ?_
  rw[HD Gj]
  refine J4 (λq=>?_) λq=>?_
  ·rw[if_pos q] at h;exact h
  ·rw[if_neg (by rw[q];simp)] at h;exact h
 rw[if_pos rfl,←e2,En]
 unfold reach at k
 refine H9 (a:=.lst (AC (Dc st sc))) (b:=.lst []) (Bn 5 _) rfl ?_
 have eo:OJ (.lst (AC (Dc st sc))) (.lst [])=decide (Dc st sc=[]):=Fp ⟨λe=>List.map_eq_nil_iff.mp (D.lst.inj e),λe=>by rw[e];rfl⟩
 rw[eo]
 refine BB (λc=>?_) λc=>?_
 ·rw[if_pos c] at k
  exact k H S (EI.refl _ _)
 ·rw[if_neg c] at k
  refine Bf S rfl P.j5 ?_
  intro b hb
  have hlo:(Dc st sc).length<=100:=Nat.le_trans (List.length_filter_le ..) (by rw[Cb];exact(Int.le_total 0 _).elim (λmH=>AA [_,_] [] [.u Ab Av,.E Ag (.s (.p Al Ah) Ah)] (.l Aa Av) rfl hz (Int.toNat_of_nonneg mH)) (λmH=>AA [_] [] [.e Aa Am] (.l Aa Av) rfl (Int.toNat_of_nonpos mH)))
  have fo:=Nw (st:=st) hn
  refine Nk .int (λhere=>(Dc st sc).map λv=>BL ⟨DK sc here,.ne,v⟩) 100 (DM st sc) [] (by have:=fo.len;simp;exact AA [_,_] [] [.m 100 (.l Aa Ab),.m 100 (.u Ab Av)] (.u (.t 100 Aa) Ao) rfl this hz) (λ_ _=>by rw[List.length_map];exact hlo) (λhere hh acc K' hlen h=>?_) ⟨by rw[List.nil_append];exact KH.set_self ..,?_⟩
  ·have hr:=fo.sub _ hh
   refine Mu (H:=H) (a:=b) .int (λv=>some (BL ⟨DK sc here,.ne,v⟩)) (Dc st sc) acc (by rw[List.length_map] at hlen;exact hlen) (λv _ acc K'' h'=>?_) ?_
   ·refine Bl (v:=.tup (sc.map AE)) (A.set hb) P.jn rfl ?_
    exact AP (d:=.tup (sc.map AE)) rfl (Jz hr.1 hr.2) h'
   ·rw[List.filterMap_eq_map'];exact h
  ·show Ly (.lst _) ((H.set b _).erase b) _
   rw[KH.erase_set _ _ _ hb]
   refine B5 (d:=.lst _) rfl ?_
   have ec:(DM st sc).flatMap (λhere=>(Dc st sc).map λv=>BL ⟨DK sc here,.ne,v⟩)=(Wr sc (DM st sc) (Dc st sc)).map BL:=by
    unfold Wr
    rw[List.map_flatMap]
    congr 1
    funext here
    rw[List.map_map];rfl
   rw[List.nil_append,ec]
   exact Sf P S k
end
section
variable {B:Base} {cS cC cI:Addr} {n nv:Nat} {H H' H0c:KH} {K:D->KH->Prop} {p:Dn} {st:St} {C x dx:Addr} {mP:List (Str×D)}
theorem Io{l:CQ}{rs:List CQ}(I:B3 st)(hx:l.x<st.doms.length):(strike l rs st).1=true->∀v∈vals ((strike l rs st).2.dom l.x),says l v=true:=by
 unfold strike
 refine Ft (C:=λr=>r.1=true->∀v∈vals (r.2.dom l.x),says l v=true) I hx (λ_ h=>by exact Jf h) (λh _=>h) λ_ _ _ v hv=>?_
 rw[QM hx,if_pos rfl] at hv
 exact((Dz (I.valid hx)).mp hv).2
theorem Eu{f g:M}(h:(Bp f g st).1=true):(f st).1=true/\(g (f st).2).1=true/\(Bp f g st).2=(g (f st).2).2:=by
 unfold Bp at h ⊢
 split at h
 ·rename_i c;rw[if_pos c];exact⟨c,h,rfl⟩
 ·exact Jf h
theorem RM(I:B3 st)(hy:y<st.doms.length)(h:(AT many y st).1=true):∀v∈vals ((AT many y st).2.dom y),1<=v/\v<=many:=by
 refine OK (Eu h) λh1 h2 h3=>?_
 have k1:=B6 (l:=⟨y,.ge,1⟩) (rs:=[]) hy st I rfl
 intro v hv
 unfold AT at hv
 rw[h3] at hv
 have hy':y<(strike ⟨y,.ge,1⟩ [] st).2.doms.length:=by rw[k1.len];exact hy
 have a:=Io (l:=⟨y,.le,many⟩) k1.inv hy' h2 v hv
 have b:=Io (l:=⟨y,.ge,1⟩) I hy h1 v ((B6 (l:=⟨y,.le,many⟩) (rs:=[]) hy' _ k1.inv rfl).sub y v hv)
 exact⟨of_decide_eq_true b,of_decide_eq_true a⟩
theorem Br:∀{ys:List Nat} {st:St},B3 st->(∀y∈ys,y<st.doms.length)->(Bg (AT many) ys st).1=true->Bx ys many (Bg (AT many) ys st).2
 |[],st,I,hy,h=>λy h=>by cases h
 |y::ys,st,I,hy,h=>by
  have k1:=BR (many:=many) (hy y (List.mem_cons_self ..)) st I rfl
  unfold Bg at h ⊢
  split at h
  ·rename_i c
   rw[if_pos c]
   have hys:∀z∈ys,z<(AT many y st).2.doms.length:=λz hz=>by rw[k1.len];exact hy z (List.mem_cons_of_mem _ hz)
   have k2:=Bv (n:=(AT many y st).2.doms.length) (f:=AT many) (xs:=ys) (λz hz=>BR (hys z hz)) _ k1.inv rfl
   intro z hz v hv
   rcases List.mem_cons.mp hz with rfl|hz
   ·exact RM I (hy z (List.mem_cons_self ..)) c v (k2.sub z v hv)
   ·exact Br k1.inv hys h z hz v hv
  ·exact Jf h
theorem Lp{T:Bw->KH->(D->KH->Prop)->Prop}{Bd:Bw->KH->KS->Prop}{pass:M}{sta:St}(R:Int->Bw->Prop)
  (hT:∀s st H ρ,R s ρ->AB C p st H->∀k,k (.bool (decide (s≠(st.trail.length:Int)))) H->T ρ H k)
  (hB:∀s st H ρ,R s ρ->AI sta st->AB C p st H->EI p H0c H->∀KK:KS,(∀H' ρ',AB C p (pass st).2 H'->EI p H0c H'->R st.trail.length ρ'->if(pass st).1=true then KK .next ρ' H' else KK (.ret (.bool false)) ρ' H')->Bd ρ H KK)
  (hk:∀st,AI sta st->AI st (pass st).2) :
  ∀(f:Nat) (st:St) (H:KH) (s:Int) (ρ:Bw) (KK:KS),s≠st.trail.length->1000<f+st.trail.length->AI sta st->AB C p st H->EI p H0c H->R s ρ ->
   (∀H' ρ' s',AB C p (FV pass f st).2 H'->EI p H0c H'->R s' ρ'->if(FV pass f st).1=true then KK .next ρ' H' else KK (.ret (.bool false)) ρ' H')->Cw T Bd (f+1) ρ H KK
 |0,st,H,s,ρ,KK,hs,hf,kp,S,O,r,C5=>by have:=kp.inv.tl;exact(AA [_] [] [.u Aj (.p Am Aa),.l Aa Aj] .f rfl hf this).elim
 |f+1,st,H,s,ρ,KK,hs,hf,kp,S,O,r,C5=>by
  refine hT s st H ρ r S _ ?_
  show if decide (s≠(st.trail.length:Int))=true then _ else _
  rw[if_pos (decide_eq_true hs)]
  refine hB s st H ρ r kp S O _ λH' ρ' S' O' r'=>?_
  have k1:=hk st kp
  unfold FV at C5
  by_cases c:(pass st).1=true
  ·rw[if_pos c]
   simp only[if_pos c] at C5
   by_cases e:(pass st).2.trail.length=st.trail.length
   ·simp only[if_pos e] at C5
    refine hT _ _ H' ρ' r' S' _ ?_
    show if decide ((st.trail.length:Int)≠((pass st).2.trail.length:Int))=true then _ else _
    rw[e,if_neg (by simp)]
    exact C5 H' ρ' _ S' O' r'
   ·simp only[if_neg e] at C5
    refine BG k1.trail λes he _=>?_
    have hl:(pass st).2.trail.length=st.trail.length+es.length:=by rw[he,List.length_append]
    exact Lp R hT hB hk f (pass st).2 H' _ ρ' KK (by exact λmL=>(Nat.lt_or_gt_of_ne e).elim (λmH=>AA [_,_,_] [] [.u Ab Aa,.r Ab (.p Aa Af)] .f rfl mH hl) (λmH=>AA [_,_] [] [.u Aa Ab,.R Ag Al] .f rfl mH mL)) (by exact(Nat.lt_or_gt_of_ne e).elim (λmH=>(AA [_,_,_] [] [.u Aa Ab,.r Aa (.p Ab Af)] .f rfl mH hl).elim) (λmH=>AA [_,_,_] [] [.u Aj (.p (.p Aa Ae) Af),.u Af Ab] (.u Aj (.p Aa Ab)) rfl hf mH)) (kp.trans k1) S' O' r' C5
  ·rw[if_neg c]
   simp only[if_neg c] at C5
   have:=C5 H' ρ' _ S' O' r'
   rwa [if_neg (by simp)] at this
theorem DR{pass:M}{sta:St}(hk:∀st,AI sta st->AI st (pass st).2):∀(m:Nat) (st:St),AI sta st->AI st (FV pass m st).2
 |0,st,k=>AI.refl k.inv
 |m+1,st,k=>by
  have k1:=hk st k
  unfold FV
  split
  ·split
   ·exact k1
   ·exact k1.trans (DR hk m _ (k.trans k1))
  ·exact k1
theorem Sm{r1:Bool}{P1 P2:Prop}(h1:r1=false->P1)(h2:r1=true->P2):if(!r1)=true then P1 else P2:=by
 cases r1 with
 |true=>exact h2 rfl
 |false=>exact h1 rfl
theorem RN{o:Option D}{K:D->Prop}(h:o=some d)(k:K d):(match (generalizing:=false) o with|some d=>K d|none=>False):=by
 subst h;exact k
theorem Tp(P:AS B cS cC cI){t:X}{ρ:Bw}{KK:KS}(S:AB cS p st H)(I:B3 st)(hy:y<st.doms.length)(hs:GM ρ 1=some (.ref p.a))(hi:GM ρ i=some (.int y))(hj:GM ρ j=some (.int many))
  (k:∀H',AB cS p (AT many y st).2 H'->EI p H H'->if(AT many y st).1=true then KK .next ρ H' else KK (.ret (.bool false)) ρ H') :
  AQ B (n+5) (.cons (.ite (.or (.not (.meth (.var 1) "strike" (.cons (.tup (.cons (.var i) (.cons (.str ">=") (.cons (.int 1) .nil)))) (.cons (.tup .nil) .nil)))) (.not (.meth (.var 1) "strike" (.cons (.tup (.cons (.var i) (.cons (.str "<=") (.cons (.var j) .nil)))) (.cons (.tup .nil) .nil))))) (.cons (.ret (.bool false)) .nil) .nil) .nil) ρ H KK:=by
 refine RN hs ?_
 refine Bf S rfl P.jt ?_
 refine RN hi ?_
 show AJ B (n+5) cS "strike" [.ref p.a,BL ⟨y,.ge,1⟩,.tup []] H _
 refine Gm P (rs:=[]) S I hy (by simp) rfl λH0a S0b O0b=>?_
 have k1:=B6 (l:=⟨y,.ge,1⟩) (rs:=[]) hy st I rfl
 unfold AT Bp at k
 refine Sm (λe=>?_) λe=>?_
 ·rw[if_neg (by rw[e];simp)] at k
  exact k H0a S0b O0b
 ·rw[if_pos e] at k
  refine RN hs ?_
  refine Bf S0b rfl P.jt ?_
  refine RN hi ?_
  refine RN hj ?_
  show AJ B (n+5) cS "strike" [.ref p.a,BL ⟨y,.le,many⟩,.tup []] H0a _
  refine Gm P (rs:=[]) S0b k1.inv (by rw[k1.len];exact hy) (by simp) rfl λH0b S0a O0a=>?_
  have:=k H0b S0a (O0b.trans O0a)
  refine Sm (λe=>?_) λe=>?_
  ·rw[if_neg (by rw[e];simp)] at this;exact this
  ·rw[if_pos e] at this;exact this
theorem aC(P:AS B cS cC cI)(S:AB cS p st H)(A:BJ cC x dx (Cj sc) H)(hx:x∉p.all)(hdx:dx∉p.all)(I:B3 st)(hs:∀y∈sc,y<st.doms.length)(hn:1<=sc.length)(hz:sc.length<100)
  (k:FU cS p (Ce sc st).2 H (K (.bool (Ce sc st).1))):AJ B (n+7) cC "propagate" [.ref x,.ref p.a] H K:=by
 refine Hy P ?_
 refine AX (v:=.bool st.failed) S P.jq rfl ?_
 unfold Ce at k
 refine J4 (λc=>?_) λc=>?_
 ·rw[if_pos c] at k;exact k H S (EI.refl _ _)
 rw[if_neg (by rw[c];simp)] at k
 refine Bl (v:=.tup (sc.map AE)) A P.jn rfl ?_
 refine B1 (d:=.tup (sc.map AE)) rfl ?_
 refine⟨rfl,?_⟩
 rw[List.length_map]
 refine Bl (v:=.tup (sc.map AE)) A P.jn rfl ?_
 have kb:=Bv (n:=st.doms.length) (f:=AT sc.length) (xs:=sc) (λz hz=>BR (hs z hz)) st I rfl
 refine PQ (sta:=st) (H0c:=H) (C:=cS) (p:=p) (f:=AT sc.length) (λρ=>∃o4,ρ=[some (.ref x),some (.ref p.a),some (.int sc.length),some (.int (-1)),o4,none]) sc st H _ _ (λy hy=>BR (hs y hy)) ?_ (AI.refl I) S (EI.refl _ _) ⟨none,rfl⟩ ?_
 ·intro y hy st1 H0a ρ k0a S0b O0b rc KK hk
  refine Ex rc λo4 mN=>?_;subst mN
  refine⟨_,rfl,?_⟩
  refine Tp P (t:=.none) (i:=4) (j:=2) S0b k0a.inv (k0a.len▸hs y hy) rfl rfl rfl λH0b S0a O0a=>?_
  exact hk H0b _ S0a (O0b.trans O0a) ⟨_,rfl⟩
 ·intro H0a ρ S0b O0b rc
  refine Ex rc λo4 mN=>?_;subst mN
  unfold Bp at k
  refine J4 (λc1=>?_) λc1=>?_
  ·rw[if_pos c1] at k
   have R:=Br I hs c1
   generalize (Bg (AT sc.length) sc st).2=st1 at k kb S0b R
   refine⟨2000+1,?_⟩
   have hsa:∀y∈sc,y<st1.doms.length:=λy hy=>by rw[kb.len];exact hs y hy
   refine Lp (C:=cS) (p:=p) (sta:=st1) (H0c:=H) (pass:=λst=>if(part sc st).1 then ED sc (part sc st).2 else (false,(part sc st).2)) (λs ρ=>∃o4,ρ=[some (.ref x),some (.ref p.a),some (.int sc.length),some (.int s),o4,none])
    ?_ ?_ ?_ 2000 st1 H0a (-1) _ _ (by exact λmL=>AA [_] [] [.R (.g Ah) Ag] .f rfl mL) (by exact AA [_] [] [] (.u Aj (.p (.n 2000) Aa)) rfl) (AI.refl kb.inv) S0b O0b ⟨o4,rfl⟩ ?_
   ·intro s st2 H0b ρ r S0a k0b hk
    refine Ex r λo4 mN=>?_;subst mN
    refine AX (v:=.ref p.trail) S0a P.jo rfl ?_
    refine B1 (AZ S0a.ht) ?_
    rw[List.length_map]
    exact MA hk
   ·intro s st2 H0b ρ r k0b S0a O0a KK hk
    refine Ex r λo4 mN=>?_;subst mN
    refine AX (v:=.ref p.trail) S0a P.jo rfl ?_
    refine B1 (AZ S0a.ht) ?_
    rw[List.length_map]
    refine Kw (A.off O0a hx hdx) rfl P.kq ?_
    show AJ B (n+6) cC "part" [.ref x,.ref p.a] H0b _
    have hsb:∀y∈sc,y<st2.doms.length:=λy hy=>by rw[k0b.len];exact hsa y hy
    refine dd P S0a (A.off O0a hx hdx) hx hdx k0b.inv hsb λH0d S0c O0c=>?_
    have k0c:=Fa hsb st2 k0b.inv rfl
    refine Sm (λe=>?_) λe=>?_
    ·simp only[if_neg (show ¬(part sc st2).1=true by rw[e];simp)] at hk
     exact hk H0d [some (.ref x),some (.ref p.a),some (.int sc.length),some (.int st2.trail.length),o4,none] S0c (O0a.trans O0c) ⟨_,rfl⟩
    ·simp only[if_pos e] at hk
     refine Kw (A.off (O0a.trans O0c) hx hdx) rfl P.kA ?_
     show AJ B (n+6) cC "open_rings" [.ref x,.ref p.a] H0d _
     refine aA P S0c (A.off (O0a.trans O0c) hx hdx) hx hdx k0c.inv (λy hy=>by rw[k0c.len];exact hsb y hy) ((R.keep k0b).keep k0c) (by exact AA [_] [] [.u Aa Av] (.u Aa Aj) rfl hz) λH0e S0d O0d=>?_
     have:=hk H0e [some (.ref x),some (.ref p.a),some (.int sc.length),some (.int st2.trail.length),o4,none] S0d ((O0a.trans O0c).trans O0d) ⟨_,rfl⟩
     refine Sm (λe=>?_) λe=>?_
     ·rw[if_neg (by rw[e];simp)] at this;exact this
     ·rw[if_pos e] at this;exact this
   ·intro st2 k0b
    have hsb:∀y∈sc,y<st2.doms.length:=λy hy=>by rw[k0b.len];exact hsa y hy
    have k0c:=Fa hsb st2 k0b.inv rfl
    split
    ·exact k0c.trans (Im (λy hy=>by rw[k0c.len];exact hsb y hy) _ k0c.inv rfl ((R.keep k0b).keep k0c))
    ·exact k0c
   ·intro H0b ρ s S0a O0a r
    refine Ex r λo4 mN=>?_;subst mN
    have kf:AI st1 (FV (λst=>if(part sc st).1 then ED sc (part sc st).2 else (false,(part sc st).2)) 2000 st1).2:=by
     refine DR (λst2 k0b=>?_) 2000 _ (AI.refl kb.inv)
     have hsb:∀y∈sc,y<st2.doms.length:=λy hy=>by rw[k0b.len];exact hsa y hy
     have k0c:=Fa hsb st2 k0b.inv rfl
     split
     ·exact k0c.trans (Im (λy hy=>by rw[k0c.len];exact hsb y hy) _ k0c.inv rfl ((R.keep k0b).keep k0c))
     ·exact k0c
    refine J4 (λc2=>?_) λc2=>?_
    ·rw[if_pos c2] at k
     refine Kw (A.off O0a hx hdx) rfl P.kj ?_
     show AJ B (n+6) cC "reach" [.ref x,.ref p.a] H0b _
     exact aB P S0a (A.off O0a hx hdx) (λy hy=>by rw[kf.len];exact hsa y hy) hn hz λH0d S0c O0c=>k H0d S0c (O0a.trans O0c)
    ·rw[if_neg (by rw[c2];simp)] at k
     exact k H0b S0a O0a
  ·rw[if_neg (by rw[c1];simp)] at k
   exact k H0a S0b O0b
end
section
variable {B:Base} {cS cC cI:Addr} {n nv:Nat} {H H' H0c:KH} {K:D->KH->Prop} {p:Dn} {st:St} {C x dx:Addr} {mP:List (Str×D)}
theorem De{b:Nat×Nat}(h:y<nv):DQ nv (Dd i y b):=λst I e=>by
 unfold Dd
 split
 ·exact B6 h st I e
 ·exact AI.refl I
theorem Ol(hb:∀z∈bk,z<nv)(I:B3 st)(e:st.doms.length=nv)(R:∀v∈vals (st.dom y),1<=v/\v<=bk.length):AI st (JD bk i y st).2:=by
 unfold JD
 split
 ·rename_i c
  have:=R _ (CV c)
  exact B6 (hb _ (Ck this.1 this.2)) st I e
 ·exact AI.refl I
theorem GI{row:List Nat}{a:Nat×Nat}(ha:a.2∈row)(hr:∀z∈row,z<st.doms.length)(hb:∀z∈bk,z<st.doms.length)(I:B3 st)(R:Bx row bk.length st):AI st (Kx bk a st).2:=by
 have k1:=Bv (n:=st.doms.length) (f:=Dd a.1 a.2) (xs:=CR 0 bk) (λb _=>De (hr _ ha)) st I rfl
 unfold Kx Bp
 split
 ·exact k1.trans (Ol (nv:=st.doms.length) hb k1.inv k1.len λv hv=>R _ ha v (k1.sub _ v hv))
 ·exact k1
theorem Ny{α:Type}{f:α->M}{sta:St}:∀{xs:List α} {st:St},(∀a∈xs,∀st,AI sta st->AI st (f a st).2)->AI sta st->AI st (Bg f xs st).2
 |[],st,h,k=>AI.refl k.inv
 |a::xs,st,h,k=>by
  have k1:=h a (List.mem_cons_self ..) st k
  unfold Bg
  split
  ·exact k1.trans (Ny (λb hb=>h b (List.mem_cons_of_mem _ hb)) (k.trans k1))
  ·exact k1
theorem D1{row:List Nat}(hr:∀z∈row,z<st.doms.length)(hb:∀z∈bk,z<st.doms.length)(I:B3 st)(R:Bx row bk.length st):AI st (turn row bk st).2 :=
 Ny (sta:=st) (λa ha st' k=>GI (BY ha).1 (λz hz=>by rw[k.len];exact hr z hz) (λz hz=>by rw[k.len];exact hb z hz) k.inv (R.keep k)) (AI.refl I)
noncomputable abbrev aq(x a:Addr)(r b:D)(o4 o5 o6 o7 o8:Option D):Bw:=[some (.ref x),some (.ref a),some r,some b,o4,o5,o6,o7,o8,none]
theorem Wv(P:AS B cS cC cI){row:List Nat}(S:AB cS p st H)(I:B3 st)(hr:∀z∈row,z<st.doms.length)(hb:∀z∈bk,z<st.doms.length)(R:Bx row bk.length st)
  (k:FU cS p (turn row bk st).2 H (K (.bool (turn row bk st).1))):AJ B (n+6) cI "turn" [.ref x,.ref p.a,.tup (row.map AE),.tup (bk.map AE)] H K:=by
 refine Lj P ?_
 show Bm (AQ B (n+5) FK) (.t [4,5]) (Bc 0 (row.map AE)) _ _ _
 rw[Gl]
 refine Sl (sta:=st) (H0c:=H) (C:=cS) (p:=p) (f:=Kx bk) (λρ=>∃o4 o5 o6 o7 o8,ρ=aq x p.a (.tup (row.map AE)) (.tup (bk.map AE)) o4 o5 o6 o7 o8) (CR 0 row) st H _ _ ?_ ?_ (AI.refl I) S (EI.refl _ _) ⟨none,none,none,none,none,rfl⟩ ?_
 ·exact λa ha st' k=>GI (BY ha).1 (λz hz=>by rw[k.len];exact hr z hz) (λz hz=>by rw[k.len];exact hb z hz) k.inv (R.keep k)
 ·intro a ha st1 H0a ρ k0a S0b O0b rc KK hk
  refine Ve rc λo4 o5 o6 o7 o8 mN=>?_;subst mN
  have ha2:=(BY ha).1
  have hr1:∀z∈row,z<st1.doms.length:=λz hz=>by rw[k0a.len];exact hr z hz
  have hb1:∀z∈bk,z<st1.doms.length:=λz hz=>by rw[k0a.len];exact hb z hz
  refine⟨_,rfl,?_⟩
  show Bm (AQ B (n+5) FJ) (.t [6,7]) (Bc 0 (bk.map AE)) _ _ _
  rw[Gl]
  unfold Kx Bp at hk
  have kin:=Bv (n:=st1.doms.length) (f:=Dd a.1 a.2) (xs:=CR 0 bk) (λb _=>De (hr1 _ ha2)) st1 k0a.inv rfl
  refine PQ (sta:=st1) (H0c:=H) (C:=cS) (p:=p) (f:=Dd a.1 a.2) (λρ=>∃o6 o7,ρ=aq x p.a (.tup (row.map AE)) (.tup (bk.map AE)) (some (.int a.1)) (some (.int a.2)) o6 o7 o8)
   (CR 0 bk) st1 H0a _ _ (λb hb'=>De (hr1 _ ha2)) ?_ (AI.refl k0a.inv) S0b O0b ⟨o6,o7,rfl⟩ ?_
  ·intro b hb' st2 H0b ρ k0b S0a O0a re KK2 hk2
   refine OI re λo6 o7 mN=>?_;subst mN
   have hxa:a.2<st2.doms.length:=by rw[k0b.len];exact hr1 _ ha2
   have hxb:b.2<st2.doms.length:=by rw[k0b.len];exact hb1 _ (BY hb').1
   refine⟨_,rfl,?_⟩
   refine Bf S0a rfl P.jz ?_
   show AJ B (n+5) cS "has" [.ref p.a,.int a.2,.int (b.1+1)] H0b _
   refine Nm P S0a hxa ?_
   unfold Dd at hk2
   have done:¬(EU (st2.dom a.2) (b.1+1)=true/\EU (st2.dom b.2) (a.1+1)=false)->KK2 .next (aq x p.a (.tup (row.map AE)) (.tup (bk.map AE)) (some (.int a.1)) (some (.int a.2)) (some (.int b.1)) (some (.int b.2)) o8) H0b:=λnc=>by
    simp only[if_neg nc] at hk2
    exact hk2 H0b (aq x p.a (.tup (row.map AE)) (.tup (bk.map AE)) (some (.int a.1)) (some (.int a.2)) (some (.int b.1)) (some (.int b.2)) o8) S0a O0a ⟨_,_,rfl⟩
   refine J4 (λc1=>?_) λc1=>?_
   ·refine Bf S0a rfl P.jz ?_
    show AJ B (n+5) cS "has" [.ref p.a,.int b.2,.int (a.1+1)] H0b _
    refine Nm P S0a hxb ?_
    refine Sm (λc2=>?_) λc2=>?_
    ·have cc:EU (st2.dom a.2) (b.1+1)=true/\EU (st2.dom b.2) (a.1+1)=false:=⟨c1,c2⟩
     simp only[if_pos cc] at hk2
     refine Bf S0a rfl P.jt ?_
     show AJ B (n+5) cS "strike" [.ref p.a,BL ⟨a.2,.ne,b.1+1⟩,.tup [BL ⟨b.2,.ne,a.1+1⟩]] H0b _
     refine Gm P (rs:=[⟨b.2,.ne,a.1+1⟩]) S0a k0b.inv hxa (of_decide_eq_true rfl) rfl λH0d S0c O0c=>?_
     have:=hk2 H0d (aq x p.a (.tup (row.map AE)) (.tup (bk.map AE)) (some (.int a.1)) (some (.int a.2)) (some (.int b.1)) (some (.int b.2)) o8) S0c (O0a.trans O0c) ⟨_,_,rfl⟩
     refine Sm (λe=>?_) λe=>?_
     ·rw[if_neg (by rw[e];simp)] at this;exact this
     ·rw[if_pos e] at this;exact this
    ·exact done λh=>by rw[c2] at h;exact iT h.2
   ·exact done λh=>by rw[c1] at h;exact Jf h.1
  ·intro H0b ρ S0a O0a re
   refine OI re λo6 o7 mN=>?_;subst mN
   refine J4 (λc=>?_) λc=>?_
   ·simp only[if_pos c] at hk
    generalize (Bg (Dd a.1 a.2) (CR 0 bk) st1).2=st2 at hk kin S0a
    have hxa:a.2<st2.doms.length:=by rw[kin.len];exact hr1 _ ha2
    refine Bf S0a rfl P.j1 ?_
    show AJ B (n+5) cS "is_fixed" [.ref p.a,.int a.2] H0b _
    refine Jw P S0a hxa ?_
    unfold JD at hk
    refine J4 (λf=>?_) λf=>?_
    ·simp only[if_pos f] at hk
     have hv:=((R.keep k0a).keep kin) _ ha2 _ (CV f)
     refine Bf S0a rfl P.j3 ?_
     show AJ B (n+5) cS "value" [.ref p.a,.int a.2] H0b _
     refine QK P S0a hxa (Nr f) ?_
     refine Bf S0a rfl P.jt ?_
     refine AP (d:=.tup (bk.map AE)) rfl (Jz hv.1 hv.2) ?_
     show AJ B (n+5) cS "strike" [.ref p.a,BL ⟨DK bk (AL (st2.dom a.2)),.eq,a.1+1⟩,.tup [BL ⟨a.2,.eq,AL (st2.dom a.2)⟩]] H0b _
     refine Gm P (rs:=[⟨a.2,.eq,AL (st2.dom a.2)⟩]) S0a kin.inv (by rw[kin.len];exact hb1 _ (Ck hv.1 hv.2)) (of_decide_eq_true rfl) rfl λH0d S0c O0c=>?_
     have:=hk H0d (aq x p.a (.tup (row.map AE)) (.tup (bk.map AE)) (some (.int a.1)) (some (.int a.2)) o6 o7 (some (.int (AL (st2.dom a.2))))) S0c (O0a.trans O0c) ⟨_,_,_,_,_,rfl⟩
     refine Sm (λe=>?_) λe=>?_
     ·rw[if_neg (by rw[e];simp)] at this;exact this
     ·rw[if_pos e] at this;exact this
    ·simp only[if_neg (show ¬CU (st2.dom a.2)=true by rw[f];simp)] at hk
     exact hk H0b (aq x p.a (.tup (row.map AE)) (.tup (bk.map AE)) (some (.int a.1)) (some (.int a.2)) o6 o7 o8) S0a O0a ⟨_,_,_,_,_,rfl⟩
   ·simp only[if_neg (show ¬(Bg (Dd a.1 a.2) (CR 0 bk) st1).1=true by rw[c];simp)] at hk
    exact hk H0b (aq x p.a (.tup (row.map AE)) (.tup (bk.map AE)) (some (.int a.1)) (some (.int a.2)) o6 o7 o8) S0a O0a ⟨_,_,_,_,_,rfl⟩
 ·intro H0a ρ S0b O0b rc
  have:=k H0a S0b O0b
  unfold turn at this
  refine J4 (λc=>?_) λc=>?_
  ·rw[c] at this;exact this
  ·rw[c] at this;exact this
end
section
variable {B:Base} {cS cC cI:Addr} {n nv:Nat} {H H' H0c:KH} {K:D->KH->Prop} {p:Dn} {st:St} {C x dx:Addr} {mP:List (Str×D)}
noncomputable abbrev I7(x a:Addr)(s:Int)(o3 o4 o5:Option D):Bw:=[some (.ref x),some (.ref a),some (.int s),o3,o4,o5,none]
theorem RO(P:AS B cS cC cI){row:List Nat}{s:Int}{o5:Option D}{KK:KS}(S:AB cS p st H)(I:B3 st)(hr:∀z∈row,z<st.doms.length)
  (k:∀H' o5,AB cS p (Bg (AT many) row st).2 H'->EI p H H'->if(Bg (AT many) row st).1=true then KK .next (I7 x p.a s (some (.tup (row.map AE))) (some (.int many)) o5) H' else KK (.ret (.bool false)) (I7 x p.a s (some (.tup (row.map AE))) (some (.int many)) o5) H') :
  Bm (AQ B (n+5) DU) (.v 5) (row.map AE) (I7 x p.a s (some (.tup (row.map AE))) (some (.int many)) o5) H KK:=by
 refine PQ (sta:=st) (H0c:=H) (C:=cS) (p:=p) (f:=AT many) (λρ=>∃o5,ρ=I7 x p.a s (some (.tup (row.map AE))) (some (.int many)) o5) row st H _ _ (λy hy=>BR (hr y hy)) ?_ (AI.refl I) S (EI.refl _ _) ⟨o5,rfl⟩ ?_
 ·intro y hy st1 H0a ρ k0a S0b O0b rc KK hk
  refine Ex rc λo5 mN=>?_;subst mN
  refine⟨_,rfl,?_⟩
  refine Tp P (t:=.none) (i:=5) (j:=4) S0b k0a.inv (k0a.len▸hr y hy) rfl rfl rfl λH0b S0a O0a=>?_
  exact hk H0b _ S0a (O0b.trans O0a) ⟨_,rfl⟩
 ·intro H0a ρ S0b O0b rc
  refine Ex rc λo5 mN=>?_;subst mN
  exact k H0a o5 S0b O0b
theorem df(P:AS B cS cC cI){fs gs:List Nat}(S:AB cS p st H)(A:BJ cI x dx (HE fs gs) H)(hx:x∉p.all)(hdx:dx∉p.all)(I:B3 st)(hf:∀y∈fs,y<st.doms.length)(hg:∀y∈gs,y<st.doms.length)
  (k:FU cS p (Ek fs gs st).2 H (K (.bool (Ek fs gs st).1))):AJ B (n+7) cI "propagate" [.ref x,.ref p.a] H K:=by
 refine Hz P ?_
 refine AX (v:=.bool st.failed) S P.jq rfl ?_
 unfold Ek at k
 refine J4 (λc=>?_) λc=>?_
 ·rw[if_pos c] at k;exact k H S (EI.refl _ _)
 rw[if_neg (by rw[c];simp)] at k
 refine Bl (v:=.tup (fs.map AE)) A P.jv rfl ?_
 refine Bl (v:=.tup (gs.map AE)) A P.jw rfl ?_
 refine B1 (d:=.tup (gs.map AE)) rfl ?_
 refine Bl (v:=.tup (gs.map AE)) A P.jw rfl ?_
 refine Bl (v:=.tup (fs.map AE)) A P.jv rfl ?_
 refine B1 (d:=.tup (fs.map AE)) rfl ?_
 rw[List.length_map,List.length_map]
 unfold Bp at k
 have k1:=Bv (n:=st.doms.length) (f:=AT gs.length) (xs:=fs) (λz hz=>BR (hf z hz)) st I rfl
 refine RO (n:=n+1) (row:=fs) (many:=gs.length) P S I hf λH0a o5 S0b O0b=>?_
 refine J4 (λc1=>?_) λc1=>?_
 rotate_left
 ·simp only[if_neg (show ¬(Bg (AT gs.length) fs st).1=true by rw[c1];simp),Bool.false_eq_true,if_false] at k
  exact k H0a S0b O0b
 simp only[if_pos c1] at k
 have R1:=Br I hf c1
 generalize (Bg (AT gs.length) fs st).2=st1 at k k1 R1 S0b
 have hg1:∀y∈gs,y<st1.doms.length:=λy hy=>by rw[k1.len];exact hg y hy
 have k2:=Bv (n:=st1.doms.length) (f:=AT fs.length) (xs:=gs) (λz hz=>BR (hg1 z hz)) st1 k1.inv rfl
 refine RO (n:=n+1) (row:=gs) (many:=fs.length) P S0b k1.inv hg1 λH0b o5 S0a O0a=>?_
 refine J4 (λc2=>?_) λc2=>?_
 rotate_left
 ·simp only[if_neg (show ¬(Bg (AT fs.length) gs st1).1=true by rw[c2];simp)] at k
  exact k H0b S0a (O0b.trans O0a)
 simp only[if_pos c2] at k
 have R2:=Br k1.inv hg1 c2
 have R3:=R1.keep k2
 generalize (Bg (AT fs.length) gs st1).2=st2 at k k2 R2 R3 S0a
 have hf2:∀y∈fs,y<st2.doms.length:=λy hy=>by rw[k2.len,k1.len];exact hf y hy
 have hg2:∀y∈gs,y<st2.doms.length:=λy hy=>by rw[k2.len];exact hg1 y hy
 have O0e:=O0b.trans O0a
 refine⟨2000+1,?_⟩
 have step:∀st3,AI st2 st3->AI st3 (Bp (turn fs gs) (turn gs fs) st3).2:=λst3 k0c=>by
  have hf3:∀y∈fs,y<st3.doms.length:=λy hy=>by rw[k0c.len];exact hf2 y hy
  have hg3:∀y∈gs,y<st3.doms.length:=λy hy=>by rw[k0c.len];exact hg2 y hy
  have t1:=D1 hf3 hg3 k0c.inv (R3.keep k0c)
  unfold Bp
  split
  ·exact t1.trans (D1 (λy hy=>by rw[t1.len];exact hg3 y hy) (λy hy=>by rw[t1.len];exact hf3 y hy) t1.inv ((R2.keep k0c).keep t1))
  ·exact t1
 refine Lp (C:=cS) (p:=p) (sta:=st2) (H0c:=H) (pass:=Bp (turn fs gs) (turn gs fs)) (λs ρ=>∃o3 o4 o5,ρ=I7 x p.a s o3 o4 o5)
  ?_ ?_ step 2000 st2 H0b (-1) _ _ (by exact λmL=>AA [_] [] [.R (.g Ah) Ag] .f rfl mL) (by exact AA [_] [] [] (.u Aj (.p (.n 2000) Aa)) rfl) (AI.refl k2.inv) S0a O0e ⟨_,_,_,rfl⟩ ?_
 ·intro s st3 H0d ρ r S0c k0c hk
  refine cX r λo3 o4 o5 mN=>?_;subst mN
  refine AX (v:=.ref p.trail) S0c P.jo rfl ?_
  refine B1 (AZ S0c.ht) ?_
  rw[List.length_map]
  exact MA hk
 ·intro s st3 H0d ρ r k0c S0c O0c KK hk
  refine cX r λo3 o4 o5 mN=>?_;subst mN
  have A0a:=A.off O0c hx hdx
  have hf3:∀y∈fs,y<st3.doms.length:=λy hy=>by rw[k0c.len];exact hf2 y hy
  have hg3:∀y∈gs,y<st3.doms.length:=λy hy=>by rw[k0c.len];exact hg2 y hy
  refine AX (v:=.ref p.trail) S0c P.jo rfl ?_
  refine B1 (AZ S0c.ht) ?_
  rw[List.length_map]
  refine Kw A0a rfl P.j7 ?_
  refine Bl (v:=.tup (fs.map AE)) A0a P.jv rfl ?_
  refine Bl (v:=.tup (gs.map AE)) A0a P.jw rfl ?_
  show AJ B (n+6) cI "turn" [.ref x,.ref p.a,.tup (fs.map AE),.tup (gs.map AE)] H0d _
  unfold Bp at hk
  have t1:=D1 hf3 hg3 k0c.inv (R3.keep k0c)
  refine Wv P S0c k0c.inv hf3 hg3 (R3.keep k0c) λH0e S0d O0d=>?_
  refine Sm (λe=>?_) λe=>?_
  ·simp only[if_neg (show ¬(turn fs gs st3).1=true by rw[e];simp)] at hk
   exact hk H0e (I7 x p.a st3.trail.length o3 o4 o5) S0d (O0c.trans O0d) ⟨_,_,_,rfl⟩
  ·simp only[if_pos e] at hk
   have A0c:=A.off (O0c.trans O0d) hx hdx
   refine Kw A0c rfl P.j7 ?_
   refine Bl (v:=.tup (gs.map AE)) A0c P.jw rfl ?_
   refine Bl (v:=.tup (fs.map AE)) A0c P.jv rfl ?_
   show AJ B (n+6) cI "turn" [.ref x,.ref p.a,.tup (gs.map AE),.tup (fs.map AE)] H0e _
   refine Wv P S0d t1.inv (λy hy=>by rw[t1.len];exact hg3 y hy) (λy hy=>by rw[t1.len];exact hf3 y hy) ((R2.keep k0c).keep t1) λH0f S0e O0f=>?_
   have:=hk H0f (I7 x p.a st3.trail.length o3 o4 o5) S0e ((O0c.trans O0d).trans O0f) ⟨_,_,_,rfl⟩
   refine Sm (λe=>?_) λe=>?_
   ·rw[if_neg (by rw[e];simp)] at this;exact this
   ·rw[if_pos e] at this;exact this
 ·intro H0d ρ s S0c O0c r
  have:K (.bool (FV (Bp (turn fs gs) (turn gs fs)) 2000 st2).1) H0d:=k H0d S0c O0c
  refine J4 (λc=>?_) λc=>?_
  ·rw[c] at this;exact this
  ·rw[c] at this;exact this
end
def Nz(sc:List Nat)(ans:List Int)(l:CQ):Bool:=(sc.zip ans).all λq=>!(decide (q.1=l.x))||says l q.2
def keeps(sc:List Nat)(ans:List Int)(ls:List CQ):Bool:=ls.all (Nz sc ans)
noncomputable abbrev BK:=List (List Int)
noncomputable def Bj(sc:List Nat)(ls:BK)(ans:List Int):Bool:=(List.range sc.length).all λk=>decide (ans.getD k 0∈ls.getD (sc.getD k 0) [])
def RP(ls:BK)(l:CQ):Bool:=(ls.getD l.x []).all (says l)
def RQ(ls:BK)(lits:List CQ):Bool:=lits.all (RP ls)
def HI(n:Nat)(row:List Int):BK:=((CD 1 (n+1)).filter λk=>!decide (k∈row)).map λk=>row++[k]
noncomputable def Cf(n:Nat):Nat->BK
 |0=>[[]]
 |m+1=>(Cf n m).flatMap (HI n)
noncomputable def QO(row:List Int):Nat->Int->Int->Int
 |0,_,met=>met
 |m+1,here,met=>if row.getD (here-1).toNat 0≠1/\met<=row.length then QO row m (row.getD (here-1).toNat 0) (met+1) else met
def Lq(row:List Int):Bool:=decide (QO row (row.length+1) 1 1=row.length)
def GJ(n:Nat)(row:List Int):List Int:=(CD 1 (n+1)).map λk=>(row.idxOf k:Int)+1
def Bk(n:Nat):BK:=(Cf n n).filter Lq
def BM(n m:Nat):BK:=if n=m then (Cf n n).map λrow=>row++GJ n row else []
structure CH(t:Addr)(m:Nat)(H:KH):Prop where
 at':∃(cells:List Int) (spot:Nat),H t=some (.dict [("cells",.lst (AC cells)),("spot",.int spot)])/\spot<=m/\(∀c∈cells,0<=c)/\cells.length<=63
theorem CH.ext(T:CH t m H)(h:H' t=H t):CH t m H':=let ⟨c,s,e,r⟩:=T.at';⟨c,s,h.trans e,r⟩
theorem CH.less{m':Nat}(T:CH t m H)(h:m<=m'):CH t m' H:=let ⟨c,s,e,l,r⟩:=T.at';⟨c,s,e,Nat.le_trans l h,r⟩
section
variable {B:Base} {cS cC cI:Addr} {n nv:Nat} {H H' H0c:KH} {K:D->KH->Prop} {p:Dn} {st:St} {C x dx:Addr} {mP:List (Str×D)}
theorem Mw{l:Addr}{e:D}(hl:H l=some (.dict mP))(hk:mP.lookup name=some e)(h:K e H):MR (.ref l) (.str name) H K:=.dict rfl hl rfl hk h
theorem dg{l:Addr}{e:D}{k:KH->Prop}(hl:H l=some (.dict mP))(hk:(mP.lookup name).isSome=true)(h:k (H.set l (.dict (mP.map λkv=>if kv.1=name then (kv.1,e) else kv)))):TF l (.str name) e H k:=.dict hl rfl hk h
theorem dh(P:AS B cS cC cI)(hz:ns.length<=63)(k:∀t A,H t=none->CH t 0 (H.set t A)->K (.ref t) (H.set t A)):AH B (n+1) "_law_tape" [.lst (AC ns)] H K:=by
 refine Oa P ?_
 refine⟨by decide,?_⟩
 have up:∀{K':D->KH->Prop},K' (.lst (AC (ns.take 40))) H->Pc true (.lst (AC ns)) (.int 40) H K':=λh=>by
  refine .list (j:=40) rfl rfl ?_
  have e:(AC ns).take 40=AC (ns.take 40):=by unfold AC;rw[List.map_take]
  rw[e];exact h
 refine up ?_
 intro a ha
 refine BX (xs:=ns.take 40) .int (λv=>some (.int v.natAbs)) ha (by rw[List.length_take];exact AA [_] [] [.l Aa (.n 40)] (.u Aa Ao) rfl (Nat.min_le_left _ _)) (λv _ acc K' h=>h) λe1 e2=>⟨e1,?_⟩
 rw[if_pos rfl,←e2]
 intro t ht
 refine k t _ ht ⟨(ns.take 40).map λv=>(v.natAbs:Int),0,?_,Nat.le_refl _,λc hc=>?_,by rw[List.length_map,List.length_take];exact AA [_] [] [.l Aa (.n 40)] (.l Aa (.n 63)) rfl (Nat.min_le_left _ _)⟩
 ·rw[KH.set_self,List.filterMap_eq_map']
  unfold AC
  rw[List.map_map];rfl
 ·refine BG (List.mem_map.mp hc) λv _ mN=>?_;subst mN
  exact Int.natCast_nonneg _
theorem di(P:AS B cS cC cI)(T:CH t m H)(hm:m<=1000)(h1:0<many)(h2:many<1000000)(k:∀r A,0<=r->r<many->CH t (m+1) (H.set t A)->K (.int r) (H.set t A)):AH B (n+1) "_law_draw" [.ref t,.int many] H K:=by
 refine DX T.at' λcells spot e hs hc hz=>?_
 refine Ob P ?_
 refine Mw (e:=.int spot) e rfl ?_
 refine dg e rfl ?_
 have eA:H.set t (.dict (([("cells",.lst (AC cells)),("spot",.int spot)]:List (Str×D)).map λkv=>if kv.1=("spot":Str) then (kv.1,.int ((spot:Int)+1)) else kv))=H.set t (.dict [("cells",.lst (AC cells)),("spot",.int (spot+1:Nat))]):=rfl
 rw[eA]
 have T1:CH t (m+1) (H.set t (.dict [("cells",.lst (AC cells)),("spot",.int (spot+1:Nat))])):=⟨cells,spot+1,KH.set_self ..,by exact AA [_,_] [] [.l Aa Ab] (.l (.p Aa Ae) (.p Ab Ae)) rfl hs,hc,hz⟩
 refine Mw (e:=.lst (AC cells)) (KH.set_self ..) rfl ?_
 refine J0 ?_
 refine Lm ?_
 refine BB (λc=>?_) λc=>?_
 ·refine Mw (e:=.lst (AC cells)) (KH.set_self ..) rfl ?_
  rw[BZ] at c
  have c':spot<cells.length:=by exact AA [_,_] [] [.U Ag Al] (.u Aa Ab) rfl c
  refine AP (d:=.lst (AC cells)) (e:=.int (cells[spot])) rfl (Cu (List.getElem?_eq_getElem c')) ?_
  refine⟨⟨h1,h2⟩,?_⟩
  exact k _ _ (Int.emod_nonneg _ (Int.ne_of_gt h1)) (Int.emod_lt_of_pos _ h1) T1
 ·refine⟨⟨by decide,by omega⟩,?_⟩
  refine⟨⟨by omega,by omega⟩,?_⟩
  refine⟨⟨by decide,by omega⟩,?_⟩
  refine Mw (e:=.lst (AC cells)) (KH.set_self ..) rfl ?_
  refine J0 ?_
  refine⟨⟨by decide,by rw[BZ];omega⟩,?_⟩
  refine⟨⟨by decide,by decide⟩,?_⟩
  refine⟨⟨h1,h2⟩,?_⟩
  exact k _ _ (Int.emod_nonneg _ (Int.ne_of_gt h1)) (Int.emod_lt_of_pos _ h1) T1
theorem Sn(P:AS B cS cC cI){l:CQ}{v:Int}(k:K (.bool (says l v)) H):AH B (n+1) "_law_says" [BL l,.int v] H K:=by
 refine Od P ?_
 unfold says at k
 refine QH (s:=l.s) (t:=.le) (λe=>?_) λe1=>?_
 ·rw[e] at k;exact Q9 k
 refine QH (s:=l.s) (t:=.ge) (λe=>?_) λe2=>?_
 ·rw[e] at k;exact gy k
 refine QH (s:=l.s) (t:=.eq) (λe=>?_) λe3=>?_
 ·rw[e] at k;exact DI k
 ·have e:l.s= .ne:=by cases h:l.s<;>first|exact absurd h e1|exact absurd h e2|exact absurd h e3|rfl
  rw[e] at k;exact MA k
end
section
variable {B:Base} {cS cC cI:Addr} {n nv:Nat} {H H' H0c:KH} {K:D->KH->Prop} {p:Dn} {st:St} {C x dx:Addr} {mP:List (Str×D)}
noncomputable abbrev K8(ans sc ls l:D)(o4 o5:Option D):Bw:=[some ans,some sc,some ls,some l,o4,o5,none,none]
theorem au(P:AS B cS cC cI){l:CQ}{A S L:D}(ht:H t=none):∀(qs:List (Nat×Int)) (o4 o5:Option D) (KK:KS),
  (∀o4 o5,if qs.all (λq=>!(decide (q.1=l.x))||says l q.2)=true then KK .next (K8 A S L (BL l) o4 o5) H else KK (.ret (.bool false)) (K8 A S L (BL l) o4 o5) H) ->
  HN (AQ B (n+1) Dv) 4 5 t (qs.map λq=>(AE q.1,.int q.2)) (K8 A S L (BL l) o4 o5) (H.set t .pair) KK
 |[],o4,o5,KK,k=>by
  show KK .next _ ((H.set t .pair).erase t)
  rw[KH.erase_set _ _ _ ht]
  exact k o4 o5
 |q::qs,o4,o5,KK,k=>by
  have nxt:(!(decide (q.1=l.x))||says l q.2)=true->HN (AQ B (n+1) Dv) 4 5 t (qs.map λq=>(AE q.1,.int q.2)) (K8 A S L (BL l) (some (.int q.1)) (some (.int q.2))) (H.set t .pair) KK:=λe=>by
   simp only[List.all_cons,e,Bool.true_and] at k
   exact au P ht qs _ _ KK k
  refine AP (d:=BL l) (e:=.int l.x) rfl rfl ?_
  refine DI ?_
  refine BB (λc=>?_) λc=>?_
  ·have c':q.1=l.x:=Int.ofNat.inj c
   show AH B (n+1) "_law_says" [BL l,.int q.2] _ _
   refine Sn P ?_
   refine Sm (λe=>?_) λe=>?_
   ·refine⟨KH.set_self ..,?_⟩
    show KK (.ret (.bool false)) _ ((H.set t .pair).erase t)
    rw[KH.erase_set _ _ _ ht]
    have:=k (some (.int q.1)) (some (.int q.2))
    have e2:(!(decide (q.1=l.x))||says l q.2)=false:=by rw[decide_eq_true c',e];rfl
    simp only[List.all_cons,e2,Bool.false_and,Bool.false_eq_true,if_false] at this
    exact this
   ·exact⟨KH.set_self ..,nxt (by rw[e];simp)⟩
  ·exact⟨KH.set_self ..,nxt (by rw[decide_eq_false (λe=>c (by rw[e]))];rfl)⟩
theorem QP(P:AS B cS cC cI){ans:List Int}{ls:List CQ}(hd:d= .lst (ls.map BL)\/d= .tup (ls.map BL))(k:K (.bool (keeps sc ans ls)) H):AH B (n+2) "_law_keeps" [.tup (AC ans),.lst (sc.map AE),d] H K:=by
 refine Nj P ?_
 have main:∀(ms:List CQ) (o3 o4 o5:Option D),K (.bool (keeps sc ans ms)) H->Bm (AQ B (n+1) Gg) (.v 3) (ms.map BL) [some (.tup (AC ans)),some (.lst (sc.map AE)),some d,o3,o4,o5,none,none] H
   (λf ρ H=>match f with| .next=>AQ B (n+1) (.cons (.ret (.bool true)) .nil) ρ H (BI K)|f=>BI K f ρ H):=by
  intro ms
  induction ms with
  |nil=>intro o3 o4 o5 k;exact k
  |cons l ms ih =>
   intro o3 o4 o5 k
   have ez:(sc.map AE).zip (AC ans)=(sc.zip ans).map λq=>(AE q.1,.int q.2):=by unfold AC;rw[List.zip_map];rfl
   intro t ht
   rw[ez]
   refine au P ht (sc.zip ans) o4 o5 _ λo4 o5=>?_
   unfold keeps at k ih
   simp only[List.all_cons] at k
   refine J4 (λc=>?_) λc=>?_
   ·rw[show Nz sc ans l=true from c,Bool.true_and] at k
    exact ih _ _ _ k
   ·rw[show Nz sc ans l=false from c,Bool.false_and] at k
    exact k
 rcases hd with rfl|rfl
 ·exact main ls _ _ _ k
 ·exact main ls _ _ _ k
def Cl(vs:List Int):D:=.lst (AC vs)
theorem getD_some{α:Type}{xs:List α}{d:α}(h:i<xs.length):xs[i]? = some (xs.getD i d):=by rw[List.getD_eq_getElem?_getD,List.getElem?_eq_getElem h];rfl
theorem Bs(m:Nat):Internal.upto 0 m=(List.range m).map λ(i:Nat)=>D.int i:=by
 unfold Internal.upto
 rw[show((m:Int)-0).toNat=m by rw[Int.sub_zero,Int.toNat_natCast]]
 congr 1;funext i;rw[Int.zero_add]
theorem Cx{b:Bool}{α:Type}{f:α->D}{xs:List α}{e:α}(hs:BC H d=some (b,xs.map f))(hi:xs[i]? = some e)(h:K (f e) H):MR d (.int i) H K:=AP hs (Cu hi) h
theorem JG{r:Bool×List D}{A:AO}(ha:H a=none)(h:BC H d=some r):BC (H.set a A) d=some r:=Et ((Ext.refl H).set ha) h
theorem K4(P:AS B cS cC cI){ans:List Int}{ls:BK}{d':D}{b b':Bool}(hd:BC H d=some (b,sc.map AE))(hd':BC H d'=some (b',ls.map Cl))(h1:sc.length<=ans.length)(h2:∀y∈sc,y<ls.length)(hz:sc.length<1000)
  (k:K (.bool (Bj sc ls ans)) H):AH B (n+1) "_law_within" [.tup (AC ans),d,d'] H K:=by
 refine Me P ?_
 refine B1 hd ?_
 refine⟨by rw[List.length_map];unfold BA;exact⟨AA [_] [] [] (.L (.g Ap) Ag) rfl,AA [_] [] [.u Aa Aj] (.L Ag Ap) rfl hz⟩,?_⟩
 rw[List.length_map,Bs]
 intro a ha
 refine BX (xs:=List.range sc.length) (λ(i:Nat)=>D.int i) (λi=>if decide (ans.getD i 0∈ls.getD (sc.getD i 0) [])=true then none else some (.int i)) ha (by simp;exact AA [_] [] [.u Aa Aj] (.u Aa Ao) rfl hz) (λi hi acc K' h=>?_) λe1 e2=>⟨e1,?_⟩
 ·have hi:=List.mem_range.mp hi
  refine AP (d:=.tup (AC ans)) (e:=.int (ans.getD i 0)) rfl (Cu (getD_some (by exact AA [_,_,_] [] [.u Aa Af,.l Af Ab] (.u Aa Ab) rfl hi h1))) ?_
  have hsi:=getD_some (d:=0) hi
  refine Cx (JG ha hd) hsi ?_
  refine Cx (JG ha hd') (getD_some (d:=[]) (h2 _ (List.mem_of_getElem? hsi))) ?_
  refine Sb (a:=.int (ans.getD i 0)) (ds:=AC (ls.getD (sc.getD i 0) [])) (CP _ _) (Bn _ _) ?_
  rw[HD Gj]
  refine Sm (λc=>?_) λc=>?_
  ·rw[if_neg (by rw[c];simp)] at h;exact h
  ·rw[if_pos c] at h;exact h
 ·rw[if_pos rfl,←e2]
  refine H9 (a:=.lst _) (b:=.lst []) ?_ rfl ?_
  ·have:∀(xs:List Nat),Bz 5 (xs.filterMap λi=>if decide (ans.getD i 0∈ls.getD (sc.getD i 0) [])=true then none else some (.int i))=true:=by
    intro xs
    induction xs with
    |nil=>rfl
    |cons i xs ih =>
     rw[List.filterMap_cons]
     split
     ·exact ih
     ·rename_i b hb
      split at hb
      ·exact nS hb
      ·obtain rfl:=Option.some.inj hb
       exact Bool.and_eq_true_iff.mpr ⟨rfl,ih⟩
   exact this _
  ·have e:OJ (.lst ((List.range sc.length).filterMap λi=>if decide (ans.getD i 0∈ls.getD (sc.getD i 0) [])=true then none else some (.int i))) (.lst [])=Bj sc ls ans:=by
    refine DY ?_
    rw[CF]
    unfold Bj
    rw[List.all_eq_true]
    constructor
    ·intro h i hi
     have:=List.filterMap_eq_nil_iff.mp (D.lst.inj h) i hi
     split at this
     ·assumption
     ·exact sN this
    ·intro h
     congr 1
     rw[List.filterMap_eq_nil_iff]
     intro i hi
     rw[if_pos (h i hi)]
   rw[e];exact k
theorem Ww(P:AS B cS cC cI){ls:BK}{lits:List CQ}{b:Bool}(hd:BC H d=some (b,ls.map Cl))(h1:∀l∈lits,l.x<ls.length)(hz:∀vs∈ls,vs.length<100000)(k:K (.bool (RQ ls lits)) H):AH B (n+2) "_law_hold" [d,.tup (lits.map BL)] H K:=by
 refine Oe P ?_
 have main:∀(ms:List CQ) (o2:Option D),(∀l∈ms,l.x<ls.length)->K (.bool (RQ ls ms)) H->Bm (AQ B (n+1) Hr) (.v 2) (ms.map BL) [some d,some (.tup (lits.map BL)),o2] H
   (λf ρ H=>match f with| .next=>AQ B (n+1) (.cons (.ret (.bool true)) .nil) ρ H (BI K)|f=>BI K f ρ H):=by
  intro ms
  induction ms with
  |nil=>intro o2 _ k;exact k
  |cons l ms ih =>
   intro o2 h1 k
   have hg:=getD_some (d:=[]) (h1 l (List.mem_cons_self ..))
   refine AP (d:=BL l) (e:=.int l.x) rfl rfl ?_
   refine Cx hd hg ?_
   intro a ha
   refine BX (xs:=ls.getD l.x []) .int (λv=>if(!says l v)=true then some (.int v) else none) ha (by have:=hz _ (List.mem_of_getElem? hg);exact AA [_] [] [.u Aa A4] (.u Aa Ao) rfl this) (λv _ acc K' h=>?_) λe1 e2=>⟨e1,?_⟩
   ·show AH B (n+1) "_law_says" [BL l,.int v] _ _
    refine Sn P ?_
    refine J4 (λc=>?_) λc=>?_
    ·rw[if_pos c] at h;exact h
    ·rw[if_neg (by rw[c];simp)] at h;exact h
   ·rw[if_pos rfl,←e2,En]
    refine IA (a:=.lst (AC ((ls.getD l.x []).filter λv=>!says l v))) (b:=.lst []) (Bn 5 _) rfl ?_
    have e:OJ (.lst (AC ((ls.getD l.x []).filter λv=>!says l v))) (.lst [])=RP ls l:=by
     refine DY ?_
     rw[CF]
     unfold RP
     rw[List.all_eq_true]
     constructor
     ·intro h v hv
      have h:=List.map_eq_nil_iff.mp (D.lst.inj h)
      have:=List.filter_eq_nil_iff.mp h v hv
      simpa using this
     ·intro h
      have:(ls.getD l.x []).filter (λv=>!says l v)=[]:=List.filter_eq_nil_iff.mpr λv hv=>by rw[h v hv];simp
      rw[this];rfl
    rw[e]
    unfold RQ at k ih
    simp only[List.all_cons] at k
    refine Sm (λc=>?_) λc=>?_
    ·rw[c,Bool.false_and] at k;exact k
    ·rw[c,Bool.true_and] at k
     exact ih _ (λm hm=>h1 m (List.mem_cons_of_mem _ hm)) k
 exact main lits _ h1 k
end
def AM(row:List Int):D:=.tup (AC row)
section
variable {B:Base} {cS cC cI:Addr} {n nv:Nat} {H H' H0c:KH} {K:D->KH->Prop} {p:Dn} {st:St} {C x dx:Addr} {mP:List (Str×D)}
theorem N0(q:Nat)(row:List Int):(HI q row).length<=q:=by
 unfold HI
 rw[List.length_map]
 refine Nat.le_trans (List.length_filter_le ..) ?_
 rw[Cb];exact(Int.le_total 0 _).elim (λmH=>AA [_,_] [] [.E Ag (.s (.p Al Ah) Ah)] (.l Aa Ab) rfl (Int.toNat_of_nonneg mH)) (λmH=>AA [_,_] [] [.e Aa Am] (.l Aa Ab) rfl (Int.toNat_of_nonpos mH))
theorem MF(q:Nat):∀(rows:BK),(rows.flatMap (HI q)).length<=q*rows.length
 |[]=>by simp
 |r::rows=>by
  rw[List.flatMap_cons,List.length_append,List.length_cons,Nat.mul_add,Nat.mul_one]
  have t1:=N0 q r
  have:=MF q rows
  exact AA [_,_,_,_] [] [.l Aa Aq,.l Ab Af] (.l (.p Aa Ab) (.p Af Aq)) rfl t1 this
theorem Lr{q:Nat}(hq:q<=4):∀m,m<=4->(Cf q m).length<=4^m
 |0,_=>by simp[Cf]
 |m+1,h=>by
  have t1:=Lr hq m (by exact AA [_] [] [.l (.p Aa Ae) As] (.l Aa As) rfl h)
  have h2:=MF q (Cf q m)
  show((Cf q m).flatMap (HI q)).length<=_
  rw[Nat.pow_succ]
  have:=Nat.mul_le_mul hq t1
  omega
theorem Ev{q:Nat}:∀m,∀r∈Cf q m,r.length=m
 |0,r,h=>by rw[List.mem_singleton.mp h];rfl
 |m+1,r,h=>by
  refine BG (List.mem_flatMap.mp h) λr' h1 h2=>?_
  refine BG (List.mem_map.mp h2) λk _ mN=>?_;subst mN
  rw[List.length_append,Ev m r' h1];rfl
noncomputable abbrev R6(q:Nat)(f:D)(o2 o3 o4:Option D):Bw:=[some (.int q),some f,o2,o3,o4,none]
theorem Wy(P:AS B cS cC cI){q:Nat}(hq:q<=4)(k:K (.lst ((Cf q q).map AM)) H):AH B (n+1) "_law_rows" [.int q] H K:=by
 refine Oc P ?_
 refine⟨by unfold BA;exact⟨AA [_] [] [] (.L (.g Ap) Ag) rfl,AA [_] [] [.l Aa As] (.L Ag Ap) rfl hq⟩,?_⟩
 rw[Bs]
 have inner:∀{a:Addr} {F:D} (rows:BK) (late:BK) (o2 o4:Option D) (KK:KS),H a=none->(∀r∈rows,r.length<=4)->late.length+q*rows.length<1000000 ->
   (∀o4,KK .next (R6 q F o2 (some (.ref a)) o4) (H.set a (.list ((late++rows.flatMap (HI q)).map AM)))) ->
   Bm (AQ B n Hl) (.v 4) (rows.map AM) (R6 q F o2 (some (.ref a)) o4) (H.set a (.list (late.map AM))) KK:=by
  intro a F rows
  induction rows with
  |nil=>intro late o2 o4 KK ha _ _ hk;rw[List.flatMap_nil,List.append_nil] at hk;exact hk o4
  |cons r rows ih =>
   intro late o2 o4 KK ha hr hl hk
   rw[List.length_cons,Nat.mul_add,Nat.mul_one] at hl
   have hrl:=hr r (List.mem_cons_self ..)
   refine⟨⟨_,KH.set_self ..⟩,?_⟩
   refine⟨by unfold BA;exact⟨AA [] [] [] (.L (.g Ap) Ah) rfl,AA [] [] [] (.L Ah Ap) rfl⟩,by unfold BA;exact⟨AA [_] [] [] (.L (.g Ap) (.p Ag Ah)) rfl,AA [_] [] [.l Aa As] (.L (.p Ag Ah) Ap) rfl hq⟩,?_⟩
   rw[HH]
   intro b hb
   refine BX (xs:=CD 1 (q+1)) .int (λv=>if(!decide (v∈r))=true then some (AM (r++[v])) else none) hb (by rw[Cb];exact(Int.le_total 0 _).elim (λmH=>AA [_,_] [] [.l Ab As,.E Ag (.s (.p Al Ah) Ah)] (.u Aa Ao) rfl hq (Int.toNat_of_nonneg mH)) (λmH=>AA [_] [] [.e Aa Am] (.u Aa Ao) rfl (Int.toNat_of_nonpos mH))) (λv _ acc K' h=>?_) λe1 e2=>⟨e1,?_⟩
   ·refine dX (a:=.int v) (ds:=AC r) (CP _ _) (Bn _ _) ?_
    rw[HD Gj]
    refine J4 (λc=>?_) λc=>?_
    ·rw[if_pos c] at h
     refine⟨by rw[BZ];simp;exact AA [_] [] [.l Aa As] (.l Aa (.n 999999)) rfl hrl,?_⟩
     show K' (some (.tup (AC r++AC [v]))) _
     rw[C7];exact h
    ·rw[if_neg (by rw[c];simp)] at h;exact h
   ·rw[if_pos rfl,←e2]
    have e:(CD 1 (q+1)).filterMap (λv=>if(!decide (v∈r))=true then some (AM (r++[v])) else none)=(HI q r).map AM:=by
     unfold HI
     rw[List.map_map]
     generalize CD 1 (q+1)=xs
     induction xs with
     |nil=>rfl
     |cons v xs ih =>
      rw[List.filterMap_cons,List.filter_cons]
      cases hc:(!decide (v∈r))
      ·simp only[Bool.false_eq_true,if_false];exact ih
      ·simp only[if_true,List.map_cons];rw[ih];rfl
    rw[e]
    have:=N0 q r
    refine RA (KH.set_self ..) (by rw[List.length_map,List.length_map];exact AA [_,_,_,_] [] [.u (.p Aa (.p Aq Af)) Ao,.l Ab Af] (.u (.p Aa Ab) Ao) rfl hl this) ?_
    rw[KH.set_set,←List.map_append]
    exact ih (late++HI q r) o2 _ KK ha (λs hs=>hr s (List.mem_cons_of_mem _ hs)) (by rw[List.length_append];exact AA [_,_,_,_] [] [.u (.p Aa (.p Af Aq)) Ao,.l Ab Aq] (.u (.p (.p Aa Ab) Af) Ao) rfl hl this) (by rw[List.flatMap_cons,←List.append_assoc] at hk;exact hk)
 have outer:∀(j m:Nat) (xs:List Nat) (o2 o3 o4:Option D),xs.length=j->m+j=q->K (.lst ((Cf q q).map AM)) H ->
   Bm (AQ B n Hm) (.v 2) (xs.map λ(i:Nat)=>D.int i) (R6 q (.lst ((Cf q m).map AM)) o2 o3 o4) H
   (λf ρ H=>match f with| .next=>AQ B n (.cons (.ret (.var 1)) .nil) ρ H (BI K)|f=>BI K f ρ H):=by
  intro j
  induction j with
  |zero =>
   intro m xs o2 o3 o4 hx hm k
   obtain rfl:=List.length_eq_zero_iff.mp hx
   obtain rfl:m=q:=by exact Nat.le_antisymm (AA [_,_] [] [.e (.p Aa Am) Ab] (.l Aa Ab) rfl hm) (AA [_,_] [] [.r (.p Aa Am) Ab] (.l Ab Aa) rfl hm)
   exact k
  |succ j ih =>
   intro m xs o2 o3 o4 hx hm k
   cases xs with
   |nil=>cases hx
   |cons i xs =>
    intro a ha
    have hr:=Ev (q:=q) m
    have hl:=Lr hq m (by exact AA [_,_,_] [] [.e (.p Aa (.p Af Ae)) Ab,.l Ab As] (.l Aa As) rfl hm hq)
    have h256:4^m<=256:=Nat.pow_le_pow_right (n:=4) (by decide) (show m<=4 by exact AA [_,_,_] [] [.e (.p Aa (.p Af Ae)) Ab,.l Ab As] (.l Aa As) rfl hm hq)
    have hmul:q*(Cf q m).length<=4*256:=Nat.mul_le_mul hq (by exact AA [_,_] [] [.l Aa Ab,.l Ab A5] (.l Aa A5) rfl hl h256)
    refine inner (F:=.lst ((Cf q m).map AM)) (Cf q m) [] (some (.int i)) o4 _ ha (λr h=>by rw[hr r h];exact AA [_,_,_] [] [.e (.p Aa (.p Af Ae)) Ab,.l Ab As] (.l Aa As) rfl hm hq) (by simp;exact AA [_] [] [.l Aa (.t 4 A5)] (.u Aa Ao) rfl hmul) λo4=>?_
    refine Gk (KH.set_self ..) ?_
    show AQ B n _ (R6 q (.lst ((Cf q m).map AM)) (some (.int i)) (some (.lst ((Cf q (m+1)).map AM))) o4) ((H.set a _).erase a) _
    rw[KH.erase_set _ _ _ ha]
    exact ih (m+1) xs _ _ _ (by simpa using hx) (by exact Nat.le_antisymm (AA [_,_,_] [] [.e (.p Aa (.p Ab Ae)) Af] (.l (.p (.p Aa Ae) Ab) Af) rfl hm) (AA [_,_,_] [] [.r (.p Aa (.p Ab Ae)) Af] (.l Af (.p (.p Aa Ae) Ab)) rfl hm)) k
 exact outer q 0 (List.range q) _ _ _ (by simp) (by exact Nat.le_antisymm (AA [_] [] [] (.l (.p Am Aa) Aa) rfl) (AA [_] [] [] (.l Aa (.p Am Aa)) rfl)) k
theorem Wz{row:List Int}{here:Int}(h1:1<=here)(h2:here<=row.length):row[(here-1).toNat]? = some (row.getD (here-1).toNat 0):=getD_some (by exact(Int.le_total 0 _).elim (λmH=>AA [_,_] [_] [.L Ac Al,.E Ag (.s Ac Ah)] (.u Aa Ab) rfl h2 (Int.toNat_of_nonneg mH)) (λmH=>AA [_,_] [_] [.L Ah Ac,.L Ac Al,.e Aa Am] (.u Aa Ab) rfl h1 h2 (Int.toNat_of_nonpos mH)))
theorem So{row:List Int}{here:Int}(h1:1<=here)(h2:here<=row.length):T7 (AC row) (here-1)=some (.int (row.getD (here-1).toNat 0)):=by
 have:here-1=((here-1).toNat:Int):=by exact Int.le_antisymm (AA [_] [_] [.L (.s Ac Ah) Ag] (.L (.s Ac Ah) Ag) rfl (Int.self_le_toNat _)) ((Int.le_total 0 _).elim (λmH=>AA [_] [_] [.E Ag (.s Ac Ah)] (.L Ag (.s Ac Ah)) rfl (Int.toNat_of_nonneg mH)) (λmH=>AA [_] [_] [.L Ah Ac,.e Aa Am] (.L Ag (.s Ac Ah)) rfl h1 (Int.toNat_of_nonpos mH)))
 rw[this]
 exact Cu (f:=D.int) (Wz h1 h2)
theorem W0{row:List Int}(hr:∀v∈row,1<=v/\v<=row.length):∀(m:Nat) (here met:Int) (KK:KS),1<=here->here<=row.length->met<=row.length+1->(m:Int)+met=row.length+2 ->
  (∀o,KK .next [some (AM row),o,some (.int (QO row m here met)),none] H) ->
  Cw (Cr B n FM) (AQ B n FN) m [some (AM row),some (.int here),some (.int met),none] H KK
 |0,here,met,KK,h1,h2,h3,h4,hk=>by exact(AA [_] [_] [.R (.p (.c Am) Ac) (.p Ag Ax),.L Ac (.p Ag Ah)] .f rfl h4 h3).elim
 |m+1,here,met,KK,h1,h2,h3,h4,hk=>by
  unfold QO at hk
  have hv:=hr _ (List.mem_of_getElem? (Wz h1 h2))
  refine AP (d:=.tup (AC row)) rfl (So h1 h2) ?_
  refine MA ?_
  refine BB (λc=>?_) λc=>?_
  ·refine B1 (d:=.tup (AC row)) rfl ?_
   refine Q9 ?_
   rw[BZ]
   refine BB (λc2=>?_) λc2=>?_
   ·simp only[if_pos (show _/\_ from⟨c,c2⟩)] at hk
    refine AP (d:=.tup (AC row)) rfl (So h1 h2) ?_
    refine⟨rfl,?_⟩
    exact W0 hr m _ _ KK hv.1 hv.2 (by exact AA [] [_,_] [.L Ac Ad] (.L (.p Ac Ah) (.p Ad Ah)) rfl c2) (by exact Int.le_antisymm (AA [_,_] [_] [.E (.p (.c (.p Aa Ae)) Ac) (.p Al Ax)] (.L (.p Ag (.p Ac Ah)) (.p Al Ax)) rfl h4) (AA [_,_] [_] [.R (.p (.c (.p Aa Ae)) Ac) (.p Al Ax)] (.L (.p Al Ax) (.p Ag (.p Ac Ah))) rfl h4)) hk
   ·simp only[if_neg (show ¬(_/\_) from λh=>c2 h.2)] at hk
    exact hk _
  ·simp only[if_neg (show ¬(_/\_) from λh=>c h.1)] at hk
   exact hk _
theorem Uu(P:AS B cS cC cI){row:List Int}(h1:1<=row.length)(hr:∀v∈row,1<=v/\v<=row.length)(k:K (.bool (Lq row)) H):AH B (n+1) "_law_is_ring" [AM row] H K:=by
 refine Ll P ?_
 refine⟨row.length+1,?_⟩
 refine W0 hr (row.length+1) 1 1 _ (by exact AA [] [] [] (.L Ah Ah) rfl) (by exact AA [_] [] [.l Ae Aa] (.L Ah Ag) rfl h1) (by exact AA [] [_] [.L Ak Ac] (.L Ah (.p Ac Ah)) rfl (Int.natCast_nonneg _)) (by exact Int.le_antisymm (AA [_] [] [] (.L (.p (.c (.p Aa Ae)) Ah) (.p Ag Ax)) rfl) (AA [_] [] [] (.L (.p Ag Ax) (.p (.c (.p Aa Ae)) Ah)) rfl)) λo=>?_
 refine B1 (d:=.tup (AC row)) rfl ?_
 rw[BZ]
 exact DI k
end
noncomputable def K5(vs:List Int):List Int->Int->List Int->Bool
 |[],here,_=>decide (here=1)
 |_::r,here,met=>if here∈met\/¬(1<=here/\here<=vs.length) then false else K5 vs r (vs.getD (here-1).toNat 0) (met++[here])
def Gn(vs:List Int):Bool:=K5 vs vs 1 []
def Fb(vs:List Int):List (Int×Int):=(CR 0 vs).map λb=>((b.1:Int)+1,b.2)
def Df(vs:List Int):List (Int×Int):=(CR 0 vs).map λb=>(b.2,(b.1:Int)+1)
def Go(q:Nat)(vs:List Int):Prop:=(Fb (vs.take q)).Perm (Df (vs.drop q))
section
variable {B:Base} {cS cC cI:Addr} {n nv:Nat} {H H' H0c:KH} {K:D->KH->Prop} {p:Dn} {st:St} {C x dx:Addr} {mP:List (Str×D)}
theorem N1{q:Nat}:∀m,∀r∈Cf q m,∀v∈r,1<=v/\v<=q
 |0,r,h,v,hv=>by rw[List.mem_singleton.mp h] at hv;cases hv
 |m+1,r,h,v,hv=>by
  refine BG (List.mem_flatMap.mp h) λr' h1 h2=>?_
  refine BG (List.mem_map.mp h2) λk hk mN=>?_;subst mN
  rcases List.mem_append.mp hv with hv|hv
  ·exact N1 m r' h1 v hv
  ·rw[List.mem_singleton.mp hv]
   have:=Bo.mp (List.mem_filter.mp hk).1
   exact⟨AA [] [_] [.L Ah Ac] (.L Ah Ac) rfl this.1,AA [_] [_] [.U Ac (.p Ag Ah)] (.L Ac Ag) rfl this.2⟩
theorem C2{q:Nat}(hq:q<=4):(Cf q q).length<=256:=Nat.le_trans (Lr hq q hq) (Nat.pow_le_pow_right (n:=4) (by decide) hq)
theorem N2(f:List Int->Bool)(xs:BK):xs.filterMap (λv=>if f v=true then some (AM v) else none)=(xs.filter f).map AM:=by
 induction xs with
 |nil=>rfl
 |cons v xs ih =>
  rw[List.filterMap_cons,List.filter_cons]
  cases h:f v
  ·simp only[Bool.false_eq_true,if_false];exact ih
  ·simp only[if_true,List.map_cons];rw[ih]
theorem N3(P:AS B cS cC cI){q:Nat}(h1:1<=q)(hq:q<=4)(k:K (.lst ((Bk q).map AM)) H):AH B (n+2) "_law_answers" [.int 0,.tup [.int q]] H K:=by
 refine Gh P ?_
 refine DI ?_
 refine AP (d:=.tup [.int q]) (e:=.int q) rfl rfl ?_
 show AH B (n+1) "_law_rows" [.int q] H _
 refine Wy P hq ?_
 intro a ha
 have hb:=C2 hq
 refine BX (xs:=Cf q q) AM (λr=>if Lq r=true then some (AM r) else none) ha (by exact AA [_] [] [.l Aa A5] (.u Aa Ao) rfl hb) (λr hr acc K' h=>?_) λe1 e2=>⟨e1,?_⟩
 ·show AH B (n+1) "_law_is_ring" [AM r] _ _
  have hl:=Ev q r hr
  refine Uu P (by exact AA [_,_] [] [.l Ae Ab,.r Aa Ab] (.l Ae Aa) rfl h1 hl) (λv hv=>by have:=N1 q r hr v hv;exact⟨AA [] [_] [.L Ah Ac] (.L Ah Ac) rfl this.1,AA [_,_] [_] [.L Ac Al,.r Aa Ab] (.L Ac Ag) rfl this.2 hl⟩) ?_
  refine J4 (λc=>?_) λc=>?_
  ·rw[if_pos c] at h;exact h
  ·rw[if_neg (by rw[c];simp)] at h;exact h
 ·rw[if_pos rfl,←e2,N2]
  exact k
theorem N4(P:AS B cS cC cI){q:Nat}(hq:q<=4)(hp:∀r∈Cf q q,∀k∈CD 1 (q+1),k∈r)(k:K (.lst ((BM q m).map AM)) H):AH B (n+2) "_law_answers" [.int 1,.tup [.int q,.int m]] H K:=by
 refine Gh P ?_
 refine DI ?_
 refine AP (d:=.tup [.int q,.int m]) (e:=.int q) rfl rfl ?_
 refine AP (d:=.tup [.int q,.int m]) (e:=.int m) rfl rfl ?_
 refine MA ?_
 unfold BM at k
 refine BB (λc=>?_) λc=>?_
 ·rw[if_neg (λe=>c (by rw[e]))] at k
  exact k
 ·have e:q=m:=by have:=Classical.not_not.mp c;exact M4 (AA [_,_] [] [.E Ag Al] (.l Aa Ab) rfl this) (AA [_,_] [] [.R Ag Al] (.l Ab Aa) rfl this)
  rw[if_pos e] at k
  intro a ha
  refine AP (d:=.tup [.int q,.int m]) (e:=.int q) rfl rfl ?_
  show AH B (n+1) "_law_rows" [.int q] (H.set a (.list [])) _
  refine Wy P hq ?_
  have main:∀(rows acc:BK) (o2 o4:Option D),(∀r∈rows,r∈Cf q q)->acc.length+rows.length<1000->K (.lst ((acc++rows.map λrow=>row++GJ q row).map AM)) H ->
    Bm (AQ B (n+1) FO) (.v 2) (rows.map AM) [some (.int 1),some (.tup [.int q,.int m]),o2,some (.ref a),o4,none,none,none] (H.set a (.list (acc.map AM)))
     (λf ρ H=>match f with| .next=>AQ B (n+1) (.cons (.freeze 3) (.cons (.ret (.var 3)) .nil)) ρ H (BI K)|f=>BI K f ρ H):=by
   intro rows
   induction rows with
   |nil =>
    intro acc o2 o4 _ _ k
    refine Gk (KH.set_self ..) ?_
    show K (.lst _) ((H.set a _).erase a)
    rw[KH.erase_set _ _ _ ha]
    rw[List.map_nil,List.append_nil] at k
    exact k
   |cons r rows ih =>
    intro acc o2 o4 hr hl k
    rw[List.length_cons] at hl
    have hrr:=hr r (List.mem_cons_self ..)
    have hrl:=Ev q r hrr
    refine AP (d:=.tup [.int q,.int m]) (e:=.int q) rfl rfl ?_
    refine⟨by unfold BA;exact⟨AA [] [] [] (.L (.g Ap) Ah) rfl,AA [] [] [] (.L Ah Ap) rfl⟩,by unfold BA;exact⟨AA [_] [] [] (.L (.g Ap) (.p Ag Ah)) rfl,AA [_] [] [.l Aa As] (.L (.p Ag Ah) Ap) rfl hq⟩,?_⟩
    rw[HH]
    intro b hb
    have hab:a≠b:=by rintro rfl;rw[KH.set_self] at hb;exact sN hb
    refine BX (xs:=CD 1 (q+1)) .int (λv=>some (.int ((r.idxOf v:Int)+1))) hb (by rw[Cb];exact(Int.le_total 0 _).elim (λmH=>AA [_,_] [] [.l Ab As,.E Ag (.s (.p Al Ah) Ah)] (.u Aa Ao) rfl hq (Int.toNat_of_nonneg mH)) (λmH=>AA [_] [] [.e Aa Am] (.u Aa Ao) rfl (Int.toNat_of_nonpos mH))) (λv hv acc K' h=>?_) λe1 e2=>⟨e1,?_⟩
    ·refine⟨⟨false,AC r,rfl⟩,?_⟩
     exact⟨r,rfl,hp r hrr v hv,h⟩
    ·rw[if_pos rfl,←e2]
     refine B5 (d:=.lst _) rfl ?_
     refine⟨⟨_,KH.set_self ..⟩,?_⟩
     have eb:(CD 1 (q+1)).filterMap (λv=>some (D.int ((r.idxOf v:Int)+1)))=AC (GJ q r):=by
      rw[List.filterMap_eq_map']
      unfold AC GJ
      rw[List.map_map];rfl
     rw[eb]
     have hbl:(GJ q r).length=q:=by unfold GJ;rw[List.length_map,Cb];exact M4 ((Int.le_total 0 _).elim (λmH=>AA [_,_] [] [.E Ag (.s (.p Al Ah) Ah)] (.l Aa Ab) rfl (Int.toNat_of_nonneg mH)) (λmH=>AA [_,_] [] [.e Aa Am] (.l Aa Ab) rfl (Int.toNat_of_nonpos mH))) (AA [_,_] [] [.L (.s (.p Al Ah) Ah) Ag] (.l Ab Aa) rfl (Int.self_le_toNat _))
     refine⟨by rw[BZ,BZ];exact AA [_,_,_] [] [.e Aa Af,.e Ab Af,.m 2 (.l Af As)] (.l (.p Aa Ab) Ao) rfl hrl hbl hq,?_⟩
     rw[C7]
     refine Ca (KH.set_self ..) (by rw[List.length_map];exact AA [_,_] [] [.u (.p Aa (.p Ab Ae)) Aj] (.u Aa Ao) rfl hl) ?_
     rw[KH.set_set]
     have:=ih (acc++[r++GJ q r]) (some (AM r)) (some (AM (GJ q r))) (λs hs=>hr s (List.mem_cons_of_mem _ hs)) (by rw[List.length_append];simp;exact AA [_,_] [] [.u (.p Aa (.p Ab Ae)) Aj] (.u (.p (.p Aa Ae) Ab) Aj) rfl hl) (by rw[List.append_assoc];exact k)
     rw[List.map_append] at this
     exact this
  have hb:=C2 hq
  exact main (Cf q q) [] _ _ (λ_ h=>h) (by simp;exact AA [_] [] [.l Aa A5] (.u Aa Aj) rfl hb) (by rw[List.nil_append];exact k)
theorem W3(P:AS B cS cC cI){vs:List Int}(h1:vs.length<1000)(k:K (.bool (Gn vs)) H):AJ B (n+1) cC "check" [.ref x,.tup (AC vs)] H K:=by
 refine Ku P ?_
 intro a ha
 refine⟨rfl,?_⟩
 have main:∀(laps met:List Int) (here:Int) (o4:Option D),met.length+laps.length<1001->K (.bool (K5 vs laps here met)) H ->
   Bm (AQ B n EZ) (.v 4) (AC laps) [some (.ref x),some (.tup (AC vs)),some (.int here),some (.ref a),o4,none] (H.set a (.list (AC met)))
    (λf ρ H=>match f with| .next=>AQ B n (.cons (.freeze 3) (.cons (.ret (.cmp (.var 2) .Eq (.int 1))) .nil)) ρ H (BI K)|f=>BI K f ρ H):=by
  intro laps
  induction laps with
  |nil =>
   intro met here o4 _ k
   refine Gk (KH.set_self ..) ?_
   show CA .Eq (.int here) (.int 1) λc=>K (.bool c) ((H.set a _).erase a)
   rw[KH.erase_set _ _ _ ha]
   exact DI k
  |cons l laps ih =>
   intro met here o4 hl k
   rw[List.length_cons] at hl
   have no:¬¬(here∈met\/¬(1<=here/\here<=vs.length))->aP (some (.ref a)) (H.set a (.list (AC met))) λds b=>K (.bool false) ((H.set a (.list (AC met))).erase b):=λc=>by
    unfold K5 at k
    rw[if_pos (Classical.not_not.mp c)] at k
    refine Gk (KH.set_self ..) ?_
    rw[KH.erase_set _ _ _ ha]
    exact k
   refine am (a:=.int here) (KH.set_self ..) (CP _ _) (Bn _ _) ?_
   rw[HD Gj]
   refine BB (λc=>no λh=>h (.inl c)) λc=>?_
   refine Q9 ?_
   refine BB (λc2=>?_) λc2=>no λh=>h (.inr λh=>c2 h.1)
   refine B1 (d:=.tup (AC vs)) rfl ?_
   rw[BZ]
   refine Q9 ?_
   refine Sm (λc3=>?_) λc3=>?_
   ·exact no λh=>h (.inr λh=>by rw[decide_eq_true h.2] at c3;exact iT c3)
   ·have c3:=of_decide_eq_true c3
    unfold K5 at k
    rw[if_neg (λh=>h.elim c λh=>h ⟨c2,c3⟩)] at k
    refine⟨⟨_,KH.set_self ..⟩,?_⟩
    refine Ca (KH.set_self ..) (by rw[BZ];exact AA [_,_] [] [.u (.p Aa (.p Ab Ae)) (.n 1001)] (.u Aa Ao) rfl hl) ?_
    rw[KH.set_set]
    refine AP (d:=.tup (AC vs)) rfl (So c2 c3) ?_
    have:=ih (met++[here]) (vs.getD (here-1).toNat 0) (some (.int l)) (by rw[List.length_append];simp;exact AA [_,_] [] [.u (.p Aa (.p Ab Ae)) (.n 1001)] (.u (.p (.p Aa Ae) Ab) (.n 1001)) rfl hl) k
    rw[←C7] at this
    exact this
 exact main vs [] 1 none (by simp;exact AA [_] [] [.u Aa Aj] (.u Aa (.n 1001)) rfl h1) k
theorem aD{fr:Bool}{i:Int}(h0:0<=i)(h1:i<ds.length)(h:K (.tup (ds.take i.toNat)) H):Pc fr (.tup ds) (.int i) H K:=.tup rfl (Int.toNat_of_nonneg h0▸rfl) ((Int.toNat_lt h0).mpr h1) h
theorem aE{i:Int}(h0:1<=i)(h1:i<=ds.length)(h:K (.tup (ds.drop i.toNat)) H):Rj (.tup ds) (.int i) H K:=.tup rfl (Int.toNat_of_nonneg (Int.le_trans (by decide) h0)▸rfl) ((Int.le_toNat (Int.le_trans (by decide) h0)).mpr h0) (Int.toNat_le.mpr h1) h
theorem W4{a b:Int×Int}(h1:OO a b)(h2:OO b a):a=b:=by
 obtain⟨a1,a2⟩:=a;obtain⟨b1,b2⟩:=b
 unfold OO BU at h1 h2
 split at h1<;>split at h2<;>simp_all<;>omega
theorem W5(P:AS B cS cC cI){fs gs:List Nat}{vs:List Int}{b:Bool}(A:BJ cI x dx (HE fs gs) H)(h1:1<=fs.length)(h2:fs.length<=3)(h3:1<=gs.length)(h4:gs.length<=3)(hv:vs.length=fs.length+gs.length)(hb:b=true↔Go fs.length vs)(k:K (.bool b) H) :
  AJ B (n+1) cI "check" [.ref x,.tup (AC vs)] H K:=by
 refine Kv P ?_
 refine Bl (v:=.tup (fs.map AE)) A P.jv rfl ?_
 refine B1 (d:=.tup (fs.map AE)) rfl ?_
 rw[List.length_map]
 have el:∀ws:List Int,Bc 0 (AC ws)=(CR 0 ws).map λb=>.tup [.int b.1,.int b.2]:=λws=>Gl ws 0
 have en:∀(ws:List Int) (i:Nat),(CR i ws).length=ws.length:=λws=>by
  induction ws with
  |nil=>intro i;rfl
  |cons w ws ih=>intro i;show(CR (i+1) ws).length+1=_;rw[ih];rfl
 refine aD (by exact AA [] [_] [.L Ak Ac] (.L Ak Ac) rfl (Int.natCast_nonneg _)) (by rw[BZ];exact AA [_,_,_] [] [.r Ab (.p Aa Af),.l Ae Af] (.U Ag Al) rfl hv h3) ?_
 have et:(AC vs).take ((fs.length:Int)).toNat=AC (vs.take fs.length):=by unfold AC;rw[List.map_take];rfl
 rw[et]
 show ∀a,H a=none->CK _ a (Bc 0 (AC (vs.take fs.length))) [] _ _
 intro a ha
 rw[el]
 refine BX (xs:=CR 0 (vs.take fs.length)) _ (λb=>some (BW ((b.1:Int)+1,b.2))) ha (by rw[en];simp;exact AA [_,_] [] [.l Ab An,.l Aa Ab] (.u Aa Ao) rfl h2 (Nat.min_le_left _ _)) (λb _ acc K' h=>h) λe1 e2=>⟨e1,?_⟩
 rw[if_pos rfl,←e2]
 refine aE (by exact AA [_] [] [.l Ae Aa] (.L Ah Ag) rfl h1) (by rw[BZ];exact AA [_,_,_] [] [.r Ab (.p Aa Af)] (.L Ag Al) rfl hv) ?_
 have ed:(AC vs).drop ((fs.length:Int)).toNat=AC (vs.drop fs.length):=by unfold AC;rw[List.map_drop];rfl
 rw[ed]
 show ∀a,H a=none->CK _ a (Bc 0 (AC (vs.drop fs.length))) [] _ _
 intro a ha
 rw[el]
 refine BX (xs:=CR 0 (vs.drop fs.length)) _ (λb=>some (BW (b.2,(b.1:Int)+1))) ha (by rw[en];simp;exact AA [_,_,_,_] [] [.e Ab (.p Af Aq),.l Aq An,.e (.p Aa Af) Ab] (.u Aa Ao) rfl hv h4 (IC (AA [_,_,_] [] [.r Aa (.p Ab Af)] (.l Ab Aa) rfl hv))) (λb _ acc K' h=>h) λe1 e2=>⟨e1,?_⟩
 rw[if_pos rfl,←e2]
 refine⟨Fb (vs.take fs.length),by rw[List.filterMap_eq_map'];unfold Fb;rw[List.map_map];rfl,by unfold Fb;rw[List.length_map,en,List.length_take];exact AA [_,_] [] [.l Ab An,.l Aa Ab] (.l Aa An) rfl h2 (Nat.min_le_left _ _),λp1 hp1 hs1=>?_⟩
 refine⟨Df (vs.drop fs.length),by rw[List.filterMap_eq_map'];unfold Df;rw[List.map_map];rfl,by unfold Df;rw[List.length_map,en,List.length_drop];exact AA [_,_,_,_] [] [.e Ab (.p Af Aq),.l Aq An,.e (.p Aa Af) Ab] (.l Aa An) rfl hv h4 (IC (AA [_,_,_] [] [.r Aa (.p Ab Af)] (.l Ab Aa) rfl hv)),λp2 hp2 hs2=>?_⟩
 have eo:∀(q:List (Int×Int)),CG AY (.lst (q.map BW))=true:=λq=>by
  show Bz 5 (q.map BW)=true
  induction q with
  |nil=>rfl
  |cons r q ih=>show(CG 5 (BW r)&&Bz 5 (q.map BW))=true;rw[ih];rfl
 refine H9 (a:=.lst (p1.map BW)) (b:=.lst (p2.map BW)) (eo _) (eo _) ?_
 have e:OJ (.lst (p1.map BW)) (.lst (p2.map BW))=b:=by
  refine DY ?_
  rw[CF,hb]
  unfold Go
  constructor
  ·intro h
   have:p1=p2:=Mv (λ_ _=>RC) (D.lst.inj h)
   subst this
   exact hp1.symm.trans hp2
  ·intro h
   have:p1.Perm p2:=(hp1.trans h).trans hp2.symm
   rw[this.eq_of_pairwise (λa b _ _=>W4) hs1 hs2]
 rw[e];exact k
end
def AN(st:St):BK:=st.doms.map vals
def MG(d:Bb):Prop:=∀v∈vals d,-1000<=v/\v<=1000
inductive Ty(sc:List Nat)(A:BK):List Qc->BK->BK->Prop
 |nil {ls:BK}:Ty sc A [] ls ls
 |cons {e:Qc} {es:List Qc} {ls ls':BK} {rs:List CQ}:e.rs=some rs->ls[e.x]? = some (vals e.old)->Bh e.old->MG e.old->(vals e.old).length<=1000->e.lit.x=e.x->RQ ls rs=true->(∀l∈rs,l.x<ls.length)->(∀vs∈ls,vs.length<=1000) ->
   (∀a∈A,keeps sc a rs=true->keeps sc a [e.lit]=true)->Ty sc A es (ls.set e.x ((vals e.old).filter (says e.lit))) ls'->Ty sc A (e::es) ls ls'
def Cc(sc:List Nat)(st:St):Prop:=∀y∈sc,(vals (st.dom y)).length=1
structure LN(prop:M)(sc:List Nat)(A:BK)(st:St):Prop where
 flag:(prop st).1 = !(prop st).2.failed
 fixd:Cc sc st->((prop st).1=true↔∃a∈A,Bj sc (AN st) a=true)
 ents:∃es,(prop st).2.trail=st.trail++es/\Ty sc A es (AN st) (AN (prop st).2)
 bad:(prop st).1=false->(∀a∈A,Bj sc (AN st) a=false)/\RQ (AN (prop st).2) (prop st).2.clash=true/\(∀l∈(prop st).2.clash,l.x<st.doms.length)/\∀a∈A,keeps sc a (prop st).2.clash=false
 good:(prop st).1=true->(∀a∈A,Bj sc (AN st) a=true->Bj sc (AN (prop st).2) a=true)/\(Cc sc (prop st).2->∃a∈A,Bj sc (AN (prop st).2) a=true)/\prop (prop st).2=(true,(prop st).2)
theorem MG.ok{d:Bb}(h:MG d)(V:Bh d):∀q∈d,iY q:=λq hq=>by
 have a:=h _ (B8.mpr ⟨q,hq,Int.le_refl _,V.1 q hq⟩)
 have b:=h _ (B8.mpr ⟨q,hq,V.1 q hq,Int.le_refl _⟩)
 unfold iY BA
 exact⟨⟨AA [] [_] [.L (.g A7) Ac] (.L (.g Ap) Ac) rfl a.1,AA [] [_] [.L Ac A7] (.L Ac Ap) rfl a.2⟩,⟨AA [] [_] [.L (.g A7) Ac] (.L (.g Ap) (.p Ac Ah)) rfl b.1,AA [] [_] [.L Ac A7] (.L (.p Ac Ah) Ap) rfl b.2⟩⟩
section
variable {B:Base} {cS cC cI:Addr} {n nv:Nat} {H H' H0c:KH} {K:D->KH->Prop} {p:Dn} {st:St} {C x dx:Addr} {mP:List (Str×D)}
theorem Cq(h:y<st.doms.length):(AN st)[y]? = some (vals (st.dom y)):=by
 unfold AN
 rw[List.getElem?_map,C8 h];rfl
theorem D2:(AN st).length=st.doms.length:=by unfold AN;rw[List.length_map]
noncomputable abbrev iZ(s sc an li b:D)(o5 o6 o7 o8 o9 o10:Option D):Bw:=[some s,some sc,some an,some li,some b,o5,o6,o7,o8,o9,o10,none,none,none,none]
theorem PT(P:AS B cS cC cI){A ls:BK}{la:Addr}{bg:Nat}(S:AB cS p st H)(I:B3 st)(hsm:∀d∈st.doms,MG d)(hla:H la=some (.list (ls.map Cl)))(hlp:la∉p.all)(E:Ty sc A (st.trail.drop bg) ls (AN st))
  (k:K (.bool true) (H.set la (.list ((AN st).map Cl)))):AH B (n+3) "_law_entries_right" [.ref p.a,.lst (sc.map AE),.lst (A.map AM),.ref la,.int bg] H K:=by
 refine HC P ?_
 refine AX (v:=.ref p.trail) S P.jo rfl ?_
 refine Wp S.ht (by exact AA [] [_] [.L Ak Ac] (.L Ak Ac) rfl (Int.natCast_nonneg _)) ?_
 rw[←List.map_drop,Int.toNat_natCast]
 have ans:∀{H0a:KH} {e:Qc} {rs:List CQ} {o5 o6 o7:Option D} (as:BK) (o10:Option D) (KK:KS),(∀a∈as,keeps sc a rs=true->keeps sc a [e.lit]=true) ->
   (∀o10,KK .next (iZ (.ref p.a) (.lst (sc.map AE)) (.lst (A.map AM)) (.ref la) (.int bg) o5 o6 o7 (some (BL e.lit)) (some (.tup (rs.map BL))) o10) H0a) ->
   Bm (AQ B (n+2) DG) (.v 10) (as.map AM) (iZ (.ref p.a) (.lst (sc.map AE)) (.lst (A.map AM)) (.ref la) (.int bg) o5 o6 o7 (some (BL e.lit)) (some (.tup (rs.map BL))) o10) H0a KK:=by
  intro H0a e rs o5 o6 o7 as
  induction as with
  |nil=>intro o10 KK _ hk;exact hk o10
  |cons a as ih =>
   intro o10 KK ha hk
   show AH B (n+2) "_law_keeps" [.tup (AC a),.lst (sc.map AE),.tup (rs.map BL)] H0a _
   refine QP P (.inr rfl) ?_
   have nx:=ih (some (AM a)) KK (λb hb=>ha b (List.mem_cons_of_mem _ hb)) hk
   refine J4 (λc=>?_) λc=>nx
   show AH B (n+2) "_law_keeps" [.tup (AC a),.lst (sc.map AE),.lst [BL e.lit]] H0a _
   refine QP P (ls:=[e.lit]) (.inl rfl) ?_
   rw[ha a (List.mem_cons_self ..) c]
   exact nx
 have main:∀{es:List Qc} {ls ls':BK},Ty sc A es ls ls'->∀{H0a:KH} (o5 o6 o7 o8 o9 o10:Option D) (KK:KS),H0a la=some (.list (ls.map Cl)) ->
   (∀o5 o6 o7 o8 o9 o10,KK .next (iZ (.ref p.a) (.lst (sc.map AE)) (.lst (A.map AM)) (.ref la) (.int bg) o5 o6 o7 o8 o9 o10) (H0a.set la (.list (ls'.map Cl)))) ->
   Bm (AQ B (n+2) DH) (.v 5) (es.map Oi) (iZ (.ref p.a) (.lst (sc.map AE)) (.lst (A.map AM)) (.ref la) (.int bg) o5 o6 o7 o8 o9 o10) H0a KK:=by
  intro es ls ls' E
  induction E with
  |nil =>
   intro H0a o5 o6 o7 o8 o9 o10 KK hla hk
   have:=hk o5 o6 o7 o8 o9 o10
   rw[KH.set_same _ _ _ hla] at this
   exact this
  |@cons e es ls ls' rs h1 h2 h3 h4 h5 h6 h7 h8 h9 h10 _ ih =>
   intro H0a o5 o6 o7 o8 o9 o10 KK hla hk
   have hlx:e.x<ls.length:=(List.getElem?_eq_some_iff.mp h2).1
   refine AP (d:=Oi e) (e:=.int e.x) rfl rfl ?_
   refine AP (d:=Oi e) (e:=AG e.old) rfl rfl ?_
   refine AP (d:=Oi e) (e:=BL e.lit) rfl rfl ?_
   refine AP (d:=Oi e) (e:=.tup (rs.map BL)) rfl (by show some (Wh e.rs)=_;rw[h1];rfl) ?_
   refine PM ?_
   show AH B (n+2) "values" [AG e.old] H0a _
   refine Id P (by exact AA [_] [] [.l Aa Aj] (.u Aa Ao) rfl h5) (h4.ok h3) ?_
   refine Cx (AZ hla) h2 ?_
   refine IA (a:=Cl (vals e.old)) (b:=Cl (vals e.old)) (Bn 5 _) (Bn 5 _) ?_
   rw[(CF _ _).mpr rfl]
   refine AP (d:=BL e.lit) (e:=.int e.lit.x) rfl rfl ?_
   refine MA ?_
   rw[h6,decide_eq_false (by simp)]
   show AH B (n+2) "_law_hold" [.ref la,.tup (rs.map BL)] H0a _
   refine Ww P (AZ hla) h8 (λvs hv=>by have:=h9 vs hv;exact AA [_] [] [.l Aa Aj] (.u Aa A4) rfl this) ?_
   rw[h7]
   refine ans A o10 _ h10 λo10=>?_
   refine Cx (AZ hla) h2 ?_
   intro a ha
   refine BX (xs:=vals e.old) .int (λv=>if says e.lit v=true then some (.int v) else none) ha (by exact AA [_] [] [.l Aa Aj] (.u Aa Ao) rfl h5) (λv _ acc K' h=>?_) λe1 e2=>⟨e1,?_⟩
   ·show AH B (n+2) "_law_says" [BL e.lit,.int v] _ _
    refine Sn P ?_
    refine J4 (λc=>?_) λc=>?_
    ·rw[if_pos c] at h;exact h
    ·rw[if_neg (by rw[c];simp)] at h;exact h
   ·rw[if_pos rfl,←e2,En]
    refine QL (f:=Cl) (e:=(vals e.old).filter (says e.lit)) hla hlx ?_
    refine ih _ _ _ _ _ _ _ (KH.set_self ..) λo5 o6 o7 o8 o9 o10=>?_
    rw[KH.set_set]
    exact hk o5 o6 o7 o8 o9 o10
 refine main E _ _ _ _ _ _ _ hla λo5 o6 o7 o8 o9 o10=>?_
 have S0b:AB cS p st (H.set la (.list ((AN st).map Cl))):=S.set hlp
 refine Bf S0b rfl P.jr ?_
 show AJ B (n+2) cS "size" [.ref p.a] _ _
 refine Ig P S0b ?_
 have hn:=I.n
 refine⟨by unfold BA;exact⟨AA [_] [] [] (.L (.g Ap) Ag) rfl,AA [_] [] [.l Aa A0] (.L Ag Ap) rfl hn⟩,?_⟩
 rw[Bs]
 intro a ha
 have hal:la≠a:=by rintro rfl;rw[KH.set_self] at ha;exact sN ha
 refine BX (xs:=List.range st.doms.length) (λ(i:Nat)=>D.int i) (λi=>none) ha (by simp;exact AA [_] [] [.l Aa A0] (.u Aa Ao) rfl hn) (λi hi acc K' h=>?_) λe1 e2=>⟨e1,?_⟩
 ·have hi:=List.mem_range.mp hi
  have S0a:AB cS p st ((H.set la (.list ((AN st).map Cl))).set a (.list acc)):=S0b.set (S0b.fresh ha)
  refine Bf S0a rfl P.j0 ?_
  show AJ B (n+2) cS "dom" [.ref p.a,.int i] _ _
  refine RD P S0a hi ?_
  show AH B (n+2) "values" [AG (st.dom i)] _ _
  have ht:=El (CY hi)
  have hz:=I.z
  refine Id P (by exact AA [_,_,_] [] [.l Aa Ab,.l (.p Af Ab) Aj] (.u Aa Ao) rfl ht hz) ((hsm _ (CY hi)).ok (I.valid hi)) ?_
  refine Cx (AZ ((KH.set_ne _ _ hal).trans (KH.set_self ..))) (Cq hi) ?_
  refine IA (a:=Cl (vals (st.dom i))) (b:=Cl (vals (st.dom i))) (Bn 5 _) (Bn 5 _) ?_
  rw[(CF _ _).mpr rfl]
  exact h
 ·rw[if_pos rfl,←e2]
  have e0:(List.range st.doms.length).filterMap (λ_=>(none:Option D))=[]:=List.filterMap_eq_nil_iff.mpr λ_ _=>rfl
  rw[e0]
  refine H9 (a:=.lst []) (b:=.lst []) rfl rfl ?_
  rw[(CF _ _).mpr rfl]
  exact k
end
section
variable {B:Base} {cS cC cI:Addr} {n nv:Nat} {H H' H0c:KH} {K:D->KH->Prop} {p:Dn} {st:St} {C x dx:Addr} {mP:List (Str×D)}
theorem Uv{a b:Bool}(h:k (a==b)):CA .Is (.bool a) (.bool b) k:=by unfold CA;exact h
theorem K6{a b:Bool}(h:k (!(a==b))):CA .IsNot (.bool a) (.bool b) k:=by unfold CA;exact h
theorem DN{α:Type}{f:α->D}{xs:List α}:OJ (.lst (xs.map f)) (.lst [])=decide (xs.isEmpty=true):=Fp ⟨λe=>by rw[List.map_eq_nil_iff.mp (D.lst.inj e)];rfl,λe=>by rw[List.isEmpty_iff.mp e];rfl⟩
theorem C3(k:Nat)(xs:BK):Bz (k+1) (xs.map AM)=true:=by
 induction xs with
 |nil=>rfl
 |cons r xs ih=>show(Bz k (AC r)&&Bz (k+1) (xs.map AM))=true;rw[ih,Bn];rfl
theorem Fu(k:Nat)(xs:List Nat):Bz k (xs.map AE)=true:=by
 induction xs with
 |nil=>cases k<;>rfl
 |cons r xs ih=>show(CG k (.int r)&&Bz k (xs.map AE))=true;rw[ih,CP];rfl
structure Tz(B:Base)(cS C x dx:Addr)(mP:List (Str×D))(prop:M)(nv:Nat):Prop where
 hasM:hasM B C "propagate"
 look:mP.lookup ("propagate":Str)=none
 ask:∀{n:Nat} {p:Dn} {st:St} {H:KH} {K:D->KH->Prop},AB cS p st H->BJ C x dx mP H->x∉p.all->dx∉p.all->B3 st->st.doms.length=nv->FU cS p (prop st).2 H (K (.bool (prop st).1))->AJ B (n+7) C "propagate" [.ref x,.ref p.a] H K
 keep:∀{st:St},B3 st->st.doms.length=nv->AI st (prop st).2
theorem Sp{c:Bool}{a b:Prop}(hb:b)(ha:c=true->b->a):if c=true then a else b:=by
 cases c with
 |true=>rw[if_pos rfl];exact ha rfl hb
 |false=>rw[if_neg (by simp)];exact hb
theorem Om{α:Type}(enc:α->D)(f:α->Bool)(xs:List α):xs.filterMap (λv=>if f v=true then some (enc v) else none)=(xs.filter f).map enc:=by
 induction xs with
 |nil=>rfl
 |cons v xs ih =>
  rw[List.filterMap_cons,List.filter_cons]
  cases h:f v
  ·simp only[Bool.false_eq_true,if_false];exact ih
  ·simp only[if_true,List.map_cons];rw[ih]
theorem HJ{α:Type}{body:D->KH->(Option D->KH->Prop)->Prop}{KF:List D->KH->Prop}{xs:List α}(enc:α->D)(f:α->Bool)(ha:H a=none)(hl:xs.length<1000000)
  (hb:∀v∈xs,∀acc K',K' (if f v=true then some (enc v) else none) (H.set a (.list acc))->body (enc v) (H.set a (.list acc)) K')
  (k:(H.set a (.list ((xs.filter f).map enc))) a=some (.list ((xs.filter f).map enc))->H=(H.set a (.list ((xs.filter f).map enc))).erase a->KF ((xs.filter f).map enc) (H.set a (.list ((xs.filter f).map enc)))) :
  CK body a (xs.map enc) [] (H.set a (.list [])) KF:=by
 refine BX enc (λv=>if f v=true then some (enc v) else none) ha hl hb ?_
 rw[Om];exact k
theorem Fc{α:Type}{enc:α->D}{f:Bool}{v:α}{K':Option D->KH->Prop}(h:K' (if f=true then some (enc v) else none) H):if f=true then K' (some (enc v)) H else K' none H:=by
 cases f<;>exact h
theorem PW(hs:∀y∈sc,y<st.doms.length):((sc.filter λy=>!decide (((AN st).getD y []).length=1)).isEmpty=true)↔Cc sc st:=by
 rw[List.isEmpty_iff,List.filter_eq_nil_iff]
 unfold Cc
 refine forall_congr' λy=>forall_congr' λhy=>?_
 have e:(AN st).getD y []=vals (st.dom y):=by rw[List.getD_eq_getElem?_getD,Cq (hs y hy)];rfl
 rw[e];simp
theorem RR{A ls:BK}:((A.filter (Bj sc ls)).isEmpty=true)↔¬∃a∈A,Bj sc ls a=true:=by
 rw[List.isEmpty_iff,List.filter_eq_nil_iff]
 exact⟨λh ⟨a,h1,h2⟩=>h a h1 h2,λh a h1 h2=>h ⟨a,h1,h2⟩⟩
noncomputable abbrev A16(s o sc an:D)(o4 o5 o6 o7 o8 o9 o10 o11:Option D):Bw:=[some s,some o,some sc,some an,o4,o5,o6,o7,o8,o9,o10,o11,none,none,none,none]
theorem Tq{b:Bool}{body:D->KH->(Option D->KH->Prop)->Prop}{KF:List D->KH->Prop}(ha:H a=none)(hl:sc.length<1000)(hs:∀y∈sc,y<st.doms.length)
  (hd:∀acc,BC (H.set a (.list acc)) d=some (b,(AN st).map Cl))
  (hb:∀(y:Nat) (acc:List D) (K':Option D->KH->Prop),MR d (.int y) (H.set a (.list acc)) (λe H=>XR e H λm H=>CA .NotEq (rd H m) (rd H (.int 1)) λc=>if c=true then K' (some (.int y)) H else K' none H)->body (AE y) (H.set a (.list acc)) K')
  (k:(H.set a (.list ((sc.filter λy=>!decide (((AN st).getD y []).length=1)).map AE))) a=some (.list ((sc.filter λy=>!decide (((AN st).getD y []).length=1)).map AE))->H=(H.set a (.list ((sc.filter λy=>!decide (((AN st).getD y []).length=1)).map AE))).erase a ->
   KF ((sc.filter λy=>!decide (((AN st).getD y []).length=1)).map AE) (H.set a (.list ((sc.filter λy=>!decide (((AN st).getD y []).length=1)).map AE)))) :
  CK body a (sc.map AE) [] (H.set a (.list [])) KF:=by
 refine HJ AE (λy=>!decide (((AN st).getD y []).length=1)) ha (by exact AA [_] [] [.u Aa Aj] (.u Aa Ao) rfl hl) (λy hy acc K' h=>?_) k
 refine hb y acc K' ?_
 refine Cx (hd acc) (Cq (hs y hy)) ?_
 refine J0 ?_
 refine IA (a:=.int _) (b:=.int 1) (CP _ _) (CP _ _) ?_
 have e:(AN st).getD y []=vals (st.dom y):=by rw[List.getD_eq_getElem?_getD,Cq (hs y hy)];rfl
 have e2:OJ (.int ((AC (vals (st.dom y))).length:Nat)) (.int 1)=decide (((AN st).getD y []).length=1):=Fp (by rw[e,BZ];exact⟨λh=>Int.ofNat.inj (D.int.inj h),λh=>by rw[h];rfl⟩)
 rw[e2]
 exact Fc h
theorem Tr(P:AS B cS cC cI){A:BK}{prop:M}(S:AB cS p st H)(Q:BJ C x dx mP H)(hx:x∉p.all)(hdx:dx∉p.all)(I:B3 st)(hsm:∀d∈st.doms,MG d)(as:Tz B cS C x dx mP prop st.doms.length)
  (hs:∀y∈sc,y<st.doms.length) (hz:sc.length<100) (hA:∀a∈A,sc.length<=a.length) (hAl:A.length<1000) (ok:LN prop sc A st) (k:FU cS p (prop st).2 H (K (.bool true))) :
  AH B (n+8) "_law_asked_right" [.ref p.a,.ref x,.lst (sc.map AE),.lst (A.map AM)] H K:=by
 have kp:=as.keep I rfl
 have hn:=I.n
 refine Ic P ?_
 refine Bf S rfl P.jr ?_
 show AJ B (n+7) cS "size" [.ref p.a] H _
 refine Ig P S ?_
 refine⟨by unfold BA;exact⟨AA [_] [] [] (.L (.g Ap) Ag) rfl,AA [_] [] [.l Aa A0] (.L Ag Ap) rfl hn⟩,?_⟩
 rw[Bs]
 intro la hla
 have hlp:la∉p.all:=S.fresh hla
 refine BX (xs:=List.range st.doms.length) (λ(i:Nat)=>D.int i) (λi=>some (Cl (vals (st.dom i)))) hla (by simp;exact AA [_] [] [.l Aa A0] (.u Aa Ao) rfl hn) (λi hi acc K' h=>?_) λe1 e2=>⟨e1,?_⟩
 ·have hi:=List.mem_range.mp hi
  have S0a:AB cS p st (H.set la (.list acc)):=S.set hlp
  refine Bf S0a rfl P.j0 ?_
  show AJ B (n+7) cS "dom" [.ref p.a,.int i] _ _
  refine RD P S0a hi ?_
  show AH B (n+7) "values" [AG (st.dom i)] _ _
  have ht:=El (CY hi)
  have hz:=I.z
  exact Id P (by exact AA [_,_,_] [] [.l Aa Ab,.l (.p Af Ab) Aj] (.u Aa Ao) rfl ht hz) ((hsm _ (CY hi)).ok (I.valid hi)) h
 have el:(List.range st.doms.length).filterMap (λi=>some (Cl (vals (st.dom i))))=(AN st).map Cl:=by
  rw[List.filterMap_eq_map']
  refine List.ext_getElem? λi=>?_
  by_cases hi:i<st.doms.length
  ·rw[List.getElem?_map,List.getElem?_map,Cq hi,List.getElem?_range hi];rfl
  ·rw[List.getElem?_eq_none (by simp;exact AA [_,_] [] [.l Aa Ab] (.l Aa Ab) rfl (Nat.le_of_not_lt hi)),List.getElem?_eq_none (by rw[List.length_map,D2];exact AA [_,_] [] [.l Aa Ab] (.l Aa Ab) rfl (Nat.le_of_not_lt hi))]
 rw[el]
 have S0b:AB cS p st (H.set la (.list ((AN st).map Cl))):=S.set hlp
 have Q0a:BJ C x dx mP (H.set la (.list ((AN st).map Cl))):=Q.set hla
 have hlc:(H.set la (.list ((AN st).map Cl))) la=some (.list ((AN st).map Cl)):=KH.set_self ..
 have back1:∀b,b≠la->(H.set la (.list ((AN st).map Cl))) b=H b:=λb hb=>KH.set_ne _ _ hb
 generalize H.set la (.list ((AN st).map Cl))=H0a at S0b Q0a hlc back1 ⊢
 refine AX (v:=.ref p.trail) S0b P.jo rfl ?_
 refine B1 (AZ S0b.ht) ?_
 rw[List.length_map]
 have hsl:∀y∈sc,y<(AN st).length:=λy hy=>by rw[D2];exact hs y hy
 intro a ha
 refine HJ (xs:=A) AM (Bj sc (AN st)) ha (by exact AA [_] [] [.u Aa Aj] (.u Aa Ao) rfl hAl) (λr hr acc K' h=>?_) λe1 e2=>⟨e1,?_⟩
 ·show AH B (n+7) "_law_within" [.tup (AC r),.lst (sc.map AE),.ref la] _ _
  exact K4 P rfl (JG ha (AZ hlc)) (hA r hr) hsl (by exact AA [_] [] [.u Aa Av] (.u Aa Aj) rfl hz) (Fc h)
 rw[if_pos rfl,←e2]
 intro a ha
 refine Tq (sc:=sc) (d:=.ref la) ha (by exact AA [_] [] [.u Aa Av] (.u Aa Aj) rfl hz) hs (λacc=>JG ha (AZ hlc)) (λy acc K' h=>h) λe1 e2=>⟨e1,?_⟩
 rw[if_pos rfl,←e2]
 refine H9 (a:=.lst _) (b:=.lst []) (Fu 5 _) rfl ?_
 rw[DN]
 have hfx:decide ((sc.filter λy=>!decide (((AN st).getD y []).length=1)).isEmpty=true)=true↔Cc sc st:=decide_eq_true_iff.trans (PW hs)
 generalize decide ((sc.filter λy=>!decide (((AN st).getD y []).length=1)).isEmpty=true)=fx at hfx ⊢
 refine Kw Q0a as.look as.hasM ?_
 show AJ B (n+7) C "propagate" [.ref x,.ref p.a] H0a _
 refine as.ask S0b Q0a hx hdx I rfl λH0b S0a O0a=>?_
 have hld:H0b la=some (.list ((AN st).map Cl)):=(O0a la hlp).trans hlc
 have Q0b:=Q0a.off O0a hx hdx
 have hab:=RR (sc:=sc) (A:=A) (ls:=AN st)
 have flag:=ok.flag
 have fixd:=ok.fixd
 have bad:=ok.bad
 have good:=ok.good
 refine BG ok.ents λes he hE=>?_
 have Sm2:∀d∈(prop st).2.doms,MG d:=by
  intro d hd v hv
  refine Ex (List.getElem?_of_mem hd) λy hy=>?_
  have hy':=(List.getElem?_eq_some_iff.mp hy).1
  have e:(prop st).2.dom y=d:=by have:=C8 hy';rw[hy] at this;exact(Option.some.inj this).symm
  rw[←e] at hv
  have hy2:y<st.doms.length:=by rw[←kp.len];exact hy'
  exact hsm _ (CY hy2) v (kp.sub y v hv)
 have hE':Ty sc A ((prop st).2.trail.drop st.trail.length) (AN st) (AN (prop st).2):=by rw[he,List.drop_left];exact hE
 have S0c:AB cS p (prop st).2 ((H0b.set la (.list ((AN (prop st).2).map Cl))).erase la):=(S0a.set hlp).erase hlp
 have O0c:EI p H ((H0b.set la (.list ((AN (prop st).2).map Cl))).erase la):=λb hb=>by
  by_cases e:b=la
  ·subst e;rw[KH.erase_self];exact hla.symm
  ·rw[KH.erase_ne _ e,KH.set_ne _ _ e,O0a b hb,back1 b e]
 have hs':∀y∈sc,y<(prop st).2.doms.length:=λy hy=>by rw[kp.len];exact hs y hy
 have hsl':∀y∈sc,y<(AN (prop st).2).length:=λy hy=>by rw[D2];exact hs' y hy
 have ll':∀vs∈AN (prop st).2,vs.length<100000:=λvs hv=>by
  refine BG (List.mem_map.mp hv) λd hd mN=>?_;subst mN
  have t1:=El hd
  have:=kp.inv.z
  exact AA [_,_,_] [] [.l Aa Ab,.l (.p Af Ab) Aj] (.u Aa A4) rfl t1 this
 cases hr:(prop st).1 with
 |true =>
  have nof:(prop st).2.failed=false:=by rw[hr] at flag;simpa using flag
  refine OK (good hr) λg1 g2 g3=>?_
  refine K6 ?_
  refine AX (v:=.bool (prop st).2.failed) S0a P.jq rfl ?_
  refine Uv ?_
  rw[nof]
  refine Sp ?_ λc rest=>?_
  rotate_left
  ·refine IA (a:=.lst ((A.filter (Bj sc (AN st))).map AM)) (b:=.lst []) (C3 4 _) rfl ?_
   rw[DN]
   refine K6 ?_
   have:decide ((A.filter (Bj sc (AN st))).isEmpty=true)=false:=decide_eq_false λh=>hab.mp h ((fixd (hfx.mp c)).mp hr)
   rw[this]
   exact rest
  show AH B (n+7) "_law_entries_right" [.ref p.a,.lst (sc.map AE),.lst (A.map AM),.ref la,.int st.trail.length] H0b _
  refine PT (n:=n+4) P S0a kp.inv Sm2 hld hlp hE' ?_
  refine Gk (KH.set_self ..) ?_
  generalize (H0b.set la (.list ((AN (prop st).2).map Cl))).erase la=H0d at S0c O0c ⊢
  refine Uv ?_
  intro a ha
  refine HJ (xs:=A.filter (Bj sc (AN st))) AM (λr=>!Bj sc (AN (prop st).2) r) ha (Nat.lt_of_le_of_lt (List.length_filter_le ..) (by exact AA [_] [] [.u Aa Aj] (.u Aa Ao) rfl hAl)) (λr hr acc K' h=>?_) λe1 e2=>⟨e1,?_⟩
  ·show AH B (n+7) "_law_within" [.tup (AC r),.lst (sc.map AE),.lst ((AN (prop st).2).map Cl)] _ _
   exact K4 P rfl rfl (hA r (List.mem_filter.mp hr).1) hsl' (by exact AA [_] [] [.u Aa Av] (.u Aa Aj) rfl hz) (Fc h)
  rw[if_pos rfl,←e2]
  refine IA (a:=.lst _) (b:=.lst []) (C3 4 _) rfl ?_
  rw[DN]
  have en:((A.filter (Bj sc (AN st))).filter λr=>!Bj sc (AN (prop st).2) r)=[]:=List.filter_eq_nil_iff.mpr λr hr=>by
   have:=List.mem_filter.mp hr
   rw[g1 r this.1 this.2];simp
  rw[en]
  intro a ha
  refine HJ (xs:=A) AM (Bj sc (AN (prop st).2)) ha (by exact AA [_] [] [.u Aa Aj] (.u Aa Ao) rfl hAl) (λr hr acc K' h=>?_) λe1 e2=>⟨e1,?_⟩
  ·show AH B (n+7) "_law_within" [.tup (AC r),.lst (sc.map AE),.lst ((AN (prop st).2).map Cl)] _ _
   exact K4 P rfl rfl (hA r hr) hsl' (by exact AA [_] [] [.u Aa Av] (.u Aa Aj) rfl hz) (Fc h)
  rw[if_pos rfl,←e2]
  refine H9 (a:=.lst ((A.filter (Bj sc (AN (prop st).2))).map AM)) (b:=.lst []) (C3 4 _) rfl ?_
  rw[DN]
  refine Sp ?_ λc rest=>?_
  rotate_left
  ·intro a ha
   refine Tq (sc:=sc) (st:=(prop st).2) (d:=.lst ((AN (prop st).2).map Cl)) ha (by exact AA [_] [] [.u Aa Av] (.u Aa Aj) rfl hz) hs' (λacc=>rfl) (λy acc K' h=>h) λe1 e2=>⟨e1,?_⟩
   rw[if_pos rfl,←e2]
   refine H9 (a:=.lst _) (b:=.lst []) (Fu 5 _) rfl ?_
   rw[DN]
   have:decide ((sc.filter λy=>!decide (((AN (prop st).2).getD y []).length=1)).isEmpty=true)=false:=decide_eq_false λh=>RR.mp (of_decide_eq_true c) (g2 ((PW hs').mp h))
   rw[this]
   exact rest
  refine AX (v:=.ref p.trail) S0c P.jo rfl ?_
  refine B1 (AZ S0c.ht) ?_
  rw[List.length_map]
  refine Kw (Q.off O0c hx hdx) as.look as.hasM ?_
  show AJ B (n+7) C "propagate" [.ref x,.ref p.a] H0d _
  refine as.ask S0c (Q.off O0c hx hdx) hx hdx kp.inv kp.len λH0e S0d O0d=>?_
  rw[g3] at S0d ⊢
  refine Uv ?_
  refine AX (v:=.ref p.trail) S0d P.jo rfl ?_
  refine B1 (AZ S0d.ht) ?_
  rw[List.length_map]
  refine DI ?_
  rw[decide_eq_true rfl]
  exact k H0e S0d (O0c.trans O0d)
 |false =>
  have isf:(prop st).2.failed=true:=by rw[hr] at flag;simpa using flag
  refine Pf (bad hr) λb1 b2 b3 b4=>?_
  have none1:decide ((A.filter (Bj sc (AN st))).isEmpty=true)=true:=decide_eq_true (hab.mpr λ⟨a,h1,h2⟩=>by rw[b1 a h1] at h2;exact Jf h2)
  refine K6 ?_
  refine K6 ?_
  refine AX (v:=.bool (prop st).2.failed) S0a P.jq rfl ?_
  refine Uv ?_
  rw[isf]
  refine Sp ?_ λc rest=>?_
  rotate_left
  ·refine IA (a:=.lst ((A.filter (Bj sc (AN st))).map AM)) (b:=.lst []) (C3 4 _) rfl ?_
   rw[DN]
   refine K6 ?_
   rw[none1]
   exact rest
  show AH B (n+7) "_law_entries_right" [.ref p.a,.lst (sc.map AE),.lst (A.map AM),.ref la,.int st.trail.length] H0b _
  refine PT (n:=n+4) P S0a kp.inv Sm2 hld hlp hE' ?_
  refine Gk (KH.set_self ..) ?_
  generalize (H0b.set la (.list ((AN (prop st).2).map Cl))).erase la=H0d at S0c O0c ⊢
  refine Uv ?_
  refine AX (v:=.tup ((prop st).2.clash.map BL)) S0c P.lC rfl ?_
  refine IA (a:=.lst ((A.filter (Bj sc (AN st))).map AM)) (b:=.lst []) (C3 4 _) rfl ?_
  rw[DN,none1]
  show AH B (n+7) "_law_hold" [.lst ((AN (prop st).2).map Cl),.tup ((prop st).2.clash.map BL)] H0d _
  refine Ww (n:=n+5) P (b:=true) rfl (λl hl=>by rw[D2,kp.len];exact b3 l hl) ll' ?_
  rw[b2]
  intro a ha
  refine HJ (xs:=A) AM (λr=>keeps sc r (prop st).2.clash) ha (by exact AA [_] [] [.u Aa Aj] (.u Aa Ao) rfl hAl) (λr hr acc K' h=>?_) λe1 e2=>⟨e1,?_⟩
  ·show AH B (n+7) "_law_keeps" [.tup (AC r),.lst (sc.map AE),.tup ((prop st).2.clash.map BL)] _ _
   exact QP (n:=n+5) P (.inr rfl) (Fc h)
  rw[if_pos rfl,←e2]
  refine H9 (a:=.lst _) (b:=.lst []) (C3 4 _) rfl ?_
  have en:(A.filter λr=>keeps sc r (prop st).2.clash)=[]:=List.filter_eq_nil_iff.mpr λr hr=>by rw[b4 r hr];simp
  rw[DN,en]
  exact k H0d S0c O0c
end
noncomputable def K7(sc:List Nat)(ans:List Int):Bool:=(List.range sc.length).all λk=>decide (ans.getD k 0=ans.getD (sc.idxOf (sc.getD k 0)) 0)
def C4(sc:List Nat)(ls:BK)(a:List Int):Bool:=K7 sc a&&Bj sc ls a
structure MS(d:Bb):Prop where
 v:Bh d
 ne:d≠[]
 lo:∀v∈vals d,0<=v/\v<=5
structure Cm(sc:List Nat)(st:St):Prop where
 same:st.firsts=st.doms
 trail:st.trail=[]
 marks:st.marks=[]
 failed:st.failed=false
 ok:∀d∈st.doms,MS d
 lt:∀y∈sc,y<st.doms.length
 all:∀y,y<st.doms.length->y∈sc
 len:st.doms.length<=sc.length
noncomputable def Ip(top:Nat)(mask:Int):List Nat:=(List.range (top+1)).filter λv=>decide (mask/2^v%2=1)
def Ts(top:Nat)(mask:Int):Bb:=Q8 ((Ip top mask).map λ(v:Nat)=>(v:Int))
theorem Uw{d:Bb}(h:Bh d)(e:d.getLast? = some p):p∈d:=List.mem_of_getLast? e
theorem aF{d:Bb}{v:Int}(h:Bh d)(hlt:∀w∈vals d,w<v):Bh (CC d v v)/\vals (CC d v v)=vals d++[v]:=by
 have one:vals [(v,v)]=[v]:=by
  show Gi (v,v)++[]=[v]
  unfold Gi
  rw[show((v,v).2+1-(v,v).1).toNat=1 by simp;exact M4 ((Int.le_total 0 _).elim (λmH=>AA [_] [_] [.E Ag (.s (.p Ac Ah) Ac)] (.l Aa Ae) rfl (Int.toNat_of_nonneg mH)) (λmH=>AA [_] [] [.e Aa Am] (.l Aa Ae) rfl (Int.toNat_of_nonpos mH))) (AA [_] [_] [.L (.s (.p Ac Ah) Ac) Ag] (.l Ae Aa) rfl (Int.self_le_toNat _))]
  simp[List.range_succ]
 have app:Bh (d++[(v,v)])/\vals (d++[(v,v)])=vals d++[v]:=by
  refine⟨⟨λp hp=>?_,List.pairwise_append.mpr ⟨h.2,List.pairwise_singleton ..,λp hp q hq=>?_⟩⟩,by rw[Fs,one]⟩
  ·rcases List.mem_append.mp hp with hp|hp
   ·exact h.1 p hp
   ·rw[List.mem_singleton.mp hp];exact Int.le_refl _
  ·rw[List.mem_singleton.mp hq]
   exact hlt p.2 (B8.mpr ⟨p,hp,h.1 p hp,Int.le_refl _⟩)
 rcases List.eq_nil_or_concat d with rfl|⟨q,p,rfl⟩
 ·exact app
 ·rw[List.concat_eq_append] at *
  have gl:(q++[p]).getLast? = some p:=by simp
  have dl:(q++[p]).dropLast=q:=by simp
  unfold CC
  simp only[gl,dl]
  have hp:=h.1 p (by simp)
  have hpv:=hlt p.2 (B8.mpr ⟨p,by simp,hp,Int.le_refl _⟩)
  by_cases c:v<=p.2+1
  ·simp only[if_pos c,if_pos hpv]
   have hq:Bh q:=⟨λr hr=>h.1 r (by simp[hr]),(List.pairwise_append.mp h.2).1⟩
   have hqp:=λr hr=>(List.pairwise_append.mp h.2).2.2 r hr p (by simp)
   refine⟨⟨λr hr=>?_,List.pairwise_append.mpr ⟨hq.2,List.pairwise_singleton ..,λr hr s hs=>?_⟩⟩,?_⟩
   ·rcases List.mem_append.mp hr with hr|hr
    ·exact hq.1 r hr
    ·rw[List.mem_singleton.mp hr];show p.1<=v;exact AA [] [_,_,_] [.U Ai Ad,.L Ac Ai] (.L Ac Ad) rfl hpv hp
   ·rw[List.mem_singleton.mp hs];exact hqp r hr
   ·have e:v=p.2+1:=by exact Int.le_antisymm (AA [] [_,_] [.L Ac (.p Ad Ah)] (.L Ac (.p Ad Ah)) rfl c) (AA [] [_,_] [.U Ad Ac] (.L (.p Ad Ah) Ac) rfl hpv)
    rw[Fs,Fs,List.append_assoc]
    congr 1
    show Gi (p.1,v)++[]=(Gi p++[])++[v]
    rw[List.append_nil,List.append_nil]
    unfold Gi
    have e2:((p.1,v).2+1-(p.1,v).1).toNat=(p.2+1-p.1).toNat+1:=by show(v+1-p.1).toNat=_;exact M4 ((Int.le_total 0 _).elim (λmH=>AA [_,_] [_,_,_] [.L Ac (.p Ai Ah),.E Ag (.s (.p Ac Ah) Ad),.L (.s (.p Ai Ah) Ad) Al] (.l Aa (.p Ab Ae)) rfl c (Int.toNat_of_nonneg mH) (Int.self_le_toNat _)) (λmH=>AA [_,_] [] [.e Aa Am] (.l Aa (.p Ab Ae)) rfl (Int.toNat_of_nonpos mH))) ((Int.le_total 0 _).elim (λmH=>AA [_,_] [_,_,_] [.U Ai Ac,.E Al (.s (.p Ai Ah) Ad),.L (.s (.p Ac Ah) Ad) Ag] (.l (.p Ab Ae) Aa) rfl hpv (Int.toNat_of_nonneg mH) (Int.self_le_toNat _)) (λmH=>AA [_,_] [_,_] [.L (.s (.p Ad Ah) Ac) Ak,.L Ac Ad,.e Ab Am] (.l (.p Ab Ae) Aa) rfl mH hp (Int.toNat_of_nonpos mH)))
    rw[e2,List.range_succ,List.map_append]
    simp
    exact Int.le_antisymm ((Int.le_total _ _).elim (λmH=>AA [] [_,_,_,_] [.U Ai Ay,.L Ac Ai,.E Ad Ak] (.L (.p Ac Ad) Ay) rfl hpv hp (Int.max_eq_right mH)) (λmH=>AA [] [_,_,_,_] [.U Ai Ay,.E Ad (.s (.p Ai Ah) Ac)] (.L (.p Ac Ad) Ay) rfl hpv (Int.max_eq_left mH))) (AA [] [_,_,_,_] [.L Ay (.p Ai Ah),.L (.s (.p Ai Ah) Ac) Ad] (.L Ay (.p Ac Ad)) rfl c (Int.le_max_left _ _))
  ·simp only[if_neg c]
   exact app
theorem MH:∀(ns:List Int) (d:Bb),Bh d->ns.Pairwise (· < ·)->(∀w∈vals d,∀v∈ns,w<v)->Bh (ns.foldl (λd v=>CC d v v) d)/\vals (ns.foldl (λd v=>CC d v v) d)=vals d++ns
 |[],d,h,_,_=>⟨h,by rw[List.append_nil];rfl⟩
 |n::ns,d,h,hs,hlt=>by
  rw[List.pairwise_cons] at hs
  refine Ea (aF h λw hw=>hlt w hw n (List.mem_cons_self ..)) λh1 h2=>?_
  obtain⟨h3,h4⟩:=MH ns (CC d n n) h1 hs.2 λw hw v hv=>by
   rw[h2] at hw
   rcases List.mem_append.mp hw with hw|hw
   ·exact hlt w hw v (List.mem_cons_of_mem _ hv)
   ·rw[List.mem_singleton.mp hw];exact hs.1 v hv
  exact⟨h3,by rw[List.foldl_cons,h4,h2,List.append_assoc];rfl⟩
theorem MI(top:Nat)(mask:Int):((Ip top mask).map λ(v:Nat)=>(v:Int)).Pairwise (· < ·):=by
 rw[List.pairwise_map]
 exact(List.pairwise_lt_range.filter _).imp λh=>by exact AA [_,_] [] [.u Aa Ab] (.U Ag Al) rfl h
theorem Ux:∀top<6,∀mask<64,1<=mask->mask<2^(top+1)->(List.range (top+1)).any (λv=>decide (mask/2^v%2=1))=true:=by decide +kernel
theorem W6{top:Nat}{mask:Int}(ht:top<=5)(h1:1<=mask)(h2:mask<2^(top+1)):MS (Ts top mask):=by
 refine Ea (MH ((Ip top mask).map λ(v:Nat)=>(v:Int)) [] ⟨λ_ h=>(List.not_mem_nil h).elim,.nil⟩ (MI top mask) (λ_ h=>(List.not_mem_nil h).elim)) λh3 h4=>?_
 have h4:vals (Ts top mask)=(Ip top mask).map λ(v:Nat)=>(v:Int):=h4
 refine⟨h3,?_,λv hv=>?_⟩
 ·refine Ex (Int.eq_ofNat_of_zero_le (show 0<=mask by exact AA [] [_] [.L Ah Ac] (.L Ak Ac) rfl h1)) λm mN=>?_;subst mN
  have h2':m<2^(top+1):=by exact_mod_cast h2
  have h64:(2:Nat)^(top+1)<=64:=Nat.pow_le_pow_right (n:=2) (by decide) (show top+1<=6 by exact AA [_] [] [.l Aa A3] (.l (.p Aa Ae) (.n 6)) rfl ht)
  have:=Ux top (by exact AA [_] [] [.l Aa A3] (.u Aa (.n 6)) rfl ht) m (by exact AA [_,_] [] [.u Aa Ab,.l Ab (.n 64)] (.u Aa (.n 64)) rfl h2' h64) (by exact AA [_] [] [.L Ah Ag] (.l Ae Aa) rfl h1) h2'
  refine BG (List.any_eq_true.mp this) λv hv hb=>?_
  intro e
  rw[e] at h4
  have hm:v∈Ip top (m:Int):=List.mem_filter.mpr ⟨hv,by
   have:=of_decide_eq_true hb
   rw[decide_eq_true_iff]
   exact_mod_cast this⟩
  rw[List.map_eq_nil_iff.mp h4.symm] at hm
  cases hm
 ·rw[h4] at hv
  refine BG (List.mem_map.mp hv) λw hw mN=>?_;subst mN
  have:=List.mem_range.mp (List.mem_filter.mp hw).1
  exact⟨AA [_] [] [] (.L Ak Ag) rfl,AA [_,_] [] [.u Aa (.p Ab Ae),.l Ab A3] (.L Ag (.n 5)) rfl this ht⟩
theorem Cm.more{st:St}(h:Cm sc st)(hy:y∈sc):Cm (sc++[y]) st :=
 ⟨h.same,h.trail,h.marks,h.failed,h.ok,λz hz=>by
  rcases List.mem_append.mp hz with hz|hz
  ·exact h.lt z hz
  ·rw[List.mem_singleton.mp hz];exact h.lt y hy,λz hz=>List.mem_append_left _ (h.all z hz),by rw[List.length_append];have:=h.len;exact AA [_,_,_] [] [.l Aa Ab] (.l Aa (.p Ab Af)) rfl this⟩
theorem Cm.new{st:St}(h:Cm sc st){d:Bb}(hd:MS d):Cm (sc++[st.doms.length]) {st with doms:=st.doms++[d],firsts:=st.firsts++[d]}:=by
 refine⟨by show st.firsts++[d]=st.doms++[d];rw[h.same],h.trail,h.marks,h.failed,λe he=>?_,λz hz=>?_,λz hz=>?_,?_⟩
 ·rcases List.mem_append.mp he with he|he
  ·exact h.ok e he
  ·rw[List.mem_singleton.mp he];exact hd
 ·show z<(st.doms++[d]).length
  rw[List.length_append,List.length_singleton]
  rcases List.mem_append.mp hz with hz|hz
  ·have:=h.lt z hz;exact AA [_,_] [] [.u Aa Ab] (.u Aa (.p Ab Ae)) rfl this
  ·rw[List.mem_singleton.mp hz];exact AA [_] [] [] (.u Aa (.p Aa Ae)) rfl
 ·have hz:z<(st.doms++[d]).length:=hz
  rw[List.length_append,List.length_singleton] at hz
  by_cases c:z<st.doms.length
  ·exact List.mem_append_left _ (h.all z c)
  ·rw[show z=st.doms.length by exact Nat.le_antisymm (AA [_,_] [] [.u Aa (.p Ab Ae)] (.l Aa Ab) rfl hz) (AA [_,_] [] [.l Ab Aa] (.l Ab Aa) rfl (Nat.le_of_not_lt c))];simp
 ·show(st.doms++[d]).length<=_
  rw[List.length_append,List.length_append]
  have:=h.len
  simp;exact AA [_,_] [] [.l Aa Ab] (.l Aa Ab) rfl this
noncomputable def Ss.tail:Ss->Ss
 |.cons _ r=>r
 |.nil=>.nil
section
variable {B:Base} {cS cC cI:Addr} {n nv:Nat} {H H' H0c:KH} {K:D->KH->Prop} {p:Dn} {st:St} {C x dx:Addr} {mP:List (Str×D)}
noncomputable abbrev XV(a0 a1 a2 a3 a4 a5 a6 a7 a8 a9 a10 a11 a12 a13:Option D):Bw:=[a0,a1,a2,a3,a4,a5,a6,a7,a8,a9,a10,a11,a12,a13,none,none,none,none,none,none,none,none,none,none,none]
theorem aG:(sc.map λ(z:Nat)=>(z:Int)).idxOf (y:Int)=sc.idxOf y:=by
 induction sc with
 |nil=>rfl
 |cons z sc ih =>
  rw[List.map_cons,List.idxOf_cons,List.idxOf_cons,ih]
  by_cases e:z=y
  ·subst e;simp
  ·have h1:((z:Int)==(y:Int))=false:=by rw[beq_eq_false_iff_ne];exact λmL=>(Nat.lt_or_gt_of_ne e).elim (λmH=>AA [_,_] [] [.u Aa Ab,.R Ag Al] .f rfl mH mL) (λmH=>AA [_,_] [] [.u Ab Aa,.E Ag Al] .f rfl mH mL)
   have h2:(z==y)=false:=by simpa using e
   rw[h1,h2]
theorem Uy(sc:List Nat):sc.map AE=AC (sc.map λ(z:Nat)=>(z:Int)):=by unfold AC;rw[List.map_map];rfl
theorem W7(P:AS B cS cC cI){la lb:Addr}{ls:BK}(h1:∀y∈sc,y<ls.length)(hz:sc.length<100){a0 a1 a2 a3 a4 a5 a7 a8 a9:Option D}(hab:la≠lb)(hH:H lb=none)(hl:H la=some (.list (sc.map AE))) :
  ∀(rows acc:BK) (a12 a13:Option D) (KK:KS),(∀r∈rows,sc.length<=r.length)->acc.length+rows.length<1000 ->
  (∀a12 a13,KK .next (XV a0 a1 a2 a3 a4 a5 (some (.ref la)) a7 a8 a9 (some (.lst (ls.map Cl))) (some (.ref lb)) a12 a13) (H.set lb (.list ((acc++rows.filter (C4 sc ls)).map AM)))) ->
  Bm (AQ B (n+2) ET) (.v 12) (rows.map AM) (XV a0 a1 a2 a3 a4 a5 (some (.ref la)) a7 a8 a9 (some (.lst (ls.map Cl))) (some (.ref lb)) a12 a13) (H.set lb (.list (acc.map AM))) KK
 |[],acc,a12,a13,KK,_,_,hk=>by
  have:=hk a12 a13
  rw[List.filter_nil,List.append_nil] at this
  exact this
 |r::rows,acc,a12,a13,KK,hr,hlen,hk=>by
  rw[List.length_cons] at hlen
  have hrl:=hr r (List.mem_cons_self ..)
  have hlc:(H.set lb (.list (acc.map AM))) la=some (.list (sc.map AE)):=(KH.set_ne _ _ hab).trans hl
  refine B1 (AZ hlc) ?_
  rw[List.length_map]
  refine⟨by unfold BA;exact⟨AA [_] [] [] (.L (.g Ap) Ag) rfl,AA [_] [] [.u Aa Av] (.L Ag Ap) rfl hz⟩,?_⟩
  rw[Bs]
  intro a ha
  have hla:la≠a:=by rintro rfl;rw[hlc] at ha;exact sN ha
  refine HJ (xs:=List.range sc.length) (λ(i:Nat)=>D.int i) (λk=>!decide (r.getD k 0=r.getD (sc.idxOf (sc.getD k 0)) 0)) ha (by simp;exact AA [_] [] [.u Aa Av] (.u Aa Ao) rfl hz) (λk hk mO K' h=>?_) λe1 e2=>⟨e1,?_⟩
  ·have hk:=List.mem_range.mp hk
   have hld:((H.set lb (.list (acc.map AM))).set a (.list mO)) la=some (.list (sc.map AE)):=(KH.set_ne _ _ hla).trans hlc
   have hsk:=getD_some (d:=0) hk
   have hm:sc.getD k 0∈sc:=List.mem_of_getElem? hsk
   refine AP (d:=.tup (AC r)) (e:=.int (r.getD k 0)) rfl (Cu (getD_some (by exact AA [_,_,_] [] [.u Aa Af,.l Af Ab] (.u Aa Ab) rfl hk hrl))) ?_
   refine⟨⟨true,_,AZ hld⟩,?_⟩
   refine Cx (AZ hld) hsk ?_
   show match BC ((H.set lb (.list (acc.map AM))).set a (.list mO)) (.ref la),D.int (sc.getD k 0) with|some (_,ds),.int i=>∃ns,ds=AC ns/\i∈ns/\_|_,_=>False
   rw[AZ hld]
   refine⟨_,Uy sc,List.mem_map.mpr ⟨_,hm,rfl⟩,?_⟩
   rw[aG]
   have hix:sc.idxOf (sc.getD k 0)<sc.length:=List.idxOf_lt_length_of_mem hm
   refine AP (d:=.tup (AC r)) (e:=.int (r.getD (sc.idxOf (sc.getD k 0)) 0)) rfl (Cu (getD_some (by exact AA [_,_,_] [] [.u Aa Af,.l Af Ab] (.u Aa Ab) rfl hix hrl))) ?_
   refine MA ?_
   rw[decide_not]
   exact Fc h
  ·rw[if_pos rfl,←e2]
   have e3:∀ys:List Nat,Bz 5 (ys.map λ(i:Nat)=>D.int i)=true:=λys=>Fu 5 ys
   refine H9 (a:=.lst _) (b:=.lst []) (e3 _) rfl ?_
   rw[DN]
   have ec:decide (((List.range sc.length).filter λk=>!decide (r.getD k 0=r.getD (sc.idxOf (sc.getD k 0)) 0)).isEmpty=true)=K7 sc r:=by
    refine DY ?_
    rw[decide_eq_true_iff,List.isEmpty_iff,List.filter_eq_nil_iff]
    unfold K7
    rw[List.all_eq_true]
    exact forall_congr' λk=>forall_congr' λ_=>by simp
   rw[ec]
   have skip:C4 sc ls r=false->Bm (AQ B (n+2) ET) (.v 12) (rows.map AM) (XV a0 a1 a2 a3 a4 a5 (some (.ref la)) a7 a8 a9 (some (.lst (ls.map Cl))) (some (.ref lb)) (some (AM r)) (some (.lst (((List.range sc.length).filter λk=>!decide (r.getD k 0=r.getD (sc.idxOf (sc.getD k 0)) 0)).map λ(i:Nat)=>D.int i)))) (H.set lb (.list (acc.map AM))) KK:=λe=>by
    rw[List.filter_cons,e] at hk
    exact W7 P h1 hz hab hH hl rows acc _ _ KK (λs hs=>hr s (List.mem_cons_of_mem _ hs)) (by exact AA [_,_] [] [.u (.p Aa (.p Ab Ae)) Aj] (.u (.p Aa Ab) Aj) rfl hlen) hk
   refine J4 (λc=>?_) λc=>?_
   ·show AH B (n+2) "_law_within" [.tup (AC r),.ref la,.lst (ls.map Cl)] _ _
    refine K4 P (AZ hlc) rfl hrl h1 (by exact AA [_] [] [.u Aa Av] (.u Aa Aj) rfl hz) ?_
    refine J4 (λc2=>?_) λc2=>?_
    ·refine⟨⟨_,KH.set_self ..⟩,?_⟩
     refine Ca (KH.set_self ..) (by rw[List.length_map];exact AA [_,_] [] [.u (.p Aa (.p Ab Ae)) Aj] (.u Aa Ao) rfl hlen) ?_
     rw[KH.set_set]
     have ef:C4 sc ls r=true:=by unfold C4;rw[c,c2];rfl
     rw[List.filter_cons,ef] at hk
     have:=W7 P h1 hz (a0:=a0) (a1:=a1) (a2:=a2) (a3:=a3) (a4:=a4) (a5:=a5) (a7:=a7) (a8:=a8) (a9:=a9) hab hH hl rows (acc++[r]) (some (AM r)) (some (.lst (((List.range sc.length).filter λk=>!decide (r.getD k 0=r.getD (sc.idxOf (sc.getD k 0)) 0)).map λ(i:Nat)=>D.int i))) KK (λs hs=>hr s (List.mem_cons_of_mem _ hs)) (by rw[List.length_append,List.length_singleton];exact AA [_,_] [] [.u (.p Aa (.p Ab Ae)) Aj] (.u (.p (.p Aa Ae) Ab) Aj) rfl hlen) (λa12 a13=>by
      have:=hk a12 a13
      rw[List.append_assoc];exact this)
     rw[List.map_append] at this
     exact this
    ·exact skip (by unfold C4;rw[c2,Bool.and_false])
   ·exact skip (by unfold C4;rw[c,Bool.false_and])
theorem CH.off(T:CH t m H)(O:EI p H H')(h:t∉p.all):CH t m H':=T.ext (O t h)
theorem CH.ne(T:CH t m H):H t≠none:=let ⟨_,_,e,_⟩:=T.at';by rw[e];simp
theorem CH.set{A:AO}(T:CH t m H)(h:H a=none):CH t m (H.set a A):=T.ext (KH.set_ne _ _ λe=>T.ne (e▸h))
theorem CH.Ext(T:CH t m H)(E:Ext H H'):CH t m H':=let ⟨c,s,e,r⟩:=T.at';⟨c,s,E _ _ e,r⟩
theorem EV(P:AS B cS cC cI)(T:CH t m H)(hm:m<=1000)(h1:0<many)(h2:many<1000000)(k:∀r H',0<=r->r<many->CH t (m+1) H'->(∀b,b≠t->H' b=H b)->K (.int r) H'):AH B (n+1) "_law_draw" [.ref t,.int many] H K :=
 di P T hm h1 h2 λr A a b T'=>k r _ a b T' λc hc=>KH.set_ne _ _ hc
theorem AB.but(S:AB C p st H)(h:t∉p.all)(e:∀b,b≠t->H' b=H b):AB C p st H':=S.agree λb hb=>e b λq=>h (q▸hb)
theorem Sq(P:AS B cS cC cI){ls:Addr}{top:Nat}(ht:top<=5)(htp:t∉p.all)(hlp:ls∉p.all)(htl:ls≠t){a1 a3 a4 a9 a10 a11 a12 a13:Option D}:∀(j m:Nat) (sc:List Nat) (st:St) (H:KH) (a7 a8:Option D) (KK:KS),m+2*j<=900->sc.length+j<=20->Cm sc st ->
  AB cS p st H->CH t m H->H ls=some (.list (sc.map AE)) ->
  (∀m sc' st' H' a7 a8,m<=900->sc'.length=sc.length+j->Cm sc' st'->AB cS p st' H'->CH t m H'->H' ls=some (.list (sc'.map AE))->KK .next (XV (some (.ref t)) a1 (some (.ref p.a)) a3 a4 (some (.int top)) (some (.ref ls)) a7 a8 a9 a10 a11 a12 a13) H') ->
  Bm (AQ B (n+2) CT) (.v 7) ((List.range' sc.length j).map λ(i:Nat)=>D.int i) (XV (some (.ref t)) a1 (some (.ref p.a)) a3 a4 (some (.int top)) (some (.ref ls)) a7 a8 a9 a10 a11 a12 a13) H KK
 |0,m,sc,st,H,a7,a8,KK,hm,hsc,V,S,T,hl,hk=>hk m sc st H a7 a8 (by exact AA [_] [] [.l (.p Aa (.t 2 Am)) A1] (.l Aa A1) rfl hm) rfl V S T hl
 |j+1,m,sc,st,H,a7,a8,KK,hm,hsc,V,S,T,hl,hk=>by
  have p64:(2:Int)^((top:Int)+1).toNat=2^(top+1):=by congr 1
  have pz:(2:Int)^(top+1)<=64:=by
   have:(2:Nat)^(top+1)<=64:=Nat.pow_le_pow_right (n:=2) (by decide) (show top+1<=6 by exact AA [_] [] [.l Aa A3] (.l (.p Aa Ae) (.n 6)) rfl ht)
   exact_mod_cast this
  have pp:(1:Int)<2^(top+1):=by
   have:1<(2:Nat)^(top+1):=Nat.one_lt_two_pow (by exact λmL=>AA [_] [] [.e (.p Aa Ae) Am] .f rfl mL)
   exact_mod_cast this
  rw[List.range'_succ]
  refine⟨⟨by exact AA [] [_] [.L Ak Ac] (.L Ak (.p Ac Ah)) rfl (Int.natCast_nonneg _),by exact AA [_] [] [.l Aa A3] (.L (.p Ag Ah) A7) rfl ht,by decide⟩,?_⟩
  show AH B (n+2) "_law_draw" [.ref t,.int (2^((top:Int)+1).toNat-1)] H _
  rw[p64]
  refine EV P T (by exact AA [_,_] [] [.l (.p Aa (.t 2 (.p Ab Ae))) A1] (.l Aa Aj) rfl hm) (by exact AA [] [_] [.U Ah Ac] (.U Ak (.s Ac Ah)) rfl pp) (by exact AA [] [_] [.L Ac (.n 64)] (.U (.s Ac Ah) Ap) rfl pz) λr H0a r0 r1 T0a e0a=>?_
  have S0b:=S.but htp e0a
  have hlc:=(e0a ls htl).trans hl
  have D0a:MS (Ts top (1+r)):=W6 ht (by exact AA [] [_] [.L Ak Ac] (.L Ah (.p Ah Ac)) rfl r0) (by exact AA [] [_,_] [.U Ac (.s Ad Ah)] (.U (.p Ah Ac) Ad) rfl r1)
  have newv:∀(m':Nat) (H0b:KH),m'<=m+2->AB cS p st H0b->CH t m' H0b->H0b ls=some (.list (sc.map AE)) ->
    AQ B (n+2) (.cons (.expr (.append (.var 6) (.meth (.var 2) "new_var" (.cons (.call "from_values" (.cons (.comp true [none,none,some 8] (.v 1) (.range1 (.bin .Add (.var 5) (.int 1))) (.cmp (.bin .Mod (.bin .FloorDiv (.var 2) (.bin .Pow (.int 2) (.var 1))) (.int 2)) .Eq (.int 1)) (.var 1)) .nil)) .nil)))) .nil)
     (XV (some (.ref t)) a1 (some (.ref p.a)) a3 a4 (some (.int top)) (some (.ref ls)) (some (.int sc.length)) (some (.int (1+r))) a9 a10 a11 a12 a13) H0b
     (λf ρ H=>match f with
      |.next=>AQ B (n+2) .nil ρ H λf ρ2 H0b=>match f with
       |.next=>Bm (AQ B (n+2) CT) (.v 7) ((List.range' (sc.length+1) j).map λ(i:Nat)=>D.int i) ρ2 H0b KK
       |.cont=>Bm (AQ B (n+2) CT) (.v 7) ((List.range' (sc.length+1) j).map λ(i:Nat)=>D.int i) ρ2 H0b KK
       |.brk=>KK .next ρ2 H0b
       |.ret d=>KK (.ret d) ρ2 H0b
      |f=>(λf ρ2 H0b=>match f with
       |.next=>Bm (AQ B (n+2) CT) (.v 7) ((List.range' (sc.length+1) j).map λ(i:Nat)=>D.int i) ρ2 H0b KK
       |.cont=>Bm (AQ B (n+2) CT) (.v 7) ((List.range' (sc.length+1) j).map λ(i:Nat)=>D.int i) ρ2 H0b KK
       |.brk=>KK .next ρ2 H0b
       |.ret d=>KK (.ret d) ρ2 H0b) f ρ H):=by
   intro m' H0b hm' S0a T0b hld
   refine⟨⟨_,hld⟩,?_⟩
   refine Bf S0a rfl P.ke ?_
   refine⟨by unfold BA;exact⟨AA [_] [] [] (.L (.g Ap) (.p Ag Ah)) rfl,AA [_] [] [.l Aa A3] (.L (.p Ag Ah) Ap) rfl ht⟩,?_⟩
   rw[show(top:Int)+1=((top+1:Nat):Int) by exact Int.le_antisymm (AA [_] [] [] (.L (.p Ag Ah) (.c (.p Aa Ae))) rfl) (AA [_] [] [] (.L (.c (.p Aa Ae)) (.p Ag Ah)) rfl),Bs]
   intro a ha
   refine HJ (xs:=List.range (top+1)) (λ(i:Nat)=>D.int i) (λv=>decide ((1+r)/2^v%2=1)) ha (by simp;exact AA [_] [] [.l Aa A3] (.u (.p Aa Ae) Ao) rfl ht) (λv hv acc K' h=>?_) λe1 e2=>⟨e1,?_⟩
   ·have hv:=List.mem_range.mp hv
    have q1:(2:Int)^((v:Int)).toNat=2^v:=by congr 1
    have q0:(0:Int)<2^v:=Int.pow_pos (by decide)
    have q2:(2:Int)^v<=64:=by
     have:(2:Nat)^v<=64:=Nat.pow_le_pow_right (n:=2) (by decide) (show v<=6 by exact AA [_,_] [] [.u Aa (.p Ab Ae),.l Ab A3] (.l Aa (.n 6)) rfl hv ht)
     exact_mod_cast this
    refine⟨⟨by exact AA [] [_] [.L Ak Ac] (.L Ak Ac) rfl (Int.natCast_nonneg _),by exact AA [_,_] [] [.u Aa (.p Ab Ae),.l Ab A3] (.L Ag A7) rfl hv ht,by decide⟩,?_⟩
    refine⟨by rw[q1];exact⟨AA [] [_] [.U Ak Ac] (.U Ak Ac) rfl q0,AA [] [_] [.L Ac (.n 64)] (.U Ac Ap) rfl q2⟩,?_⟩
    refine⟨⟨by decide,by decide⟩,?_⟩
    refine DI ?_
    rw[q1]
    exact Fc h
   ·rw[if_pos rfl,←e2]
    have ed:((List.range (top+1)).filter λv=>decide ((1+r)/2^v%2=1)).map (λ(i:Nat)=>D.int i)=AC ((Ip top (1+r)).map λ(v:Nat)=>(v:Int)):=by unfold AC Ip;rw[List.map_map];rfl
    rw[ed]
    show AH B (n+2) "from_values" [.lst (AC ((Ip top (1+r)).map λ(v:Nat)=>(v:Int)))] H0b _
    refine Oh P ((MI top (1+r)).imp λh=>Int.le_of_lt h) (by
     rw[List.length_map]
     refine Nat.lt_of_le_of_lt (List.length_filter_le ..) ?_
     rw[List.length_range];exact AA [_] [] [.l Aa A3] (.u (.p Aa Ae) (.n 64)) rfl ht) ?_
    show AJ B (n+2) cS "new_var" [.ref p.a,AG (Ts top (1+r))] H0b _
    have vl:=V.len
    refine Un P S0a D0a.ne (by exact AA [_,_,_] [] [.l Aa Af,.l (.p Af (.p Ab Ae)) Aw] (.u Aa Aj) rfl vl hsc) (by rw[V.same];exact AA [_,_,_] [] [.l Aa Af,.l (.p Af (.p Ab Ae)) Aw] (.u Aa Aj) rfl vl hsc) λH0d S0c O0c=>?_
    have hl3:=(O0c ls hlp).trans hld
    refine Ca hl3 (by rw[List.length_map];exact AA [_,_] [] [.l (.p Aa (.p Ab Ae)) Aw] (.u Aa Ao) rfl hsc) ?_
    have S0d:AB cS p _ (H0d.set ls (.list (sc.map AE++[.int st.doms.length]))):=S0c.set hlp
    have T0c:CH t m' (H0d.set ls (.list (sc.map AE++[.int st.doms.length]))):=(T0b.off O0c htp).ext (KH.set_ne _ _ (Ne.symm htl))
    have hl4:(H0d.set ls (.list (sc.map AE++[.int st.doms.length]))) ls=some (.list ((sc++[st.doms.length]).map AE)):=by rw[KH.set_self,List.map_append];rfl
    have:=Sq P ht htp hlp htl j m' (sc++[st.doms.length]) _ _ (some (.int sc.length)) (some (.int (1+r))) KK (by exact AA [_,_,_] [] [.l Aa (.p Af Ar),.l (.p Af (.t 2 (.p Ab Ae))) A1] (.l (.p Aa (.t 2 Ab)) A1) rfl hm' hm) (by rw[List.length_append,List.length_singleton];exact AA [_,_] [] [.l (.p Aa (.p Ab Ae)) Aw] (.l (.p (.p Aa Ae) Ab) Aw) rfl hsc) (V.new D0a) S0d T0c hl4 (λm sc' st' H' a7 a8 q1 q2=>hk m sc' st' H' a7 a8 q1 (by rw[q2,List.length_append,List.length_singleton];exact Nat.le_antisymm (AA [_,_] [] [] (.l (.p (.p Aa Ae) Ab) (.p Aa (.p Ab Ae))) rfl) (AA [_,_] [] [] (.l (.p Aa (.p Ab Ae)) (.p (.p Aa Ae) Ab)) rfl)))
    rw[List.length_append,List.length_singleton] at this
    exact this
  refine Uj ?_
  refine BB (λc=>?_) λc=>newv (m+1) H0a (by exact AA [_] [] [] (.l (.p Aa Ae) (.p Aa Ar)) rfl) S0b T0a hlc
  show AH B (n+2) "_law_draw" [.ref t,.int 9] H0a _
  refine EV P T0a (by exact AA [_,_] [] [.l (.p Aa (.t 2 (.p Ab Ae))) A1] (.l (.p Aa Ae) Aj) rfl hm) (by decide) (by decide) λre H0b _ _ T0b e0d=>?_
  have S0a:=S0b.but htp e0d
  have hld:=(e0d ls htl).trans hlc
  refine DI ?_
  refine BB (λc2=>?_) λc2=>newv (m+2) H0b (by exact AA [_] [] [] (.l (.p Aa Ar) (.p Aa Ar)) rfl) S0a T0b hld
  have h0:sc[0]? = some (sc.getD 0 0):=getD_some (by exact AA [_] [] [.U Ak Ag] (.u Am Aa) rfl c)
  refine⟨⟨_,hld⟩,?_⟩
  refine Cx (i:=0) (AZ hld) h0 ?_
  refine Ca hld (by rw[List.length_map];exact AA [_,_] [] [.l (.p Aa (.p Ab Ae)) Aw] (.u Aa Ao) rfl hsc) ?_
  have S0d:AB cS p st (H0b.set ls (.list (sc.map AE++[AE (sc.getD 0 0)]))):=S0a.set hlp
  have T0c:CH t (m+2) (H0b.set ls (.list (sc.map AE++[AE (sc.getD 0 0)]))):=T0b.ext (KH.set_ne _ _ (Ne.symm htl))
  have hl4:(H0b.set ls (.list (sc.map AE++[AE (sc.getD 0 0)]))) ls=some (.list ((sc++[sc.getD 0 0]).map AE)):=by rw[KH.set_self,List.map_append];rfl
  have:=Sq P ht htp hlp htl j (m+2) (sc++[sc.getD 0 0]) st _ (some (.int sc.length)) (some (.int (1+r))) KK (by exact AA [_,_] [] [.l (.p Aa (.t 2 (.p Ab Ae))) A1] (.l (.p (.p Aa Ar) (.t 2 Ab)) A1) rfl hm) (by rw[List.length_append,List.length_singleton];exact AA [_,_] [] [.l (.p Aa (.p Ab Ae)) Aw] (.l (.p (.p Aa Ae) Ab) Aw) rfl hsc) (V.more (List.mem_of_getElem? h0)) S0d T0c hl4 (λm sc' st' H' a7 a8 q1 q2=>hk m sc' st' H' a7 a8 q1 (by rw[q2,List.length_append,List.length_singleton];exact Nat.le_antisymm (AA [_,_] [] [] (.l (.p (.p Aa Ae) Ab) (.p Aa (.p Ab Ae))) rfl) (AA [_,_] [] [] (.l (.p Aa (.p Ab Ae)) (.p (.p Aa Ae) Ab)) rfl)))
  rw[List.length_append,List.length_singleton] at this
  exact this
end
section
variable {B:Base} {cS cC cI:Addr} {n nv:Nat} {H H' H0c:KH} {K:D->KH->Prop} {p:Dn} {st:St} {C x dx:Addr} {mP:List (Str×D)}
theorem Cm.inv(V:Cm sc st)(h:sc.length<=20):B3 st:=by
 refine⟨by have:=V.len;exact AA [_,_] [] [.l Aa Ab,.l Ab Aw] (.l Aa A0) rfl this h,λd hd=>(V.ok d hd).v,λd hd=>(V.ok d hd).ne,?_⟩
 rw[V.trail]
 have:∀ds:List Bb,(∀d∈ds,MS d)->Ur ds<=6*ds.length:=by
  intro ds
  induction ds with
  |nil=>intro _;simp[Ur]
  |cons d ds ih =>
   intro h
   have a:=ih λe he=>h e (List.mem_cons_of_mem _ he)
   have o:=h d (List.mem_cons_self ..)
   have b:=JF (xs:=vals d) (ys:=CD 0 6) ((EE o.v).imp λh=>Int.ne_of_lt h) λv hv=>by rw[Bo];have:=o.lo v hv;exact⟨AA [] [_] [.L Ak Ac] (.L Ak Ac) rfl this.1,AA [] [_] [.L Ac (.n 5)] (.U Ac (.n 6)) rfl this.2⟩
   rw[Cb] at b
   unfold Ur at a ⊢
   rw[List.map_cons,List.sum_cons,List.length_cons]
   omega
 have t1:=this st.doms V.ok
 have:=V.len
 simp only[List.length_nil]
 exact AA [_,_,_] [] [.l Aa (.t 6 Af),.m 6 (.l Af Ab),.m 6 (.l Ab Aw)] (.l (.p Am Aa) Aj) rfl t1 this h
theorem MS.small{d:Bb}(h:MS d):MG d:=λv hv=>by have:=h.lo v hv;exact⟨AA [] [_] [.L Ak Ac] (.L (.g A7) Ac) rfl this.1,AA [] [_] [.L Ac (.n 5)] (.L Ac A7) rfl this.2⟩
theorem Tt(P:AS B cS cC cI){ls:Addr}{way:Int}{zs:List Int}{rows:BK}{a4 a5 a7 a8 a12 a13:Option D}(S:AB cS p st H)(V:Cm sc st)(T:CH t m H)(hl:H ls=some (.list (sc.map AE)))(hlp:ls∉p.all)(hsc:sc.length<=20)(htl:ls≠t)
  (hans:∀{H0a:KH} {K0a:D->KH->Prop},K0a (.lst (rows.map AM)) H0a->AH B (n+5) "_law_answers" [.int way,.tup (AC zs)] H0a K0a) (hr:∀r∈rows,sc.length<=r.length) (hrl:rows.length<900)
  (k:∀H',AB cS p st H'->CH t m H'->(∀b,b≠ls->H b≠none->H' b=H b)->K (.tup [.int way,.tup (AC zs),.ref p.a,.ref x,.lst (sc.map AE),.lst ((rows.filter (C4 sc (AN st))).map AM)]) H') :
  AQ B (n+5) Ch.tail.tail.tail.tail.tail (XV (some (.ref t)) (some (.int way)) (some (.ref p.a)) (some (.tup (AC zs))) a4 a5 (some (.ref ls)) a7 a8 (some (.ref x)) none none a12 a13) H (BI K):=by
 have I:=V.inv hsc
 have hn:=I.n
 refine Bf S rfl P.jr ?_
 show AJ B (n+5) cS "size" [.ref p.a] H _
 refine Ig P S ?_
 refine⟨by unfold BA;exact⟨AA [_] [] [] (.L (.g Ap) Ag) rfl,AA [_] [] [.l Aa A0] (.L Ag Ap) rfl hn⟩,?_⟩
 rw[Bs]
 intro la hla
 refine BX (xs:=List.range st.doms.length) (λ(i:Nat)=>D.int i) (λi=>some (Cl (vals (st.dom i)))) hla (by simp;exact AA [_] [] [.l Aa A0] (.u Aa Ao) rfl hn) (λi hi acc K' h=>?_) λe1 e2=>⟨e1,?_⟩
 ·have hi:=List.mem_range.mp hi
  have S0a:AB cS p st (H.set la (.list acc)):=S.set (S.fresh hla)
  refine Bf S0a rfl P.j0 ?_
  show AJ B (n+5) cS "dom" [.ref p.a,.int i] _ _
  refine RD P S0a hi ?_
  show AH B (n+5) "values" [AG (st.dom i)] _ _
  have ht:=El (CY hi)
  have hz:=I.z
  exact Id P (by exact AA [_,_,_] [] [.l Aa Ab,.l (.p Af Ab) Aj] (.u Aa Ao) rfl ht hz) ((V.ok _ (CY hi)).small.ok (I.valid hi)) h
 have el:(List.range st.doms.length).filterMap (λi=>some (Cl (vals (st.dom i))))=(AN st).map Cl:=by
  rw[List.filterMap_eq_map']
  refine List.ext_getElem? λi=>?_
  by_cases hi:i<st.doms.length
  ·rw[List.getElem?_map,List.getElem?_map,Cq hi,List.getElem?_range hi];rfl
  ·rw[List.getElem?_eq_none (by simp;exact AA [_,_] [] [.l Aa Ab] (.l Aa Ab) rfl (Nat.le_of_not_lt hi)),List.getElem?_eq_none (by rw[List.length_map,D2];exact AA [_,_] [] [.l Aa Ab] (.l Aa Ab) rfl (Nat.le_of_not_lt hi))]
 rw[if_pos rfl,←e2,el]
 intro lb hlb
 have hlsb:ls≠lb:=by rintro rfl;rw[hl] at hlb;exact sN hlb
 show AH B (n+5) "_law_answers" [.int way,.tup (AC zs)] (H.set lb (.list [])) _
 refine hans ?_
 refine W7 (n:=n+3) P (λy hy=>by rw[D2];exact V.lt y hy) (by exact AA [_] [] [.l Aa Aw] (.u Aa Av) rfl hsc) hlsb hlb hl rows [] a12 a13 _ hr (by simp;exact AA [_] [] [.u Aa A1] (.u Aa Aj) rfl hrl) λa12 a13=>?_
 rw[List.nil_append]
 refine Gk ((KH.set_ne _ _ hlsb).trans hl) ?_
 refine Gk ((KH.erase_ne _ (Ne.symm hlsb)).trans (KH.set_self ..)) ?_
 refine k _ ((((S.set (S.fresh hlb)).erase hlp)).erase (S.fresh hlb)) ?_ λb hb hn=>?_
 ·refine T.ext ?_
  have h1:t≠lb:=λe=>T.ne (e▸hlb)
  rw[KH.erase_ne _ h1,KH.erase_ne _ (Ne.symm htl),KH.set_ne _ _ h1]
 ·have h1:b≠lb:=λe=>hn (e▸hlb)
  rw[KH.erase_ne _ h1,KH.erase_ne _ hb,KH.set_ne _ _ h1]
theorem Tu(P:AS B cS cC cI){way:Int}{zs:List Int}{N top:Nat}{a4:Option D}(S:AB cS p jX H)(T:CH t m H)(htp:t∉p.all)(hm:m<=100)(hzs:zs≠[])(hsum:zs.sum=N)(hN:N<=20)(hmax:∀v,v∈zs->(∀a∈zs,a<=v)->v+1=(top:Int))(ht:top<=5)
  (k:∀m sc st H' ls a7 a8,m<=900->sc.length=N->Cm sc st->AB cS p st H'->CH t m H'->H' ls=some (.list (sc.map AE))->ls∉p.all->ls≠t ->
   AQ B (n+5) Ch.tail.tail.tail.tail (XV (some (.ref t)) (some (.int way)) (some (.ref p.a)) (some (.tup (AC zs))) a4 (some (.int top)) (some (.ref ls)) a7 a8 none none none none none) H' (BI K)) :
  AQ B (n+5) Ch.tail.tail (XV (some (.ref t)) (some (.int way)) (some (.ref p.a)) (some (.tup (AC zs))) a4 none none none none none none none none none) H (BI K):=by
 refine⟨zs,rfl,hzs,λv h1 h2=>?_⟩
 have ev:=hmax v h1 h2
 intro ls hls
 have hlp:=S.fresh hls
 have htl:ls≠t:=λe=>T.ne (e▸hls)
 refine⟨zs,rfl,?_⟩
 rw[hsum]
 refine⟨by unfold BA;exact⟨AA [_] [] [] (.L (.g Ap) Ag) rfl,AA [_] [] [.l Aa Aw] (.L Ag Ap) rfl hN⟩,?_⟩
 rw[Bs,ev,List.range_eq_range']
 refine Sq (n:=n+3) P ht htp hlp htl N m [] jX _ none none _ (by exact AA [_,_] [] [.l Aa Av,.m 2 (.l Ab Aw)] (.l (.p Aa (.t 2 Ab)) A1) rfl hm hN) (by simp;exact AA [_] [] [.l Aa Aw] (.l Aa Aw) rfl hN) ⟨rfl,rfl,rfl,rfl,λd h=>(List.not_mem_nil h).elim,λy h=>(List.not_mem_nil h).elim,λy h=>(Nat.not_lt_zero _ h).elim,Nat.le_refl _⟩ (S.set hlp) (T.set hls) (KH.set_self ..) λm sc st H' a7 a8 h1 h2 V S' T' hl'=>?_
 exact k m sc st H' ls a7 a8 h1 (by simpa using h2) V S' T' hl' hlp htl
theorem Eo{q:Nat}(hq:q<=4):∀r∈Bk q,r.length=q:=λr h=>Ev q r (List.mem_filter.mp h).1
theorem Sr(q:Nat)(r:List Int):(GJ q r).length=q:=by unfold GJ;rw[List.length_map,Cb];exact M4 ((Int.le_total 0 _).elim (λmH=>AA [_,_] [] [.E Ag (.s (.p Al Ah) Ah)] (.l Aa Ab) rfl (Int.toNat_of_nonneg mH)) (λmH=>AA [_,_] [] [.e Aa Am] (.l Aa Ab) rfl (Int.toNat_of_nonpos mH))) (AA [_,_] [] [.L (.s (.p Al Ah) Ah) Ag] (.l Ab Aa) rfl (Int.self_le_toNat _))
theorem Fv{q:Nat}:∀r∈BM q m,r.length=q+m:=λr h=>by
 unfold BM at h
 split at h
 ·rename_i e
  refine BG (List.mem_map.mp h) λr' h1 mN=>?_;subst mN
  rw[List.length_append,Ev q r' h1,Sr,e]
 ·cases h
theorem PX:∀q∈[1,2,3],∀r∈Cf q q,∀k∈CD 1 ((q:Int)+1),k∈r:=by decide +kernel
theorem dj(P:AS B cS cC cI)(T:CH t 0 H)
  (kC:∀(q:Nat) p x dx sc st H' m,2<=q->q<=4->sc.length=q->Cm sc st->AB cS p st H'->BJ cC x dx (Cj sc) H'->x∉p.all->dx∉p.all->t∉p.all->CH t m H'->m<=900->K (.tup [.int 0,.tup (AC [(q:Int)]),.ref p.a,.ref x,.lst (sc.map AE),.lst (((Bk q).filter (C4 sc (AN st))).map AM)]) H')
  (kI:∀(q m:Nat) p x dx sc st H' mt,1<=q->q<=3->(m=q\/m+q=4)->1<=m->m<=3->sc.length=q+m->Cm sc st->AB cS p st H'->BJ cI x dx (HE (sc.take q) (sc.drop q)) H'->x∉p.all->dx∉p.all->t∉p.all->CH t mt H'->mt<=900->K (.tup [.int 1,.tup (AC [(q:Int),(m:Int)]),.ref p.a,.ref x,.lst (sc.map AE),.lst (((BM q m).filter (C4 sc (AN st))).map AM)]) H') :
  AH B (n+6) "_law_made" [.ref t] H K:=by
 refine Of P ?_
 show AH B (n+5) "_law_draw" [.ref t,.int 2] H _
 refine EV P T (by exact AA [] [] [] (.l Am Aj) rfl) (by decide) (by decide) λrg H0a r0 r1 T0a e0a=>?_
 show AH B (n+5) "Store" [] H0a _
 refine Z6 (n:=n+1) P λp H0b S0a E0c F0c=>?_
 have T0b:=T0a.Ext E0c
 have htp:t∉p.all:=λh=>T0a.ne (F0c t h)
 refine DI ?_
 refine BB (λc=>?_) λc=>?_
 ·subst c
  show AH B (n+5) "_law_draw" [.ref t,.int 3] H0b _
  refine EV P T0b (by exact AA [] [] [] (.l (.p Am Ae) Aj) rfl) (by decide) (by decide) λr3 H0d q0 q1 T0d e0c=>?_
  have S0c:=S0a.but htp e0c
  refine Ex (Int.eq_ofNat_of_zero_le (show 0<=2+r3 by exact AA [] [_] [.L Ak Ac] (.L Ak (.p Ax Ac)) rfl q0)) λq hq=>?_
  refine Tu (zs:=[(q:Int)]) (N:=q) (top:=q+1) (m:=2) (way:=0) (a4:=none) P S0c T0d htp (by exact AA [] [] [] (.l Ar Av) rfl) (by simp) (by simp) (by exact AA [_] [_] [.R (.p Ax Ac) Ag,.U Ac Az] (.l Aa Aw) rfl hq q1) (λv h1 h2=>by rw[List.mem_singleton.mp h1];exact Int.le_antisymm (AA [_] [] [] (.L (.p Ag Ah) (.c (.p Aa Ae))) rfl) (AA [_] [] [] (.L (.c (.p Aa Ae)) (.p Ag Ah)) rfl)) (by exact AA [_] [_] [.R (.p Ax Ac) Ag,.U Ac Az] (.l (.p Aa Ae) A3) rfl hq q1) ?_ |> (λh=>by rw[←hq] at h;exact h)
  intro m sc st H0e ls a7 a8 hm hsc V S0d T0c hl4 hlp htl
  refine DI ?_
  show AH B (n+5) "Circuit" [.ref ls] H0e _
  refine Uo P (AZ hl4) λx dx H0f A0d E0a f1 f2=>?_
  have S0e:AB cS p st H0f:=S0d.agree λb hb=>by
   cases e:H0e b with
   |none=>exact absurd e (S0d.known hb)
   |some A=>exact E0a b A e
  refine Tt P (zs:=[(q:Int)]) (way:=0) (rows:=Bk q) S0e V (T0c.Ext E0a) (E0a _ _ hl4) hlp (by exact AA [_,_] [_] [.e Aa Ab,.R (.p Ax Ac) Al,.U Ac Az] (.l Aa Aw) rfl hsc hq q1) htl (λh=>N3 (n:=n+3) P (by exact AA [_] [_] [.E (.p Ax Ac) Ag,.L Ak Ac] (.l Ae Aa) rfl hq q0) (by exact AA [_] [_] [.R (.p Ax Ac) Ag,.U Ac Az] (.l Aa As) rfl hq q1) h) (λr hr=>by rw[Eo (by exact AA [_] [_] [.R (.p Ax Ac) Ag,.U Ac Az] (.l Aa As) rfl hq q1) r hr];exact AA [_,_] [] [.e Aa Ab] (.l Aa Ab) rfl hsc) ?_ λH0g S0f T0f e0b=>?_
  ·have t1:=C2 (q:=q) (by exact AA [_] [_] [.R (.p Ax Ac) Ag,.U Ac Az] (.l Aa As) rfl hq q1)
   have:=List.length_filter_le Lq (Cf q q)
   unfold Bk;exact AA [_,_] [] [.l Aa Ab,.l Ab A5] (.u Aa A1) rfl this t1
  ·have hx:x≠ls:=by rintro rfl;rw[hl4] at f1;exact sN f1
   have hd:dx≠ls:=by rintro rfl;rw[hl4] at f2;exact sN f2
   exact kC q p x dx sc st H0g m (by exact AA [_] [_] [.E (.p Ax Ac) Ag,.L Ak Ac] (.l Ar Aa) rfl hq q0) (by exact AA [_] [_] [.R (.p Ax Ac) Ag,.U Ac Az] (.l Aa As) rfl hq q1) hsc V S0f ⟨(e0b x hx (by rw[A0d.hx];simp)).trans A0d.hx,(e0b dx hd (by rw[A0d.hd];simp)).trans A0d.hd⟩ (S0d.fresh f1) (S0d.fresh f2) htp T0f hm
 ·have w1:rg=1:=by exact Int.le_antisymm (AA [] [_] [.U Ac Ax] (.L Ac Ah) rfl r1) ((Int.lt_or_gt_of_ne c).elim (λmH=>(AA [] [_] [.U Ac Ak,.L Ak Ac] .f rfl mH r0).elim) (λmH=>AA [] [_] [.U Ak Ac] (.L Ah Ac) rfl mH))
  subst w1
  show AH B (n+5) "_law_draw" [.ref t,.int 3] H0b _
  refine EV P T0b (by exact AA [] [] [] (.l (.p Am Ae) Aj) rfl) (by decide) (by decide) λr3 H0d q0 q1 T0d e0c=>?_
  have S0c:=S0a.but htp e0c
  refine Ex (Int.eq_ofNat_of_zero_le (show 0<=1+r3 by exact AA [] [_] [.L Ak Ac] (.L Ak (.p Ah Ac)) rfl q0)) λq hq=>?_
  show AH B (n+5) "_law_draw" [.ref t,.int 7] H0d _
  refine EV P T0d (by exact AA [] [] [] (.l (.p (.p Am Ae) Ae) Aj) rfl) (by decide) (by decide) λr4 H0e _ _ T0c e0e=>?_
  have S0d:=S0c.but htp e0e
  have body:∀m:Nat,(m=q\/m+q=4)->1<=m->m<=3->AQ B (n+5) Ch.tail.tail (XV (some (.ref t)) (some (.int 1)) (some (.ref p.a)) (some (.tup (AC [(q:Int),(m:Int)]))) (some (.int q)) none none none none none none none none none) H0e (BI K):=by
   intro mm hmm hm1 hm3
   refine Tu (zs:=[(q:Int),(mm:Int)]) (N:=q+mm) (top:=max q mm+1) (m:=3) (way:=1) P S0d T0c htp (by exact AA [] [] [] (.l An Av) rfl) (by simp) (by simp) (by exact AA [_,_] [_] [.R (.p Ah Ac) Ag,.l Ab An,.U Ac Az] (.l (.p Aa Ab) Aw) rfl hq hm3 q1) (λv h1 h2=>?_) (by exact(Nat.le_total _ _).elim (λmH=>AA [_,_] [] [.l Ab An,.e Aa Ab] (.l (.p Aa Ae) A3) rfl hm3 (Nat.max_eq_right mH)) (λmH=>AA [_,_] [_] [.R (.p Ah Ac) Al,.U Ac Az,.e Aa Ab] (.l (.p Aa Ae) A3) rfl hq q1 (Nat.max_eq_left mH))) ?_
   ·have a1:=h2 q (by simp)
    have a2:=h2 mm (by simp)
    simp only[List.mem_cons,List.not_mem_nil,or_false] at h1
    exact Int.le_antisymm (h1.elim (λmH=>AA [_,_] [_] [.E Ac Al,.l Ab Aa] (.L (.p Ac Ah) (.c (.p Aa Ae))) rfl mH (Nat.le_max_left _ _)) (λmH=>AA [_,_] [_] [.E Ac Al,.l Ab Aa] (.L (.p Ac Ah) (.c (.p Aa Ae))) rfl mH (Nat.le_max_right _ _))) ((Nat.le_total _ _).elim (λmH=>AA [_,_] [_] [.L Al Ac,.e Aa Ab] (.L (.c (.p Aa Ae)) (.p Ac Ah)) rfl a2 (Nat.max_eq_right mH)) (λmH=>AA [_,_] [_] [.L Al Ac,.e Aa Ab] (.L (.c (.p Aa Ae)) (.p Ac Ah)) rfl a1 (Nat.max_eq_left mH)))
   intro m sc st H0f ls a7 a8 hm hsc V S0e T0e hl5 hlp htl
   refine DI ?_
   refine AP (d:=.tup (AC [(q:Int),(mm:Int)])) (e:=.int q) rfl rfl ?_
   refine Wo hl5 (by exact AA [] [_] [.L Ak Ac] (.L Ak Ac) rfl (Int.natCast_nonneg _)) ?_
   refine AP (d:=.tup (AC [(q:Int),(mm:Int)])) (e:=.int q) rfl rfl ?_
   refine Wp hl5 (by exact AA [] [_] [.L Ak Ac] (.L Ak Ac) rfl (Int.natCast_nonneg _)) ?_
   rw[Int.toNat_natCast,←List.map_take,←List.map_drop]
   show AH B (n+5) "Inverse" [.lst ((sc.take q).map AE),.lst ((sc.drop q).map AE)] H0f _
   refine Up P rfl rfl (by rw[List.length_take,List.length_drop];exact AA [_,_,_,_,_] [_] [.e Af (.p Ab A2),.R (.p Ah Ac) Al,.l A2 An,.U Ac Az,.l Aa Ab,.e (.p Aq Ab) Af] (.u (.p Aa Aq) Aj) rfl hsc hq hm3 q1 (Nat.min_le_left _ _) (IC (AA [_,_,_] [] [.r Ab (.p Aa Af)] (.l Aa Ab) rfl hsc))) λx dx H0g A0e E0b f1 f2=>?_
   have S0f:AB cS p st H0g:=S0e.agree λb hb=>by
    cases e:H0f b with
    |none=>exact absurd e (S0e.known hb)
    |some A=>exact E0b b A e
   refine Tt P (zs:=[(q:Int),(mm:Int)]) (way:=1) (rows:=BM q mm) S0f V (T0e.Ext E0b) (E0b _ _ hl5) hlp (by exact AA [_,_,_] [_] [.e Aa (.p Ab Af),.R (.p Ah Ac) Al,.l Af An,.U Ac Az] (.l Aa Aw) rfl hsc hq hm3 q1) htl (λh=>N4 (n:=n+3) P (by exact AA [_] [_] [.R (.p Ah Ac) Ag,.U Ac Az] (.l Aa As) rfl hq q1) (PX q (by simp;exact Decidable.byContradiction λmL=>(Nat.lt_or_gt_of_ne (not_or.mp (not_or.mp mL).2).1).elim (λmH=>(Nat.lt_or_gt_of_ne (not_or.mp mL).1).elim (λmI=>AA [_] [_] [.E (.p Ah Ac) Ag,.L Ak Ac,.u Aa Ae] .f rfl hq q0 mI) (λmI=>AA [_] [] [.u Ae Aa,.u Aa Ar] .f rfl mI mH)) (λmH=>(Nat.lt_or_gt_of_ne (not_or.mp (not_or.mp mL).2).2).elim (λmI=>AA [_] [] [.u Ar Aa,.u Aa An] .f rfl mH mI) (λmI=>AA [_] [_] [.u An Aa,.R (.p Ah Ac) Ag,.U Ac Az] .f rfl mI hq q1)))) h) (λr hr=>by rw[Fv r hr];exact AA [_,_,_] [] [.e Aa (.p Ab Af)] (.l Aa (.p Ab Af)) rfl hsc) ?_ λH0h S0g T0g e0f=>?_
   ·have:=C2 (q:=q) (by exact AA [_] [_] [.R (.p Ah Ac) Ag,.U Ac Az] (.l Aa As) rfl hq q1)
    unfold BM
    split
    ·rw[List.length_map];exact AA [_] [] [.l Aa A5] (.u Aa A1) rfl this
    ·simp
   ·have hx:x≠ls:=by rintro rfl;rw[hl5] at f1;exact sN f1
    have hd:dx≠ls:=by rintro rfl;rw[hl5] at f2;exact sN f2
    exact kI q mm p x dx sc st H0h m (by exact AA [_] [_] [.E (.p Ah Ac) Ag,.L Ak Ac] (.l Ae Aa) rfl hq q0) (by exact AA [_] [_] [.R (.p Ah Ac) Ag,.U Ac Az] (.l Aa An) rfl hq q1) hmm hm1 hm3 hsc V S0g ⟨(e0f x hx (by rw[A0e.hx];simp)).trans A0e.hx,(e0f dx hd (by rw[A0e.hd];simp)).trans A0e.hd⟩ (S0e.fresh f1) (S0e.fresh f2) htp T0g hm
  refine Uj ?_
  refine BB (λc=>?_) λc=>?_
  ·have:=body q (.inl rfl) (by exact AA [_] [_] [.E (.p Ah Ac) Ag,.L Ak Ac] (.l Ae Aa) rfl hq q0) (by exact AA [_] [_] [.R (.p Ah Ac) Ag,.U Ac Az] (.l Aa An) rfl hq q1)
   rw[←hq] at this
   exact this
  ·refine Ex (Int.eq_ofNat_of_zero_le (show 0<=4-(1+r3) by exact AA [] [_] [.U Ac Az] (.L Ak (.s (.n 4) (.p Ah Ac))) rfl q1)) λmm hmm=>?_
   have:=body mm (.inr (by exact M4 (AA [_,_] [_] [.R (.s (.n 4) (.p Ah Ac)) Ag,.R (.p Ah Ac) Al] (.l (.p Aa Ab) As) rfl hmm hq) (AA [_,_] [_] [.E (.p Ah Ac) Al,.E (.s (.n 4) (.p Ah Ac)) Ag] (.l As (.p Aa Ab)) rfl hq hmm))) (by exact AA [_] [_] [.E (.s (.n 4) (.p Ah Ac)) Ag,.U Ac Az] (.l Ae Aa) rfl hmm q1) (by exact AA [_] [_] [.R (.s (.n 4) (.p Ah Ac)) Ag,.L Ak Ac] (.l Aa An) rfl hmm q0)
   rw[←hq,←hmm] at this
   exact this
end
section
variable {B:Base} {cS cC cI:Addr} {n nv:Nat} {H H' H0c:KH} {K:D->KH->Prop} {p:Dn} {st:St} {C x dx:Addr} {mP:List (Str×D)}
theorem Tv{body:D->KH->(Option D->KH->Prop)->Prop}(hat:a≠t)
  (hb:∀(d:D) (m:Nat) (H:KH) (K':Option D->KH->Prop),m<=1000->CH t m H->(∀r H',0<=r->r<many->CH t (m+1) H'->(∀b,b≠t->H' b=H b)->K' (some (.int r)) H')->body d H K') :
  ∀(xs:List Nat) (acc:List Int) (m:Nat) (H:KH) (KF:List D->KH->Prop),H a=some (.list (AC acc))->CH t m H->m+xs.length<=1000->acc.length+xs.length<1000->(∀v∈acc,0<=v/\v<many) ->
  (∀vs H',vs.length=acc.length+xs.length->(∀v∈vs,0<=v/\v<many)->CH t (m+xs.length) H'->H' a=some (.list (AC vs))->(∀b,b≠t->b≠a->H' b=H b)->KF (AC vs) H')->CK body a (xs.map AE) (AC acc) H KF
 |[],acc,m,H,KF,hl,T,_,_,hv,hk=>hk acc H (by simp) hv T hl λ_ _ _=>rfl
 |y::xs,acc,m,H,KF,hl,T,h1,h2,hv,hk=>by
  rw[List.length_cons] at h1 h2
  refine hb _ m H _ (by exact AA [_,_] [] [.l (.p Aa (.p Ab Ae)) Aj] (.l Aa Aj) rfl h1) T λr H0a r0 r1 T0a e0a=>?_
  have hlc:=(e0a a hat).trans hl
  refine⟨hlc,by rw[BZ];exact AA [_,_] [] [.u (.p Aa (.p Ab Ae)) Aj] (.u Aa Ao) rfl h2,?_⟩
  rw[show AC acc++[D.int r]=AC (acc++[r]) from C7 acc [r]]
  refine Tv hat hb xs (acc++[r]) (m+1) _ KF (KH.set_self ..) (T0a.ext (KH.set_ne _ _ (Ne.symm hat))) (by exact AA [_,_] [] [.l (.p Aa (.p Ab Ae)) Aj] (.l (.p (.p Aa Ae) Ab) Aj) rfl h1) (by rw[List.length_append,List.length_singleton];exact AA [_,_] [] [.u (.p Aa (.p Ab Ae)) Aj] (.u (.p (.p Aa Ae) Ab) Aj) rfl h2) (λv hv'=>?_) λvs H' q1 q2 q3 q4 q5=>?_
  ·rcases List.mem_append.mp hv' with h|h
   ·exact hv v h
   ·rw[List.mem_singleton.mp h];exact⟨r0,r1⟩
  ·exact hk vs H' (by rw[q1,List.length_append,List.length_singleton,List.length_cons];exact Nat.le_antisymm (AA [_,_] [] [] (.l (.p (.p Aa Ae) Ab) (.p Aa (.p Ab Ae))) rfl) (AA [_,_] [] [] (.l (.p Aa (.p Ab Ae)) (.p (.p Aa Ae) Ab)) rfl)) q2 (q3.less (by rw[List.length_cons];exact AA [_,_] [] [] (.l (.p (.p Aa Ae) Ab) (.p Aa (.p Ab Ae))) rfl)) q4 λb b1 b2=>(q5 b b1 b2).trans ((KH.set_ne _ _ b2).trans (e0a b b1))
theorem Uz(k:Nat)(vs:List Int):CG (k+1) (.tup (AC vs))=true:=Bn k vs
theorem W8{vs:List Int}{rows:BK}:D.tup (AC vs)∈rows.map AM↔vs∈rows:=by
 rw[List.mem_map]
 exact⟨λ⟨r,h,e⟩=>(Mv (λ_ _ h=>D.int.inj h) (D.tup.inj e))▸h,λh=>⟨vs,h,rfl⟩⟩
noncomputable abbrev jh(a0 a1 a2 a3 a4 a5 a6 a7:Option D):Bw:=[a0,a1,a2,a3,a4,a5,a6,a7,none,none,none,none]
theorem W9(P:AS B cS cC cI){way:Int}{zs:List Int}{rows:BK}{due:D}(A:BJ C x dx mP H)(T:CH t m H)(hm:m<=950)(hx:x≠t)(hd:dx≠t)(hsc:sc.length<=20)(hz:zs≠[])(hmax:∀v∈zs,0<=v/\v<=4)
  (l1:mP.lookup ("told":Str)=none) (l2:mP.lookup ("check":Str)=none) (l3:mP.lookup ("scope":Str)=some (.tup (sc.map AE))) (m1:hasM B C "told") (m2:hasM B C "check") (m3:BS B.K C "scope"=true)
  (hdue:CG AY due=true) (htold:∀{H0a:KH} {K0a:D->KH->Prop},BJ C x dx mP H0a->K0a due H0a->AJ B (n+5) C "told" [.ref x] H0a K0a)
  (hans:∀{H0a:KH} {K0a:D->KH->Prop},K0a (.lst (rows.map AM)) H0a->AH B (n+5) "_law_answers" [.int way,.tup (AC zs)] H0a K0a) (hrl:rows.length<1000) (hrows:∀r∈rows,r.length=sc.length/\∀v∈r,0<=v/\v<=5)
  (hchk:∀{H0a:KH} {K0a:D->KH->Prop} (vs:List Int),BJ C x dx mP H0a->vs.length=sc.length->(∀v∈vs,0<=v/\v<=5)->K0a (.bool (decide (vs∈rows))) H0a->AJ B (n+5) C "check" [.ref x,.tup (AC vs)] H0a K0a)
  (k:∀H',K (.bool true) H') :
  AQ B (n+5) Ci.tail (jh (some (.ref t)) (some (.int way)) (some (.tup (AC zs))) (some (.ref x)) (some (.lst (sc.map AE))) (some due) none none) H (BI K):=by
 refine Kw A l1 m1 ?_
 show AJ B (n+5) C "told" [.ref x] H _
 refine htold A ?_
 have eqD:∀{d:D} {H:KH} {k:Bool->Prop},CG AY d=true->k (!OJ d d)->CA .NotEq (rd H d) (rd H d) k:=λ{d H k} h1 h2=>by
  have:rd H d=d:=by cases d<;>first|rfl|(exfalso;cases h1)
  rw[this];exact IA h1 h1 h2
 refine eqD hdue ?_
 rw[(CF _ _).mpr rfl]
 refine Bl (v:=.tup (sc.map AE)) A m3 l3 ?_
 refine B5 (d:=.lst (sc.map AE)) rfl ?_
 refine IA (a:=.tup (sc.map AE)) (b:=.tup (sc.map AE)) (Fu 5 _) (Fu 5 _) ?_
 rw[(CF _ _).mpr rfl]
 intro a ha
 have hat:a≠t:=λe=>T.ne (e▸ha)
 refine Tv (t:=t) (many:=6) hat ?_ sc [] m _ _ (KH.set_self ..) (T.set ha) (by exact AA [_,_] [] [.l Aa (.n 950),.l Ab Aw] (.l (.p Aa Ab) Aj) rfl hm hsc) (by simp;exact AA [_] [] [.l Aa Aw] (.u Aa Aj) rfl hsc) (λv h=>(List.not_mem_nil h).elim) λvs H0a q1 q2 T0a q4 q5=>?_
 ·intro d m' H' K' hm' T' h
  refine⟨zs,rfl,hz,λv v1 v2=>?_⟩
  have:=hmax v v1
  show AH B (n+5) "_law_draw" [.ref t,.int (v+2)] H' _
  exact EV P T' hm' (by exact AA [] [_] [.L Ak Ac] (.U Ak (.p Ac Ax)) rfl this.1) (by exact AA [] [_] [.L Ac (.n 4)] (.U (.p Ac Ax) Ap) rfl this.2) λr H'' r0 r1=>h r H'' r0 (by exact AA [] [_,_] [.U Ac (.p Ad Ax),.L Ad (.n 4)] (.U Ac (.n 6)) rfl r1 this.2)
 refine⟨q4,?_⟩
 rw[if_pos rfl]
 have hxa:x≠a:=by rintro rfl;rw[A.hx] at ha;exact sN ha
 have hda:dx≠a:=by rintro rfl;rw[A.hd] at ha;exact sN ha
 have A0f:BJ C x dx mP (H0a.erase a):=⟨(KH.erase_ne _ hxa).trans ((q5 x hx hxa).trans ((KH.set_ne _ _ hxa).trans A.hx)),(KH.erase_ne _ hda).trans ((q5 dx hd hda).trans ((KH.set_ne _ _ hda).trans A.hd))⟩
 have T0b:CH t (m+sc.length) (H0a.erase a):=T0a.ext (KH.erase_ne _ (Ne.symm hat))
 generalize H0a.erase a=H0b at A0f T0b ⊢
 refine B5 (d:=.lst (AC vs)) rfl ?_
 show AH B (n+5) "_law_answers" [.int way,.tup (AC zs)] H0b _
 refine hans ?_
 have C5:∀(vs:List Int) (H0d:KH),BJ C x dx mP H0d->vs.length=sc.length->(∀v∈vs,0<=v/\v<=5) ->
   AQ B (n+5) (.cons (.ret (.cmp (.meth (.var 3) "check" (.cons (.var 6) .nil)) .Is (.cmp (.var 6) .In (.var 7)))) .nil) (jh (some (.ref t)) (some (.int way)) (some (.tup (AC zs))) (some (.ref x)) (some (.lst (sc.map AE))) (some due) (some (.tup (AC vs))) (some (.lst (rows.map AM)))) H0d (BI K):=by
  intro vs H0d A0a h1 h2
  refine Kw A0a l2 m2 ?_
  show AJ B (n+5) C "check" [.ref x,.tup (AC vs)] H0d _
  refine hchk vs A0a h1 h2 ?_
  refine ai (a:=.tup (AC vs)) (Uz 5 _) (C3 5 _) ?_
  rw[HD W8]
  refine Uv ?_
  rw[beq_self_eq_true]
  exact k H0d
 have hvs:vs.length=sc.length:=by rw[q1];simp
 have hvb:∀v∈vs,0<=v/\v<=5:=λv hv=>by have:=q2 v hv;exact⟨AA [] [_] [.L Ak Ac] (.L Ak Ac) rfl this.1,AA [] [_] [.U Ac (.n 6)] (.L Ac (.n 5)) rfl this.2⟩
 refine IA (a:=.lst (rows.map AM)) (b:=.lst []) (C3 4 _) rfl ?_
 rw[DN]
 refine Sm (λc=>?_) λc=>C5 vs H0b A0f hvs hvb
 have hne:rows≠[]:=λe=>by rw[e] at c;cases c
 have hpos:0<rows.length:=List.length_pos_iff.mpr hne
 show AH B (n+5) "_law_draw" [.ref t,.int 2] H0b _
 refine EV P T0b (by exact AA [_,_] [] [.l Aa (.n 950),.l Ab Aw] (.l (.p Aa Ab) Aj) rfl hm hsc) (by decide) (by decide) λr H0d r0 r1 T0d e0c=>?_
 have A0a:BJ C x dx mP H0d:=⟨(e0c x hx).trans A0f.hx,(e0c dx hd).trans A0f.hd⟩
 refine DI ?_
 refine BB (λc=>?_) λc=>C5 vs H0d A0a hvs hvb
 refine J0 ?_
 rw[List.length_map]
 show AH B (n+5) "_law_draw" [.ref t,.int rows.length] H0d _
 refine EV P T0d (by exact AA [_,_] [] [.l Aa (.n 950),.l Ab Aw] (.l (.p (.p Aa Ab) Ae) Aj) rfl hm hsc) (by exact AA [_] [] [.u Am Aa] (.U Ak Ag) rfl hpos) (by exact AA [_] [] [.u Aa Aj] (.U Ag Ap) rfl hrl) λr H0e r0 r1 T0c e0e=>?_
 have A0c:BJ C x dx mP H0e:=⟨(e0e x hx).trans A0a.hx,(e0e dx hd).trans A0a.hd⟩
 refine Ex (Int.eq_ofNat_of_zero_le r0) λi mN=>?_;subst mN
 have hi:=getD_some (xs:=rows) (d:=[]) (i:=i) (by exact AA [_,_] [] [.U Ag Al] (.u Aa Ab) rfl r1)
 refine Cx (d:=.lst (rows.map AM)) rfl hi ?_
 have hr:=hrows _ (List.mem_of_getElem? hi)
 exact C5 _ H0e A0c hr.1 hr.2
end
structure J3(nv:Nat)(v0:Nat->List Int)(tr:List Qc)(ds:List Bb):Prop where
 len:ds.length=nv
 ok:∀d∈ds,MS d
 z:tr.length+Ur ds<=1000
 ex:∀e∈tr,e.x<nv
 sub:∀x v,v∈vals (ds.getD x [])->v∈v0 x
section
variable {nv:Nat} {v0:Nat->List Int} {st st':St} {hs:List (Nat×List Bb)}
theorem J3.inv(g:J3 nv v0 st.trail st.doms)(h:nv<=50):B3 st:=⟨by rw[g.len];exact h,λd hd=>(g.ok d hd).v,λd hd=>(g.ok d hd).ne,g.z⟩
theorem Tw{d:Bb}(h:d∈st.doms):∃y,y<st.doms.length/\st.dom y=d:=by
 refine Ex (List.getElem?_of_mem h) λy hy=>?_
 have hy':=(List.getElem?_eq_some_iff.mp hy).1
 exact⟨y,hy',by have:=C8 hy';rw[hy] at this;exact(Option.some.inj this).symm⟩
theorem J3.keep(g:J3 nv v0 st.trail st.doms)(k:AI st st'):J3 nv v0 st'.trail st'.doms:=by
 refine⟨k.len.trans g.len,λd hd=>?_,k.inv.z,λe he=>?_,λx v hv=>g.sub x v (k.sub x v hv)⟩
 ·refine BG (Tw hd) λy hy mN=>?_;subst mN
  exact⟨k.inv.valid hy,k.inv.dne hy,λv hv=>(g.ok _ (CY (by rw[←k.len];exact hy))).lo v (k.sub y v hv)⟩
 ·refine DO k.trail λes h1 _ h3=>?_
  rw[h1] at he
  rcases List.mem_append.mp he with he|he
  ·exact g.ex e he
  ·rw[←g.len];exact h3 e he
noncomputable def QQ(nv:Nat)(v0:Nat->List Int):List (Nat×List Bb)->List Qc->List Bb->Prop
 |[],_,_=>True
 |(m,k)::r,tr,ds=>m<=tr.length/\Ie (tr.drop m) ds=k/\J3 nv v0 (tr.take m) k/\QQ nv v0 r (tr.take m) k
theorem QQ.keep(h:QQ nv v0 hs st.trail st.doms)(k:AI st st'):QQ nv v0 hs st'.trail st'.doms:=by
 cases hs with
 |nil=>trivial
 |cons q r =>
  obtain⟨m,d⟩:=q
  refine Pf h λh1 h2 h3 h4=>?_
  refine DO k.trail λes e1 e2 _=>?_
  have t1:(st.trail++es).take m=st.trail.take m:=List.take_append_of_le_length h1
  have t2:(st.trail++es).drop m=st.trail.drop m++es:=List.drop_append_of_le_length h1
  rw[e1]
  exact⟨by rw[List.length_append];exact AA [_,_,_] [] [.l Aa Ab] (.l Aa (.p Ab Af)) rfl h1,by rw[t2,Ii,e2];exact h2,by rw[t1];exact h3,by rw[t1];exact h4⟩
theorem QQ.push(h:QQ nv v0 hs st.trail st.doms)(g:J3 nv v0 st.trail st.doms):QQ nv v0 ((st.trail.length,st.doms)::hs) st.trail st.doms :=
 ⟨Nat.le_refl _,by rw[List.drop_length];rfl,by rw[List.take_length];exact g,by rw[List.take_length];exact h⟩
end
def K9(ds:List Bb):D:=.lst (ds.map AG)
section
variable {B:Base} {cS cC cI:Addr} {n nv:Nat} {H H' H0c:KH} {K:D->KH->Prop} {p:Dn} {st:St} {C x dx:Addr} {mP:List (Str×D)}
structure LI(cS C x dx t lk:Addr)(mP:List (Str×D))(nv:Nat)(v0:Nat->List Int)(F:List Bb)(p:Dn)(hs:List (Nat×List Bb))(ks:List (List Bb))(st:St)(m:Nat)(H:KH):Prop where
 S:AB cS p st H
 g:J3 nv v0 st.trail st.doms
 hist:QQ nv v0 hs st.trail st.doms
 marks:st.marks=(hs.map (·.1)).reverse
 firsts:st.firsts=F
 Q:BJ C x dx mP H
 hx:x∉p.all
 hdx:dx∉p.all
 htp:t∉p.all
 T:CH t m H
 hlk:lk∉p.all
 kept:H lk=some (.list (ks.map K9))
 htk:lk≠t
variable {t lk:Addr} {v0:Nat->List Int} {F:List Bb} {hs:List (Nat×List Bb)} {ks:List (List Bb)} {m:Nat}
theorem LI.step{st':St}(L:LI cS C x dx t lk mP nv v0 F p hs ks st m H)(S':AB cS p st' H')(O:EI p H H')(k:AI st st'):LI cS C x dx t lk mP nv v0 F p hs ks st' m H' :=
 ⟨S',L.g.keep k,L.hist.keep k,k.marks.trans L.marks,k.firsts.trans L.firsts,L.Q.off O L.hx L.hdx,L.hx,L.hdx,L.htp,L.T.off O L.htp,L.hlk,(O lk L.hlk).trans L.kept,L.htk⟩
theorem LI.draw{m':Nat}(L:LI cS C x dx t lk mP nv v0 F p hs ks st m H)(T':CH t m' H')(e:∀b,b≠t->H' b=H b):LI cS C x dx t lk mP nv v0 F p hs ks st m' H':=by
 have hxt:x≠t:=by rintro rfl;refine M5 L.T.at' λ_ _ e _=>?_;rw[L.Q.hx] at e;cases e
 have hdt:dx≠t:=by rintro rfl;refine M5 L.T.at' λ_ _ e _=>?_;rw[L.Q.hd] at e;cases e
 exact⟨L.S.but L.htp e,L.g,L.hist,L.marks,L.firsts,⟨(e x hxt).trans L.Q.hx,(e dx hdt).trans L.Q.hd⟩,L.hx,L.hdx,L.htp,T',L.hlk,(e lk L.htk).trans L.kept,L.htk⟩
theorem LI.keptTo{ks':List (List Bb)}(L:LI cS C x dx t lk mP nv v0 F p hs ks st m H):LI cS C x dx t lk mP nv v0 F p hs ks' st m (H.set lk (.list (ks'.map K9))):=by
 have hxt:x≠lk:=by rintro rfl;have:=L.kept;rw[L.Q.hx] at this;cases this
 have hdt:dx≠lk:=by rintro rfl;have:=L.kept;rw[L.Q.hd] at this;cases this
 exact⟨L.S.set L.hlk,L.g,L.hist,L.marks,L.firsts,⟨(KH.set_ne _ _ hxt).trans L.Q.hx,(KH.set_ne _ _ hdt).trans L.Q.hd⟩,L.hx,L.hdx,L.htp,L.T.ext (KH.set_ne _ _ (Ne.symm L.htk)),L.hlk,KH.set_self ..,L.htk⟩
theorem QR(P:AS B cS cC cI)(S:AB cS p st H)(hn:st.doms.length<=50)(ha:H a=none){body:D->KH->(Option D->KH->Prop)->Prop}{KF:List D->KH->Prop}
  (hb:∀(i:Nat) (acc:List D) (K':Option D->KH->Prop),iH B "dom" (.ref p.a) (H.set a (.list acc)) (λC=>AJ B (n+1) C "dom" [.ref p.a,.int i] (H.set a (.list acc)) λd H=>K' (some d) H)->body (.int i) (H.set a (.list acc)) K')
  (k:(H.set a (.list (st.doms.map AG))) a=some (.list (st.doms.map AG))->H=(H.set a (.list (st.doms.map AG))).erase a->KF (st.doms.map AG) (H.set a (.list (st.doms.map AG)))) :
  CK body a ((List.range st.doms.length).map λ(i:Nat)=>D.int i) [] (H.set a (.list [])) KF:=by
 have el:(List.range st.doms.length).filterMap (λi=>some (AG (st.dom i)))=st.doms.map AG:=by
  rw[List.filterMap_eq_map']
  refine List.ext_getElem? λi=>?_
  by_cases hi:i<st.doms.length
  ·rw[List.getElem?_map,List.getElem?_map,C8 hi,List.getElem?_range hi];rfl
  ·rw[List.getElem?_eq_none (by simp;exact AA [_,_] [] [.l Aa Ab] (.l Aa Ab) rfl (Nat.le_of_not_lt hi)),List.getElem?_eq_none (by rw[List.length_map];exact AA [_,_] [] [.l Aa Ab] (.l Aa Ab) rfl (Nat.le_of_not_lt hi))]
 refine BX (λ(i:Nat)=>D.int i) (λi=>some (AG (st.dom i))) ha (by simp;exact AA [_] [] [.l Aa A0] (.u Aa Ao) rfl hn) (λi hi acc K' h=>?_) (by rw[el];exact k)
 have S0a:AB cS p st (H.set a (.list acc)):=S.set (S.fresh ha)
 exact hb i acc K' (Bf S0a rfl P.j0 (RD P S0a (List.mem_range.mp hi) h))
theorem Su(P:AS B cS cC cI){q:Nat}{k:List Bb}(L:LI cS C x dx t lk mP nv v0 F p ((q,k)::hs) ks st m H)(hF:[]∉F)
  (kk:∀p' st' H',p'.a=p.a->LI cS C x dx t lk mP nv v0 F p' hs ks st' m H'->st'.failed=false->st'.doms=k->K .none H'):AJ B (n+1) cS "pop" [.ref p.a,.int 1] H K:=by
 refine Pf L.hist λh1 h2 h3 h4=>?_
 refine hU P (ms:=(hs.map (·.1)).reverse) (m:=q) L.S (by rw[L.marks];simp) h1 (λe he=>by rw[L.g.len];exact L.g.ex e he) λp' H' ea S' O=>?_
 have e1:(st.popTo q).marks=(hs.map (·.1)).reverse:=by show st.marks.dropLast=_;rw[L.marks];simp
 have e2:(st.popTo q).doms=k:=h2
 have q1:=O _ _ L.Q.hx L.hx
 have q2:=O _ _ L.Q.hd L.hdx
 have q3:=O _ _ L.kept L.hlk
 refine M5 L.T.at' λcells spot tt tr=>?_
 have q4:=O _ _ tt L.htp
 refine kk p' (st.popTo q) H' ea ⟨S',?_,?_,e1,L.firsts,⟨q1.1,q2.1⟩,q1.2,q2.2,q4.2,⟨cells,spot,q4.1,tr⟩,q3.2,q3.1,L.htk⟩ ?_ e2
 ·show J3 nv v0 (st.trail.take q) (Ie (st.trail.drop q) st.doms);rw[h2];exact h3
 ·show QQ nv v0 hs (st.trail.take q) (Ie (st.trail.drop q) st.doms);rw[h2];exact h4
 ·show decide ([]∈st.firsts)=false;rw[L.firsts];exact decide_eq_false hF
end
section
variable {B:Base} {cS cC cI:Addr} {n nv:Nat} {H H' H0c:KH} {K:D->KH->Prop} {p:Dn} {st:St} {C x dx:Addr} {mP:List (Str×D)}
variable {t lk:Addr} {v0:Nat->List Int} {F:List Bb} {hs:List (Nat×List Bb)} {ks:List (List Bb)} {m:Nat}
theorem LI.push(L:LI cS C x dx t lk mP nv v0 F p hs ks st m H)(S':AB cS p {st with marks:=st.marks++[st.trail.length]} H')(O:EI p H H') :
  LI cS C x dx t lk mP nv v0 F p ((st.trail.length,st.doms)::hs) ks {st with marks:=st.marks++[st.trail.length]} m H' :=
 ⟨S',L.g,L.hist.push L.g,by show st.marks++[st.trail.length]=_;rw[L.marks];simp,L.firsts,L.Q.off O L.hx L.hdx,L.hx,L.hdx,L.htp,L.T.off O L.htp,L.hlk,(O lk L.hlk).trans L.kept,L.htk⟩
theorem Sv{l:CQ}{rs:Option (List CQ)}{sp:Int}(h:(enter l rs sp st).1=true):(enter l rs sp st).2.failed=st.failed:=by
 unfold enter at h ⊢
 split at h
 ·exact Jf h
 ·rename_i c
  rw[if_neg c]
  split<;>rfl
noncomputable abbrev dz(a0 a1 a2 a3 a4 a5 a6 a7 a8 a9 a10 a11 a12 a13:Option D):Bw:=[a0,a1,a2,a3,a4,a5,a6,a7,a8,a9,a10,a11,a12,a13,none,none,none,none,none,none,none,none]
noncomputable def dk:List Sg:=[.eq,.eq,.ne,.le,.ge]
theorem Sw{k:List Bb}(hl:H lk=some (.list ((ks++[k]).map K9)))(h:K (K9 k) (H.set lk (.list (ks.map K9)))):XS lk H K:=by
 rw[List.map_append] at hl
 exact ak hl h
structure iJ(B:Base)(cS C x dx:Addr)(mP:List (Str×D))(nv:Nat)(v0:Nat->List Int)(prop:M)(sc:List Nat)(A:BK):Prop where
 as:Tz B cS C x dx mP prop nv
 ok:∀st,J3 nv v0 st.trail st.doms->st.failed=false->LN prop sc A st
 n50:nv<=50
 lt:∀y∈sc,y<nv
 s1:1<=sc.length
 s2:sc.length<=20
 al:∀a∈A,sc.length<=a.length
 an:A.length<1000
theorem XA(P:AS B cS cC cI){prop:M}{A:BK}(G:iJ B cS C x dx mP nv v0 prop sc A)(hF:[]∉F){a0 a2 a3 a9:Option D}:∀(js:List Nat) (p:Dn) (hs:List (Nat×List Bb)) (st:St) (m:Nat) (H:KH) (a8 a11 a12 a13:Option D) (KK:KS),
  LI cS C x dx t lk mP nv v0 F p hs (hs.map (·.2)).reverse st m H->st.failed=false->m+3*js.length<=940->hs.length+js.length<=10 ->
  (∀p' hs' st' m' H' a8 a11 a12 a13,p'.a=p.a->LI cS C x dx t lk mP nv v0 F p' hs' (hs'.map (·.2)).reverse st' m' H'->st'.failed=false->m'<=940->hs'.length<=10 ->
   KK .next (dz a0 (some (.ref t)) a2 a3 (some (.ref p.a)) (some (.ref x)) (some (.lst (sc.map AE))) (some (.lst (A.map AM))) a8 a9 (some (.ref lk)) a11 a12 a13) H') ->
  Bm (AQ B (n+8) JB) (.v 11) (js.map λ(i:Nat)=>D.int i) (dz a0 (some (.ref t)) a2 a3 (some (.ref p.a)) (some (.ref x)) (some (.lst (sc.map AE))) (some (.lst (A.map AM))) a8 a9 (some (.ref lk)) a11 a12 a13) H KK
 |[],p,hs,st,m,H,a8,a11,a12,a13,KK,L,hf,hm,hh,hk=>hk p hs st m H a8 a11 a12 a13 rfl L hf (by simpa using hm) (by simpa using hh)
 |j::js,p,hs,st,m,H,a8,a11,a12,a13,KK,L,hf,hm,hh,hk=>by
  rw[List.length_cons] at hm hh
  have again:∀(p':Dn) (hs':List (Nat×List Bb)) (st':St) (m':Nat) (H':KH) (a8 a12 a13:Option D),p'.a=p.a->LI cS C x dx t lk mP nv v0 F p' hs' (hs'.map (·.2)).reverse st' m' H'->st'.failed=false->m'<=m+3->hs'.length<=hs.length+1 ->
    Bm (AQ B (n+8) JB) (.v 11) (js.map λ(i:Nat)=>D.int i) (dz a0 (some (.ref t)) a2 a3 (some (.ref p.a)) (some (.ref x)) (some (.lst (sc.map AE))) (some (.lst (A.map AM))) a8 a9 (some (.ref lk)) (some (.int j)) a12 a13) H' KK:=by
   intro p' hs' st' m' H' a8 a12 a13 ea L' hf' hm' hh'
   rw[←ea]
   exact XA P G hF js p' hs' st' m' H' a8 (some (.int j)) a12 a13 KK L' hf' (by exact AA [_,_,_] [] [.l Aa (.p Af An),.l (.p Af (.t 3 (.p Ab Ae))) Ba] (.l (.p Aa (.t 3 Ab)) Ba) rfl hm' hm) (by exact AA [_,_,_] [] [.l Aa (.p Af Ae),.l (.p Af (.p Ab Ae)) (.n 10)] (.l (.p Aa Ab) (.n 10)) rfl hh' hh) λp'' hs'' st'' m'' H'' a8 a11 a12 a13 eb=>by
    rw[ea]
    exact hk p'' hs'' st'' m'' H'' a8 a11 a12 a13 (eb.trans ea)
  refine B1 (d:=.lst (sc.map AE)) rfl ?_
  rw[List.length_map]
  have s1:=G.s1
  have s2:=G.s2
  show AH B (n+8) "_law_draw" [.ref t,.int sc.length] H _
  refine EV P L.T (by exact AA [_,_] [] [.l (.p Aa (.t 3 (.p Ab Ae))) Ba] (.l Aa Aj) rfl hm) (by exact AA [_] [] [.l Ae Aa] (.U Ak Ag) rfl s1) (by exact AA [_] [] [.l Aa Aw] (.U Ag Ap) rfl s2) λr H0a r0 r1 T0a e0a=>?_
  have L0h:=L.draw T0a e0a
  refine Ex (Int.eq_ofNat_of_zero_le r0) λi mN=>?_;subst mN
  have hi:=getD_some (xs:=sc) (d:=0) (i:=i) (by exact AA [_,_] [] [.U Ag Al] (.u Aa Ab) rfl r1)
  have hy:=G.lt _ (List.mem_of_getElem? hi)
  refine Cx (d:=.lst (sc.map AE)) rfl hi ?_
  generalize sc.getD i 0=y at hy ⊢
  show AH B (n+8) "_law_draw" [.ref t,.int 5] H0a _
  refine EV P L0h.T (by exact AA [_,_] [] [.l (.p Aa (.t 3 (.p Ab Ae))) Ba] (.l (.p Aa Ae) Aj) rfl hm) (by decide) (by decide) λr H0b r0 r1 T0b e0d=>?_
  have L0c:=L0h.draw T0b e0d
  refine Ex (Int.eq_ofNat_of_zero_le r0) λi2 mN=>?_;subst mN
  have hi2:=getD_some (xs:=dk) (d:=.eq) (i:=i2) (by show i2<5;exact AA [_] [] [.U Ag (.n 5)] (.u Aa A3) rfl r1)
  refine Cx (f:=λs:Sg=>D.str s.str) (xs:=dk) rfl hi2 ?_
  generalize dk.getD i2 .eq=sg
  refine⟨rfl,?_⟩
  have hyn:y<st.doms.length:=by rw[L.g.len];exact hy
  have I:=L.g.inv G.n50
  refine Bf L0c.S rfl P.j0 ?_
  show AJ B (n+8) cS "dom" [.ref p.a,.int y] H0b _
  refine RD P L0c.S hyn ?_
  show AH B (n+8) "values" [AG (st.dom y)] H0b _
  have Dy:=L.g.ok _ (CY hyn)
  have htot:=El (CY hyn)
  have hz:=I.z
  refine Id P (by exact AA [_,_,_] [] [.l Aa Ab,.l (.p Af Ab) Aj] (.u Aa Ao) rfl htot hz) (Dy.small.ok Dy.v) ?_
  refine⟨⟨_,L0c.kept⟩,?_⟩
  refine Bf L0c.S rfl P.jr ?_
  show AJ B (n+8) cS "size" [.ref p.a] H0b _
  refine Ig P L0c.S ?_
  have hn:=I.n
  refine⟨by unfold BA;exact⟨AA [_] [] [] (.L (.g Ap) Ag) rfl,AA [_] [] [.l Aa A0] (.L Ag Ap) rfl hn⟩,?_⟩
  rw[Bs]
  intro a ha
  refine QR (n:=n+7) P L0c.S hn ha (λi acc K' h=>h) λe1 e2=>⟨e1,?_⟩
  rw[if_pos rfl,←e2]
  refine Ca L0c.kept (by rw[List.length_map,List.length_reverse,List.length_map];exact AA [_,_] [] [.l (.p Aa (.p Ab Ae)) (.n 10)] (.u Aa Ao) rfl hh) ?_
  have ek:((hs.map (·.2)).reverse).map K9++[D.lst (st.doms.map AG)]=((hs.map (·.2)).reverse++[st.doms]).map K9:=by rw[List.map_append];rfl
  rw[ek]
  have L0e:=L0c.keptTo (ks':=(hs.map (·.2)).reverse++[st.doms])
  generalize H0b.set lk (.list (((hs.map (·.2)).reverse++[st.doms]).map K9))=H0d at L0e ⊢
  refine Bf L0e.S rfl P.lR ?_
  show AJ B (n+8) cS "push" [.ref p.a] H0d _
  refine da P L0e.S (by rw[L.marks,List.length_reverse,List.length_map];exact AA [_,_] [] [.l (.p Aa (.p Ab Ae)) (.n 10)] (.u Aa Aj) rfl hh) λH0e S0d O0d=>?_
  have L0f:=L0e.push S0d O0d
  refine Bf L0f.S rfl P.k7 ?_
  refine J0 ?_
  rw[BZ]
  have hvp:0<(vals (st.dom y)).length:=by
   rw[List.length_pos_iff]
   exact λe=>Dy.ne ((RH Dy.v).mp e)
  show AH B (n+8) "_law_draw" [.ref t,.int (vals (st.dom y)).length] H0e _
  refine EV P L0f.T (by exact AA [_,_] [] [.l (.p Aa (.t 3 (.p Ab Ae))) Ba] (.l (.p (.p Aa Ae) Ae) Aj) rfl hm) (by exact AA [_] [] [.u Am Aa] (.U Ak Ag) rfl hvp) (by exact AA [_,_,_] [] [.l Aa Ab,.l (.p Af Ab) Aj] (.U Ag Ap) rfl htot hz) λr H0f r0 r1 T0e e0g=>?_
  have L0g:=L0f.draw T0e e0g
  refine Ex (Int.eq_ofNat_of_zero_le r0) λi3 mN=>?_;subst mN
  have hi3:=getD_some (xs:=vals (st.dom y)) (d:=0) (i:=i3) (by exact AA [_,_] [] [.U Ag Al] (.u Aa Ab) rfl r1)
  refine Cx (f:=D.int) (xs:=vals (st.dom y)) rfl hi3 ?_
  generalize (vals (st.dom y)).getD i3 0=v
  show AJ B (n+8) cS "decide" [.ref p.a,BL ⟨y,sg,v⟩] H0f _
  have I0c:=L0g.g.inv G.n50
  refine Wn (n:=n+3) P (l:=⟨y,sg,v⟩) L0g.S hyn (by show y<100;exact AA [_,_] [] [.u Aa Ab,.l Ab A0] (.u Aa Av) rfl hyn hn) (by have:=I.len hyn;show(st.dom y).length<100000;exact AA [_] [] [.l Aa Aj] (.u Aa A4) rfl this) (by have:=I.tl;show st.trail.length<1000000;exact AA [_,_] [] [.l (.p Aa Ab) Aj] (.u Aa Ao) rfl hz) λH0g S0f O0g=>?_
  have k0f:=RJ (l:=⟨y,sg,v⟩) (rs:=none) (sp:=-1) I0c hyn
  have L0a:=L0g.step S0f O0g k0f
  have fl:=Sv (st:={st with marks:=st.marks++[st.trail.length]}) (l:=⟨y,sg,v⟩) (rs:=none) (sp:=-1)
  generalize (enter ⟨y,sg,v⟩ none (-1) {st with marks:=st.marks++[st.trail.length]}).1=r at fl ⊢
  generalize (enter ⟨y,sg,v⟩ none (-1) {st with marks:=st.marks++[st.trail.length]}).2=st6 at S0f k0f L0a fl ⊢
  refine Sm (λc=>?_) λc=>?_
  ·refine Bf L0a.S rfl P.j6 ?_
   show AJ B (n+8) cS "pop" [.ref p.a,.int 1] H0g _
   refine Su P L0a hF λp' st' H0h ea L0d f0b d0g=>?_
   refine Sw L0d.kept ?_
   exact again p' hs st' (m+3) _ (some (.int y)) (some (.str sg.str)) _ ea L0d.keptTo f0b (by exact AA [_] [] [] (.l (.p Aa An) (.p Aa An)) rfl) (by exact AA [_] [] [] (.l Aa (.p Aa Ae)) rfl)
  ·have f0c:st6.failed=false:=(fl c).trans hf
   show AH B (n+8) "_law_asked_right" [.ref p.a,.ref x,.lst (sc.map AE),.lst (A.map AM)] H0g _
   have I0b:=L0a.g.inv G.n50
   have ask:=G.as
   rw[←L0a.g.len] at ask
   refine Tr P L0a.S L0a.Q L0a.hx L0a.hdx I0b (λd hd=>(L0a.g.ok d hd).small) ask (λz hz=>by rw[L0a.g.len];exact G.lt z hz) (by exact AA [_] [] [.l Aa Aw] (.u Aa Av) rfl s2) G.al G.an (G.ok st6 L0a.g f0c) λH0h S0g O0h=>?_
   have L0d:=L0a.step S0g O0h (G.as.keep I0b L0a.g.len)
   refine AX (v:=.bool (prop st6).2.failed) S0g P.jq rfl ?_
   refine J4 (λc=>?_) λc=>?_
   ·refine Bf L0d.S rfl P.j6 ?_
    show AJ B (n+8) cS "pop" [.ref p.a,.int 1] H0h _
    refine Su P L0d hF λp' st' H0i ea L0b f0a d0c=>?_
    rw[←ea]
    refine AX (v:=.bool st'.failed) L0b.S P.jq rfl ?_
    rw[f0a]
    refine Bf L0b.S rfl P.jr ?_
    show AJ B (n+8) cS "size" [.ref p'.a] H0i _
    refine Ig P L0b.S ?_
    have I0a:=L0b.g.inv G.n50
    have hn8:=I0a.n
    refine⟨by unfold BA;exact⟨AA [_] [] [] (.L (.g Ap) Ag) rfl,AA [_] [] [.l Aa A0] (.L Ag Ap) rfl hn8⟩,?_⟩
    rw[Bs]
    intro a ha
    refine QR (n:=n+7) P L0b.S hn8 ha (λi acc K' h=>h) λe1 e2=>⟨e1,?_⟩
    rw[if_pos rfl,←e2]
    refine Sw L0b.kept ?_
    refine IA (a:=.lst (st'.doms.map AG)) (b:=K9 st.doms) (Dx 3 _) (Dx 3 _) ?_
    rw[d0c,show OJ (.lst (st.doms.map AG)) (K9 st.doms)=true from(CF _ _).mpr rfl]
    rw[ea]
    exact again p' hs st' (m+3) _ (some (.int y)) (some (.str sg.str)) _ ea L0b.keptTo f0a (by exact AA [_] [] [] (.l (.p Aa An) (.p Aa An)) rfl) (by exact AA [_] [] [] (.l Aa (.p Aa Ae)) rfl)
   ·have e8:(((st.trail.length,st.doms)::hs).map (·.2)).reverse=(hs.map (·.2)).reverse++[st.doms]:=by simp
    exact again p ((st.trail.length,st.doms)::hs) _ (m+3) H0h (some (.int y)) (some (.str sg.str)) _ rfl (e8▸L0d) c (by exact AA [_] [] [] (.l (.p Aa An) (.p Aa An)) rfl) (by simp)
end
section
variable {B:Base} {cS cC cI:Addr} {n nv:Nat} {H H' H0c:KH} {K:D->KH->Prop} {p:Dn} {st:St} {C x dx:Addr} {mP:List (Str×D)}
variable {t lk:Addr} {v0:Nat->List Int} {F:List Bb} {hs:List (Nat×List Bb)} {ks:List (List Bb)} {m:Nat}
theorem Tx(k:Nat)(ks:List (List Bb)):Bz (k+3) (ks.map K9)=true:=by
 induction ks with
 |nil=>rfl
 |cons d ks ih=>show(Bz (k+2) (d.map AG)&&Bz (k+3) (ks.map K9))=true;rw[ih,Dx];rfl
theorem av{l:Addr}{b:D}(hl:H l=some (.list ds))(h1:Bz 5 ds=true)(h2:CG AY b=true)(h:k (!OJ (.lst ds) b)):CA .NotEq (rd H (.ref l)) b k:=by
 rw[Sh hl];exact IA (a:=.lst ds) h1 h2 h
theorem RS(P:AS B cS cC cI)(hF:[]∉F)(n50:nv<=50){a0 a2 a3 a5 a6 a7 a8 a9 a11 a12 a13:Option D}:∀(hs:List (Nat×List Bb)) (p:Dn) (st:St) (m:Nat) (H:KH) (KK:KS),
  LI cS C x dx t lk mP nv v0 F p hs (hs.map (·.2)).reverse st m H->st.failed=false ->
  (∀p' st' H',p'.a=p.a->LI cS C x dx t lk mP nv v0 F p' [] [] st' m H'->KK .next (dz a0 (some (.ref t)) a2 a3 (some (.ref p.a)) a5 a6 a7 a8 a9 (some (.ref lk)) a11 a12 a13) H') ->
  Cw (Cr B (n+8) PH) (AQ B (n+8) PJ) (hs.length+1) (dz a0 (some (.ref t)) a2 a3 (some (.ref p.a)) a5 a6 a7 a8 a9 (some (.ref lk)) a11 a12 a13) H KK
 |[],p,st,m,H,KK,L,hf,hk=>by
  refine av (b:=.lst []) L.kept (Tx 2 _) rfl ?_
  rw[DN]
  exact hk p st H rfl L
 |(q,k)::hs,p,st,m,H,KK,L,hf,hk=>by
  have er:(((q,k)::hs).map (·.2)).reverse=(hs.map (·.2)).reverse++[k]:=by simp
  rw[er] at L
  refine av (b:=.lst []) L.kept (Tx 2 _) rfl ?_
  rw[DN]
  have e0:(!decide (((hs.map (·.2)).reverse++[k]).isEmpty=true))=true:=by simp
  show if(!decide (((hs.map (·.2)).reverse++[k]).isEmpty=true))=true then _ else _
  rw[if_pos e0]
  refine Bf L.S rfl P.j6 ?_
  show AJ B (n+8) cS "pop" [.ref p.a,.int 1] H _
  refine Su P L hF λp' st' H0i ea L0b f0a d0c=>?_
  rw[←ea]
  refine Bf L0b.S rfl P.jr ?_
  show AJ B (n+8) cS "size" [.ref p'.a] H0i _
  refine Ig P L0b.S ?_
  have I0a:=L0b.g.inv n50
  have hn8:=I0a.n
  refine⟨by unfold BA;exact⟨AA [_] [] [] (.L (.g Ap) Ag) rfl,AA [_] [] [.l Aa A0] (.L Ag Ap) rfl hn8⟩,?_⟩
  rw[Bs]
  intro a ha
  refine QR (n:=n+7) P L0b.S hn8 ha (λi acc K' h=>h) λe1 e2=>⟨e1,?_⟩
  rw[if_pos rfl,←e2]
  refine Sw L0b.kept ?_
  refine IA (a:=.lst (st'.doms.map AG)) (b:=K9 k) (Dx 3 _) (Dx 3 _) ?_
  rw[d0c,show OJ (.lst (k.map AG)) (K9 k)=true from(CF _ _).mpr rfl]
  exact RS P hF n50 hs p' st' m _ KK L0b.keptTo f0a λp'' st'' H'' eb L''=>by
   have:=hk p'' st'' H'' (eb.trans ea) L''
   rw[←ea] at this
   exact this
theorem aw(P:AS B cS cC cI){prop:M}{A:BK}{way:Int}{zs:List Int}{a0:Option D}(V:Cm sc st)(G:iJ B cS C x dx mP st.doms.length (λy=>vals (st.dom y)) prop sc A)
  (S:AB cS p st H) (Q:BJ C x dx mP H) (hx:x∉p.all) (hdx:dx∉p.all) (htp:t∉p.all) (T:CH t m H) (hm:m<=900)
  (htold:∀{H0a:KH} {m:Nat} {K0a:D->KH->Prop},BJ C x dx mP H0a->CH t m H0a->m<=940->(∀H',K0a (.bool true) H')->AH B (n+8) "_law_told_right" [.ref t,.int way,.tup (AC zs),.ref x,.lst (sc.map AE)] H0a K0a)
  (k:∀H',K (.bool true) H') :
  AQ B (n+8) QF.tail.tail (dz a0 (some (.ref t)) (some (.int way)) (some (.tup (AC zs))) (some (.ref p.a)) (some (.ref x)) (some (.lst (sc.map AE))) (some (.lst (A.map AM))) none none none none none none) H (BI K):=by
 have I:=V.inv G.s2
 have hn:=I.n
 have g0:J3 st.doms.length (λy=>vals (st.dom y)) st.trail st.doms:=⟨rfl,V.ok,I.z,λe he=>(by rw[V.trail] at he;cases he),λ_ _ h=>h⟩
 have hF:[]∉st.doms:=λh=>(V.ok _ h).ne rfl
 refine Bf S rfl P.jr ?_
 show AJ B (n+8) cS "size" [.ref p.a] H _
 refine Ig P S ?_
 refine⟨by unfold BA;exact⟨AA [_] [] [] (.L (.g Ap) Ag) rfl,AA [_] [] [.l Aa A0] (.L Ag Ap) rfl hn⟩,?_⟩
 rw[Bs]
 intro a ha
 refine QR (n:=n+7) P S hn ha (λi acc K' h=>h) λe1 e2=>⟨e1,?_⟩
 rw[if_pos rfl,←e2]
 show AH B (n+8) "_law_asked_right" [.ref p.a,.ref x,.lst (sc.map AE),.lst (A.map AM)] H _
 have s2:=G.s2
 refine Tr P S Q hx hdx I (λd hd=>(V.ok d hd).small) G.as V.lt (by exact AA [_] [] [.l Aa Aw] (.u Aa Av) rfl s2) G.al G.an (G.ok st g0 V.failed) λH0a S0b O0b=>?_
 have k0a:=G.as.keep I rfl
 have T0a:=T.off O0b htp
 have Q0a:=Q.off O0b hx hdx
 refine AX (v:=.bool (prop st).2.failed) S0b P.jq rfl ?_
 refine J4 (λc=>?_) λc=>?_
 ·show AH B (n+8) "_law_told_right" [.ref t,.int way,.tup (AC zs),.ref x,.lst (sc.map AE)] H0a _
  exact htold Q0a T0a (by exact AA [_] [] [.l Aa A1] (.l Aa Ba) rfl hm) k
 intro lk hlk
 have htk:lk≠t:=λe=>T0a.ne (e▸hlk)
 have L:LI cS C x dx t lk mP st.doms.length (λy=>vals (st.dom y)) st.doms p [] [] (prop st).2 m (H0a.set lk (.list [])) :=
  ⟨S0b.set (S0b.fresh hlk),g0.keep k0a,trivial,k0a.marks.trans V.marks,k0a.firsts.trans V.same,Q0a.set hlk,hx,hdx,htp,T0a.set hlk,S0b.fresh hlk,KH.set_self ..,htk⟩
 refine⟨by unfold BA;exact⟨AA [] [] [] (.L (.g Ap) Az) rfl,AA [] [] [] (.L Az Ap) rfl⟩,?_⟩
 show Bm (AQ B (n+8) JB) (.v 11) (Internal.upto 0 (3:Nat)) _ _ _
 rw[Bs]
 refine XA P G hF (List.range 3) p [] (prop st).2 m _ none none none none _ L c (by simp;exact AA [_] [] [.l Aa A1] (.l Aa (.n 931)) rfl hm) (by simp) λp' hs' st' m' H' a8 a11 a12 a13 ea L' f' hm' hh'=>?_
 rw[←ea]
 refine⟨hs'.length+1,?_⟩
 refine RS P hF G.n50 hs' p' st' m' H' _ L' f' λp'' st'' H'' eb L''=>?_
 rw[←eb]
 refine Bf L''.S rfl P.jr ?_
 show AJ B (n+8) cS "size" [.ref p''.a] H'' _
 refine Ig P L''.S ?_
 have hlen:=L''.g.len
 refine⟨by unfold BA;exact⟨AA [_] [] [] (.L (.g Ap) Ag) rfl,AA [_,_] [] [.e Aa Ab,.l Ab A0] (.L Ag Ap) rfl hlen hn⟩,?_⟩
 rw[Bs,hlen]
 intro a ha
 refine BX (xs:=List.range st.doms.length) (λ(i:Nat)=>D.int i) (λi=>none) ha (by simp;exact AA [_] [] [.l Aa A0] (.u Aa Ao) rfl hn) (λi hi acc K' h=>?_) λe1 e2=>⟨e1,?_⟩
 ·have hi:=List.mem_range.mp hi
  have S0a:AB cS p'' st'' (H''.set a (.list acc)):=L''.S.set (L''.S.fresh ha)
  refine Bf S0a rfl P.kU ?_
  show AJ B (n+8) cS "initial" [.ref p''.a,.int i] _ _
  have hfi:st''.firsts[i]? = some (st.dom i):=by rw[L''.firsts];exact C8 hi
  refine Um P S0a hfi ?_
  refine Cx (d:=.lst (st.doms.map AG)) rfl (C8 hi) ?_
  refine IA (a:=AG (st.dom i)) (b:=AG (st.dom i)) (FT 4 _) (FT 4 _) ?_
  rw[(CF _ _).mpr rfl]
  exact h
 rw[if_pos rfl,←e2]
 have e0:(List.range st.doms.length).filterMap (λ_=>(none:Option D))=[]:=List.filterMap_eq_nil_iff.mpr λ_ _=>rfl
 rw[e0]
 refine IA (a:=.lst []) (b:=.lst []) rfl rfl ?_
 rw[(CF _ _).mpr rfl]
 refine Bf L''.S rfl P.lJ ?_
 show AJ B (n+8) cS "depth" [.ref p''.a] H'' _
 refine Z4 P L''.S ?_
 refine DI ?_
 rw[L''.marks]
 show AH B (n+8) "_law_told_right" [.ref t,.int way,.tup (AC zs),.ref x,.lst (sc.map AE)] H'' _
 exact htold L''.Q L''.T hm' k
end
section
variable {B:Base} {cS cC cI:Addr} {n nv:Nat} {H H' H0c:KH} {K:D->KH->Prop} {p:Dn} {st:St} {C x dx:Addr} {mP:List (Str×D)}
theorem RT(I:B3 st):AI st (reach sc st).2:=by
 unfold reach
 split
 ·exact AI.refl I
 ·exact Nt I
theorem MJ(hs:∀y∈sc,y<st.doms.length)(I:B3 st)(R:Bx sc sc.length st):AI st (Bp (part sc) (ED sc) st).2:=by
 have k1:=Fa hs st I rfl
 unfold Bp
 split
 ·exact k1.trans (Im (λy hy=>by rw[k1.len];exact hs y hy) _ k1.inv rfl (R.keep k1))
 ·exact k1
theorem MK(hs:∀y∈sc,y<st.doms.length)(I:B3 st):AI st (Ce sc st).2:=by
 unfold Ce
 split
 ·exact AI.refl I
 have k1:=Bv (n:=st.doms.length) (f:=AT sc.length) (xs:=sc) (λz hz=>BR (hs z hz)) st I rfl
 unfold Bp
 split
 ·rename_i c
  have R:=Br I hs c
  have k2:=DR (pass:=Bp (part sc) (ED sc)) (λst2 k0b=>MJ (λy hy=>by rw[k0b.len,k1.len];exact hs y hy) k0b.inv (R.keep k0b)) 2000 _ (AI.refl k1.inv)
  refine k1.trans ?_
  show AI _ (if(FV (Bp (part sc) (ED sc)) 2000 _).1=true then _ else _:Bool×St).2
  split
  ·exact k2.trans (RT k2.inv)
  ·exact k2
 ·exact k1
theorem ML{fs gs:List Nat}(hf:∀y∈fs,y<st.doms.length)(hg:∀y∈gs,y<st.doms.length)(I:B3 st)(R1:Bx fs gs.length st)(R2:Bx gs fs.length st):AI st (Bp (turn fs gs) (turn gs fs) st).2:=by
 have t1:=D1 hf hg I R1
 unfold Bp
 split
 ·exact t1.trans (D1 (λy hy=>by rw[t1.len];exact hg y hy) (λy hy=>by rw[t1.len];exact hf y hy) t1.inv (R2.keep t1))
 ·exact t1
theorem N5{fs gs:List Nat}(hf:∀y∈fs,y<st.doms.length)(hg:∀y∈gs,y<st.doms.length)(I:B3 st):AI st (Ek fs gs st).2:=by
 unfold Ek
 split
 ·exact AI.refl I
 have k1:=Bv (n:=st.doms.length) (f:=AT gs.length) (xs:=fs) (λz hz=>BR (hf z hz)) st I rfl
 have hg':∀y∈gs,y<(Bg (AT gs.length) fs st).2.doms.length:=λy hy=>by rw[k1.len];exact hg y hy
 have k2:=Bv (n:=(Bg (AT gs.length) fs st).2.doms.length) (f:=AT fs.length) (xs:=gs) (λz hz=>BR (hg' z hz)) _ k1.inv rfl
 have kb:AI st (Bp (Bg (AT gs.length) fs) (Bg (AT fs.length) gs) st).2:=by
  unfold Bp
  split
  ·exact k1.trans k2
  ·exact k1
 show AI st (if(Bp (Bg (AT gs.length) fs) (Bg (AT fs.length) gs) st).1=true then _ else _:Bool×St).2
 split
 ·rename_i c
  refine OK (Eu c) λc1 c2 c3=>?_
  have R1:=(Br I hf c1).keep k2
  have R2:=Br k1.inv hg' c2
  rw[c3] at kb ⊢
  exact kb.trans (DR (pass:=Bp (turn fs gs) (turn gs fs)) (λst3 k0c=>ML (λy hy=>by rw[k0c.len,kb.len];exact hf y hy) (λy hy=>by rw[k0c.len,kb.len];exact hg y hy) k0c.inv (R1.keep k0c) (R2.keep k0c)) 2000 _ (AI.refl kb.inv))
 ·exact kb
theorem Sx(P:AS B cS cC cI)(hs:∀y∈sc,y<nv)(h1:1<=sc.length)(h2:sc.length<100):Tz B cS cC x dx (Cj sc) (Ce sc) nv :=
 ⟨P.kG,rfl,λS Q hx hdx I e k=>aC P S Q hx hdx I (by rw[e];exact hs) h1 h2 k,λI e=>MK (by rw[e];exact hs) I⟩
theorem U0(P:AS B cS cC cI){fs gs:List Nat}(hf:∀y∈fs,y<nv)(hg:∀y∈gs,y<nv):Tz B cS cI x dx (HE fs gs) (Ek fs gs) nv :=
 ⟨P.kF,rfl,λS Q hx hdx I e k=>df P S Q hx hdx I (by rw[e];exact hf) (by rw[e];exact hg) k,λI e=>N5 (by rw[e];exact hf) (by rw[e];exact hg) I⟩
theorem LA(Q:BJ C x dx mP H)(T:CH t m H):x≠t/\dx≠t:=by
 refine M5 T.at' λ_ _ e _=>?_
 exact⟨(by rintro rfl;rw[Q.hx] at e;cases e),(by rintro rfl;rw[Q.hd] at e;cases e)⟩
theorem aH(P:AS B cS cC cI){q:Nat}(h1:1<=q)(h2:q<=4)(hsc:sc.length=q)(TC:∀vs:List Int,vs.length=q->(∀v∈vs,0<=v/\v<=5)->Gn vs=decide (vs∈Bk q))
  (Q:BJ cC x dx (Cj sc) H) (T:CH t m H) (hm:m<=940) (k:∀H',K (.bool true) H'):AH B (n+6) "_law_told_right" [.ref t,.int 0,.tup (AC [(q:Int)]),.ref x,.lst (sc.map AE)] H K:=by
 refine Ed P ?_
 refine DI ?_
 refine B5 (d:=.lst (sc.map AE)) rfl ?_
 refine Ea (LA Q T) λn1 n2=>?_
 refine W9 P (way:=0) (zs:=[(q:Int)]) (rows:=Bk q) (due:=.tup [.str "circuit",.tup (sc.map AE)]) Q T (by exact AA [_] [] [.l Aa Ba] (.l Aa (.n 950)) rfl hm) n1 n2 (by exact AA [_,_] [] [.e Aa Ab,.l Ab As] (.l Aa Aw) rfl hsc h2) (by simp) (λv hv=>by rw[List.mem_singleton.mp hv];exact⟨AA [_] [] [] (.L Ak Ag) rfl,AA [_] [] [.l Aa As] (.L Ag (.n 4)) rfl h2⟩) rfl rfl rfl P.lA P.ka P.jn ?_ (λA k=>Z7 P A k) (λk=>N3 (n:=n+3) P h1 h2 k) ?_ (λr hr=>?_) (λvs A e1 e2 k=>?_) k
 ·show(CG 5 (.str "circuit")&&(Bz 4 (sc.map AE)&&true))=true
  rw[Fu]
  decide +kernel
 ·have t1:=C2 h2
  have:=List.length_filter_le Lq (Cf q q)
  unfold Bk;exact AA [_,_] [] [.l Aa Ab,.l Ab A5] (.u Aa Aj) rfl this t1
 ·rw[hsc]
  exact⟨Eo h2 r hr,λv hv=>by have:=N1 q r (List.mem_filter.mp hr).1 v hv;exact⟨AA [] [_] [.L Ah Ac] (.L Ak Ac) rfl this.1,AA [_] [_] [.L Ac Ag,.l Aa As] (.L Ac (.n 5)) rfl this.2 h2⟩⟩
 ·rw[hsc] at e1
  refine W3 P (by exact AA [_,_] [] [.e Aa Ab,.l Ab As] (.u Aa Aj) rfl e1 h2) ?_
  rw[TC vs e1 e2];exact k
theorem aI{fr:Bool}{i:Int}(h0:0<=i)(h:ND fr (ds.take i.toNat) H K):Pc fr (.lst ds) (.int i) H K:=.list rfl (Int.toNat_of_nonneg h0▸rfl) h
theorem aJ{i:Int}(h0:0<=i)(h:K (.lst (ds.drop i.toNat)) H):Rj (.lst ds) (.int i) H K:=.list rfl (Int.toNat_of_nonneg h0▸rfl) h
theorem Sy:∀q∈[1,2,3],∀r∈BM q q,∀v∈r,(0:Int)<=v/\v<=5:=by decide +kernel
theorem aK(P:AS B cS cC cI){q mm:Nat}(h1:1<=q)(h2:q<=3)(h3:1<=mm)(h4:mm<=3)(hsc:sc.length=q+mm)(TI:∀vs:List Int,vs.length=q+mm->(∀v∈vs,0<=v/\v<=5)->(Go q vs↔vs∈BM q mm))
  (Q:BJ cI x dx (HE (sc.take q) (sc.drop q)) H) (T:CH t m H) (hm:m<=940) (k:∀H',K (.bool true) H'):AH B (n+6) "_law_told_right" [.ref t,.int 1,.tup (AC [(q:Int),(mm:Int)]),.ref x,.lst (sc.map AE)] H K:=by
 refine Ed P ?_
 refine DI ?_
 refine AP (d:=.tup (AC [(q:Int),(mm:Int)])) (e:=.int q) rfl rfl ?_
 refine aI (by exact AA [] [_] [.L Ak Ac] (.L Ak Ac) rfl (Int.natCast_nonneg _)) ?_
 refine B5 (d:=.lst _) rfl ?_
 refine AP (d:=.tup (AC [(q:Int),(mm:Int)])) (e:=.int q) rfl rfl ?_
 refine aJ (by exact AA [] [_] [.L Ak Ac] (.L Ak Ac) rfl (Int.natCast_nonneg _)) ?_
 refine B5 (d:=.lst _) rfl ?_
 rw[Int.toNat_natCast,←List.map_take,←List.map_drop]
 refine Ea (LA Q T) λn1 n2=>?_
 have lt:(sc.take q).length=q:=by rw[List.length_take];exact M4 (AA [_,_] [] [.l Aa Ab] (.l Aa Ab) rfl (Nat.min_le_left _ _)) ((Nat.le_total _ _).elim (λmH=>AA [_,_] [] [.r Aa Ab] (.l Ab Aa) rfl (Nat.min_eq_left mH)) (λmH=>AA [_,_,_,_] [] [.r Af (.p Ab Aq),.r Aa Af] (.l Ab Aa) rfl hsc (Nat.min_eq_right mH)))
 have ld:(sc.drop q).length=mm:=by rw[List.length_drop];exact M4 (AA [_,_,_,_] [] [.e Ab (.p Af Aq),.e (.p Aa Af) Ab] (.l Aa Aq) rfl hsc (IC (AA [_,_,_] [] [.r Aa (.p Ab Af)] (.l Ab Aa) rfl hsc))) (AA [_,_,_,_] [] [.r Ab (.p Af Aq),.l Ab (.p Aa Af)] (.l Aq Aa) rfl hsc (J7 _ _))
 refine W9 P (way:=1) (zs:=[(q:Int),(mm:Int)]) (rows:=BM q mm) (due:=.tup [.str "inverse",.tup ((sc.take q).map AE),.tup ((sc.drop q).map AE)]) Q T (by exact AA [_] [] [.l Aa Ba] (.l Aa (.n 950)) rfl hm) n1 n2 (by exact AA [_,_,_] [] [.e Aa (.p Ab Af),.l Ab An,.l Af An] (.l Aa Aw) rfl hsc h2 h4) (by simp) (λv hv=>?_) rfl rfl ?_ P.ku P.kh P.kW ?_ (λA k=>Z8 P A k) (λk=>N4 (n:=n+3) P (by exact AA [_] [] [.l Aa An] (.l Aa As) rfl h2) (PX q (by simp;exact Decidable.byContradiction λmL=>(Nat.lt_or_gt_of_ne (not_or.mp (not_or.mp mL).2).1).elim (λmH=>(Nat.lt_or_gt_of_ne (not_or.mp mL).1).elim (λmI=>AA [_] [] [.l Ae Aa,.u Aa Ae] .f rfl h1 mI) (λmI=>AA [_] [] [.u Ae Aa,.u Aa Ar] .f rfl mI mH)) (λmH=>(Nat.lt_or_gt_of_ne (not_or.mp (not_or.mp mL).2).2).elim (λmI=>AA [_] [] [.u Ar Aa,.u Aa An] .f rfl mH mI) (λmI=>AA [_] [] [.u An Aa,.l Aa An] .f rfl mI h2)))) k) ?_ (λr hr=>?_) (λvs A e1 e2 k=>?_) k
 ·simp only[List.mem_cons,List.not_mem_nil,or_false] at hv
  exact⟨hv.elim (λmH=>AA [_] [_] [.R Ac Ag] (.L Ak Ac) rfl mH) (λmH=>AA [_] [_] [.R Ac Ag] (.L Ak Ac) rfl mH),hv.elim (λmH=>AA [_] [_] [.E Ac Ag,.l Aa An] (.L Ac (.n 4)) rfl mH h2) (λmH=>AA [_] [_] [.E Ac Ag,.l Aa An] (.L Ac (.n 4)) rfl mH h4)⟩
 ·show some (D.tup ((sc.take q++sc.drop q).map AE))=_
  rw[List.take_append_drop]
 ·show(CG 5 (.str "inverse")&&(Bz 4 ((sc.take q).map AE)&&(Bz 4 ((sc.drop q).map AE)&&true)))=true
  rw[Fu,Fu]
  decide +kernel
 ·have:=C2 (q:=q) (by exact AA [_] [] [.l Aa An] (.l Aa As) rfl h2)
  unfold BM
  split
  ·rw[List.length_map];exact AA [_] [] [.l Aa A5] (.u Aa Aj) rfl this
  ·simp
 ·rw[hsc]
  refine⟨Fv r hr,?_⟩
  have hq:q=mm:=by
   unfold BM at hr
   split at hr
   ·assumption
   ·cases hr
  subst hq
  exact Sy q (by simp;exact Decidable.byContradiction λmL=>(Nat.lt_or_gt_of_ne (not_or.mp (not_or.mp mL).2).1).elim (λmH=>(Nat.lt_or_gt_of_ne (not_or.mp mL).1).elim (λmI=>AA [_] [] [.l Ae Aa,.u Aa Ae] .f rfl h1 mI) (λmI=>AA [_] [] [.u Ae Aa,.u Aa Ar] .f rfl mI mH)) (λmH=>(Nat.lt_or_gt_of_ne (not_or.mp (not_or.mp mL).2).2).elim (λmI=>AA [_] [] [.u Ar Aa,.u Aa An] .f rfl mH mI) (λmI=>AA [_] [] [.u An Aa,.l Aa An] .f rfl mI h2))) r hr
 ·rw[hsc] at e1
  refine W5 P A (by exact AA [_,_] [] [.l Ae Ab,.r Aa Ab] (.l Ae Aa) rfl h1 lt) (by exact AA [_,_] [] [.e Aa Ab,.l Ab An] (.l Aa An) rfl lt h2) (by exact AA [_,_] [] [.l Ae Ab,.r Aa Ab] (.l Ae Aa) rfl h3 ld) (by exact AA [_,_] [] [.e Aa Ab,.l Ab An] (.l Aa An) rfl ld h4) (by exact Nat.le_antisymm (AA [_,_,_,_,_] [] [.e Aa (.p Aq A2),.r Ab Aq,.r Af A2] (.l Aa (.p Ab Af)) rfl e1 lt ld) (AA [_,_,_,_,_] [] [.e Ab Aq,.e Af A2,.r Aa (.p Aq A2)] (.l (.p Ab Af) Aa) rfl lt ld e1)) ?_ k
  rw[decide_eq_true_iff,lt]
  exact(TI vs e1 e2).symm
theorem hV(P:AS B cS cC cI)
  (PC:∀(q:Nat) (sc:List Nat) (st:St),2<=q->q<=4->sc.length=q->Cm sc st->∀st':St,J3 st.doms.length (λy=>vals (st.dom y)) st'.trail st'.doms->st'.failed=false->LN (Ce sc) sc ((Bk q).filter (C4 sc (AN st))) st')
  (PI:∀(q m:Nat) (sc:List Nat) (st:St),1<=q->q<=3->(m=q\/m+q=4)->1<=m->m<=3->sc.length=q+m->Cm sc st->∀st':St,J3 st.doms.length (λy=>vals (st.dom y)) st'.trail st'.doms->st'.failed=false->LN (Ek (sc.take q) (sc.drop q)) sc ((BM q m).filter (C4 sc (AN st))) st')
  (TC:∀(q:Nat),2<=q->q<=4->∀vs:List Int,vs.length=q->(∀v∈vs,0<=v/\v<=5)->Gn vs=decide (vs∈Bk q))
  (TI:∀(q m:Nat),1<=q->q<=3->(m=q\/m+q=4)->∀vs:List Int,vs.length=q+m->(∀v∈vs,0<=v/\v<=5)->(Go q vs↔vs∈BM q m))
  {a:Addr} (ha:nsIn B.K mainGlobals "law"=some (some (.ref a))) {ns:List Int} (hz:ns.length<=63):IQ B (n+9) (.ref a) [.lst (AC ns)] H λd _=>d= .bool true:=by
 refine(P.mA a ha).callC rfl ?_
 show AH B (n+8) "_law_tape" [.lst (AC ns)] H _
 refine dh P hz λt A ht T=>?_
 show AH B (n+8) "_law_made" [.ref t] _ _
 refine dj (n:=n+2) P T (λq p x dx sc st H' m h1 h2 hsc V S Q hx hdx htp T' hm=>?_) λq mm p x dx sc st H' m h1 h2 h3 h4 h5 hsc V S Q hx hdx htp T' hm=>?_
 ·refine aw (n:=n) P (prop:=Ce sc) (way:=0) (zs:=[(q:Int)]) V ⟨Sx P V.lt (by exact AA [_,_] [] [.l Ar Ab,.r Aa Ab] (.l Ae Aa) rfl h1 hsc) (by exact AA [_,_] [] [.e Aa Ab,.l Ab As] (.u Aa Av) rfl hsc h2),PC q sc st h1 h2 hsc V,(V.inv (by exact AA [_,_] [] [.e Aa Ab,.l Ab As] (.l Aa Aw) rfl hsc h2)).n,V.lt,by exact AA [_,_] [] [.l Ar Ab,.r Aa Ab] (.l Ae Aa) rfl h1 hsc,by exact AA [_,_] [] [.e Aa Ab,.l Ab As] (.l Aa Aw) rfl hsc h2,λr hr=>?_,?_⟩ S Q hx hdx htp T' hm (λQ T hm k=>?_) λ_=>rfl
  ·rw[Eo h2 r (List.mem_filter.mp hr).1];exact AA [_,_] [] [.e Aa Ab] (.l Aa Ab) rfl hsc
  ·have t1:=C2 h2
   have t2:=List.length_filter_le Lq (Cf q q)
   have:=List.length_filter_le (C4 sc (AN st)) (Bk q)
   unfold Bk at this ⊢
   exact AA [_,_,_] [] [.l Aa Af,.l Af Ab,.l Ab A5] (.u Aa Aj) rfl this t2 t1
  ·exact aH (n:=n+2) P (by exact AA [_] [] [.l Ar Aa] (.l Ae Aa) rfl h1) h2 hsc (TC q h1 h2) Q T hm k
 ·refine aw (n:=n) P (prop:=Ek (sc.take q) (sc.drop q)) (way:=1) (zs:=[(q:Int),(mm:Int)]) V ⟨U0 P (λy hy=>V.lt y (List.mem_of_mem_take hy)) (λy hy=>V.lt y (List.mem_of_mem_drop hy)),PI q mm sc st h1 h2 h3 h4 h5 hsc V,(V.inv (by exact AA [_,_,_] [] [.e Aa (.p Ab Af),.l Ab An,.l Af An] (.l Aa Aw) rfl hsc h2 h5)).n,V.lt,by exact AA [_,_,_] [] [.l Ae Ab,.r Aa (.p Ab Af)] (.l Ae Aa) rfl h1 hsc,by exact AA [_,_,_] [] [.e Aa (.p Ab Af),.l Ab An,.l Af An] (.l Aa Aw) rfl hsc h2 h5,λr hr=>?_,?_⟩ S Q hx hdx htp T' hm (λQ T hm k=>?_) λ_=>rfl
  ·rw[Fv r (List.mem_filter.mp hr).1];exact AA [_,_,_] [] [.e Aa (.p Ab Af)] (.l Aa (.p Ab Af)) rfl hsc
  ·have:=C2 (q:=q) (by exact AA [_] [] [.l Aa An] (.l Aa As) rfl h2)
   have h:=List.length_filter_le (C4 sc (AN st)) (BM q mm)
   have:(BM q mm).length<=256:=by
    unfold BM
    split
    ·rw[List.length_map];exact AA [_] [] [.l Aa A5] (.l Aa A5) rfl this
    ·simp
   exact AA [_,_] [] [.l Aa Ab,.l Ab A5] (.u Aa Aj) rfl h this
  ·exact aK (n:=n+2) P h1 h2 h4 h5 hsc (TI q mm h1 h2 h3) Q T hm k
end
theorem RU(l:CQ)(v:Int):says l.neg v = !says l v:=by
 obtain⟨x,s,k⟩:=l
 cases s<;>simp only[says,CQ.neg]
 ·rw[←decide_not];exact decide_eq_decide.mpr (by exact⟨λmL=>Int.not_le.mpr (AA [] [_,_] [.L (.p Ac Ah) Ad] (.U Ac Ad) rfl mL),λmL=>AA [] [_,_] [.U Ac Ad] (.L (.p Ac Ah) Ad) rfl (Int.not_le.mp mL)⟩)
 ·rw[←decide_not];exact decide_eq_decide.mpr (by exact⟨λmL=>Int.not_le.mpr (AA [] [_,_] [.L Ac (.s Ad Ah)] (.U Ac Ad) rfl mL),λmL=>AA [] [_,_] [.U Ac Ad] (.L Ac (.s Ad Ah)) rfl (Int.not_le.mp mL)⟩)
 ·rw[←decide_not];exact decide_eq_decide.mpr Iff.rfl
 ·rw[←decide_not];exact decide_eq_decide.mpr Decidable.not_not.symm
theorem XB(l:CQ):l.neg.x=l.x:=by
 obtain⟨x,s,k⟩:=l
 cases s<;>rfl
noncomputable def DB(sc:List Nat)(a:List Int)(y:Nat):Int:=a.getD (sc.idxOf y) 0
structure MT(sc:List Nat)(a:List Int):Prop where
 len:a.length=sc.length
 con:K7 sc a=true
section
variable {sc:List Nat} {a:List Int}
theorem MT.at(h:MT sc a){k:Nat}(hk:sc[k]? = some y):a.getD k 0=DB sc a y:=by
 have hlt:=(List.getElem?_eq_some_iff.mp hk).1
 have:=List.all_eq_true.mp h.con k (List.mem_range.mpr hlt)
 have e:sc.getD k 0=y:=by rw[List.getD_eq_getElem?_getD,hk];rfl
 rw[e] at this
 exact of_decide_eq_true this
theorem Sz(h:MT sc a){l:CQ}(hl:l.x∈sc):Nz sc a l=true↔says l (DB sc a l.x)=true:=by
 unfold Nz
 rw[List.all_eq_true]
 constructor
 ·intro hh
  have hi:=List.idxOf_lt_length_of_mem hl
  have hi':sc.idxOf l.x<a.length:=by rw[h.len];exact hi
  have hz:(sc[sc.idxOf l.x],a[sc.idxOf l.x])∈sc.zip a:=by
   have:(sc.zip a)[sc.idxOf l.x]'(by rw[List.length_zip];exact(Nat.le_total _ _).elim (λmH=>AA [_,_,_] [] [.u Aa Af,.r Ab Af] (.u Aa Ab) rfl hi (Nat.min_eq_left mH)) (λmH=>AA [_,_,_] [] [.u Aa Af,.r Ab Af] (.u Aa Ab) rfl hi' (Nat.min_eq_right mH)))=(sc[sc.idxOf l.x],a[sc.idxOf l.x]):=List.getElem_zip ..
   rw[←this];exact List.getElem_mem ..
  have:=hh _ hz
  have e:sc[sc.idxOf l.x]=l.x:=List.getElem_idxOf hi
  simp only[e,decide_true,Bool.not_true,Bool.false_or] at this
  unfold DB
  rw[List.getD_eq_getElem?_getD,List.getElem?_eq_getElem hi']
  exact this
 ·intro hs q hq
  obtain⟨k,hk,e⟩:=List.mem_iff_getElem.mp hq
  rw[List.getElem_zip] at e
  rw[List.length_zip] at hk
  have h1:sc[k]? = some q.1:=by rw[List.getElem?_eq_getElem (Nat.lt_of_lt_of_le hk (Nat.min_le_left _ _))];rw[←e]
  have h2:a.getD k 0=q.2:=by rw[List.getD_eq_getElem?_getD,List.getElem?_eq_getElem (by exact AA [_,_,_] [] [.u Aa Af,.l Af Ab] (.u Aa Ab) rfl hk (Nat.min_le_right _ _))];rw[←e];rfl
  have h3:=h.at h1
  by_cases c:q.1=l.x
  ·rw[h2,c] at h3
   rw[h3,hs];simp
  ·rw[decide_eq_false c];rfl
theorem Ls(h:MT sc a){ls:List CQ}(hl:∀l∈ls,l.x∈sc):keeps sc a ls=true↔∀l∈ls,says l (DB sc a l.x)=true:=by
 unfold keeps
 rw[List.all_eq_true]
 exact forall_congr' λl=>forall_congr' λhm=>Sz h (hl l hm)
theorem HK(h:MT sc a){st:St}(hs:∀y∈sc,y<st.doms.length):Bj sc (AN st) a=true↔∀y∈sc,DB sc a y∈vals (st.dom y):=by
 unfold Bj
 rw[List.all_eq_true]
 have key:∀k y,sc[k]? = some y->(decide (a.getD k 0∈(AN st).getD (sc.getD k 0) [])=true↔DB sc a y∈vals (st.dom y)):=λk y hk=>by
  have e:sc.getD k 0=y:=by rw[List.getD_eq_getElem?_getD,hk];rfl
  rw[decide_eq_true_iff,e,h.at hk,List.getD_eq_getElem?_getD,Cq (hs y (List.mem_of_getElem? hk))];rfl
 constructor
 ·intro hh y hy
  have hi:=List.idxOf_lt_length_of_mem hy
  have e:sc[sc.idxOf y]? = some y:=by rw[List.getElem?_eq_getElem hi,List.getElem_idxOf hi]
  exact(key _ y e).mp (hh _ (List.mem_range.mpr hi))
 ·intro hh k hk
  have hk:=List.mem_range.mp hk
  have e:=List.getElem?_eq_getElem hk
  exact(key k _ e).mpr (hh _ (List.getElem_mem hk))
end
theorem Ty.append{A:BK}{es fs:List Qc}{l1 l2 l3:BK}(h:Ty sc A es l1 l2)(h':Ty sc A fs l2 l3):Ty sc A (es++fs) l1 l3:=by
 induction h with
 |nil=>exact h'
 |cons a1 a2 a3 a4 a5 a6 a7 a8 a9 a10 _ ih=>exact .cons a1 a2 a3 a4 a5 a6 a7 a8 a9 a10 (ih h')
structure Ground(sc:List Nat)(A:BK)(nv:Nat):Prop where
 all:∀y,y<nv->y∈sc
 lt:∀y∈sc,y<nv
 ans:∀a∈A,MT sc a
structure Wf(nv:Nat)(st:St):Prop where
 inv:B3 st
 len:st.doms.length=nv
 small:∀d∈st.doms,MG d
theorem Wf.keep{nv:Nat}{st st':St}(w:Wf nv st)(k:AI st st'):Wf nv st' :=
 ⟨k.inv,k.len.trans w.len,λd hd=>by
  refine BG (Tw hd) λy hy mN=>?_;subst mN
  exact λv hv=>w.small _ (CY (by rw[←k.len];exact hy)) v (k.sub y v hv)⟩
def dm(sc:List Nat)(a:List Int)(st:St):Prop:=∀y∈sc,DB sc a y∈vals (st.dom y)
structure Sd(sc:List Nat)(A:BK)(st st':St):Prop where
 ents:∃es,st'.trail=st.trail++es/\Ty sc A es (AN st) (AN st')
 surv:∀a∈A,dm sc a st->dm sc a st'
 fl:st'.failed=st.failed
theorem Sd.refl{A:BK}(st:St):Sd sc A st st:=⟨⟨[],by rw[List.append_nil],.nil⟩,λ_ _ h=>h,rfl⟩
theorem Sd.trans{A:BK}{a b c:St}(x:Sd sc A a b)(y:Sd sc A b c):Sd sc A a c :=
 let ⟨e,h1,h2⟩:=x.ents;let ⟨f,h3,h4⟩:=y.ents
 ⟨⟨e++f,by rw[h3,h1,List.append_assoc],h2.append h4⟩,λr hr h=>y.surv r hr (x.surv r hr h),y.fl.trans x.fl⟩
def Holds(nv:Nat)(c:List CQ)(st:St):Prop:=∀r∈c,r.x<nv/\∀v∈vals (st.dom r.x),says r v=true
structure bA(sc:List Nat)(A:BK)(nv:Nat)(c:List CQ)(st:St):Prop where
 holds:Holds nv c st
 bars:∀a∈A,¬∀r∈c,says r (DB sc a r.x)=true
noncomputable def J5(sc:List Nat)(A:BK)(nv:Nat)(st:St)(r:Bool×St):Prop:=∃st1,Sd sc A st st1/\((r=(true,st1))\/∃c,bA sc A nv c st1/\r=(false,st1.fail c))
section
variable {sc:List Nat} {A:BK} {nv:Nat} {st:St}
theorem J5.after{sta:St}{r:Bool×St}(s:Sd sc A sta st)(o:J5 sc A nv st r):J5 sc A nv sta r:=let ⟨st1,h,q⟩:=o;⟨st1,s.trans h,q⟩
theorem Dg:J5 sc A nv st (true,st):=⟨st,Sd.refl st,.inl rfl⟩
theorem N6{c:List CQ}(h:bA sc A nv c st):J5 sc A nv st (false,st.fail c):=⟨st,Sd.refl st,.inr ⟨c,h,rfl⟩⟩
theorem J5.sd{r:Bool×St}(o:J5 sc A nv st r)(h:r.1=true):Sd sc A st r.2:=by
 refine BG o λst1 s q=>?_
 rcases q with rfl|⟨c,-,rfl⟩
 ·exact s
 ·exact Jf h
theorem dm.says{a:List Int}{r:CQ}(h:dm sc a st)(hr:r.x∈sc)(hv:∀v∈vals (st.dom r.x),says r v=true):says r (DB sc a r.x)=true:=hv _ (h _ hr)
theorem D3(g:Ground sc A nv)(w:Wf nv st){l:CQ}{rs:List CQ}(hx:l.x<nv)(h1:Holds nv rs st)(h2:∀a∈A,(∀r∈rs,says r (DB sc a r.x)=true)->says l (DB sc a l.x)=true):J5 sc A nv st (strike l rs st):=by
 have hx':l.x<st.doms.length:=by rw[w.len];exact hx
 have V:=w.inv.valid hx'
 unfold strike
 refine Ft (C:=J5 sc A nv st) w.inv hx' (λe=>?_) (λ_=>Dg) λhne I'=>?_
 ·refine N6 ⟨λr hr=>?_,λa ha hk=>?_⟩
  ·rcases List.mem_append.mp hr with hr|hr
   ·exact h1 r hr
   ·rw[List.mem_singleton.mp hr]
    refine⟨by rw[XB];exact hx,λv hv=>?_⟩
    rw[XB] at hv
    rw[RU]
    cases c:says l v with
    |false=>rfl
    |true =>
     have:=(Dz V).mpr ⟨hv,c⟩
     rw[e] at this;cases this
  ·have a1:=h2 a ha λr hr=>hk r (List.mem_append_left _ hr)
   have a2:=hk l.neg (List.mem_append_right _ (List.mem_singleton.mpr rfl))
   rw[RU,XB,a1] at a2
   cases a2
 ·refine⟨st.put ⟨l.x,st.dom l.x,l,some rs,-1⟩ (B2 l (st.dom l.x)),⟨⟨_,rfl,?_⟩,λa ha hin y hy=>?_,rfl⟩,.inl rfl⟩
  ·have hl:=Cq hx'
   refine Ty.cons (rs:=rs) rfl hl V (w.small _ (CY hx')) (by have t1:=El (CY hx');have:=w.inv.z;show(vals (st.dom l.x)).length<=1000;exact AA [_,_,_] [] [.l Aa Ab,.l (.p Af Ab) Aj] (.l Aa Aj) rfl t1 this) rfl ?_ (λr hr=>by rw[D2,w.len];exact(h1 r hr).1) (λvs hv=>?_) (λa ha hk=>?_) ?_
   ·unfold RQ
    rw[List.all_eq_true]
    intro r hr
    unfold RP
    rw[List.all_eq_true]
    have hr':r.x<st.doms.length:=by rw[w.len];exact(h1 r hr).1
    rw[List.getD_eq_getElem?_getD,Cq hr']
    exact(h1 r hr).2
   ·refine BG (List.mem_map.mp hv) λd hd mN=>?_;subst mN
    have t1:=El hd
    have:=w.inv.z
    exact AA [_,_,_] [] [.l Aa Ab,.l (.p Af Ab) Aj] (.l Aa Aj) rfl t1 this
   ·rw[Ls (g.ans a ha) λr hr=>g.all _ (h1 r hr).1] at hk
    rw[Ls (g.ans a ha) λr hr=>by rw[List.mem_singleton.mp hr];exact g.all _ hx]
    intro r hr
    rw[List.mem_singleton.mp hr]
    exact h2 a ha hk
   ·have e:(AN st).set l.x ((vals (st.dom l.x)).filter (says l))=AN (st.put ⟨l.x,st.dom l.x,l,some rs,-1⟩ (B2 l (st.dom l.x))):=by
     unfold AN
     show _=(st.doms.set l.x _).map vals
     rw[List.map_set,MB V]
    show Ty sc A [] ((AN st).set l.x ((vals (st.dom l.x)).filter (says l))) _
    rw[e]
    exact .nil
  ·rw[QM hx']
   split
   ·rename_i e
    rw[Dz V]
    have e':l.x=y:=e
    subst e'
    exact⟨hin _ hy,h2 a ha λr hr=>hin.says (g.all _ (h1 r hr).1) (h1 r hr).2⟩
   ·exact hin y hy
theorem Fw{f g:M}(hf:J5 sc A nv st (f st))(hg:(f st).1=true->J5 sc A nv (f st).2 (g (f st).2)):J5 sc A nv st (Bp f g st):=by
 unfold Bp
 split
 ·rename_i c
  exact(hg c).after (hf.sd c)
 ·rename_i c
  refine BG hf λst1 s q=>?_
  rcases q with e|⟨cl,h,e⟩
  ·rw[e] at c;exact absurd rfl c
  ·rw[e];exact⟨st1,s,.inr ⟨cl,h,rfl⟩⟩
theorem Ep{α:Type}{f:α->M}{sta:St}:∀{xs:List α} {st:St},AI sta st->(∀a∈xs,∀st,AI sta st->AI st (f a st).2)->(∀a∈xs,∀st,AI sta st->J5 sc A nv st (f a st))->J5 sc A nv st (Bg f xs st)
 |[],st,_,_,_=>Dg
 |a::xs,st,k,hk,ho=>by
  have o:=ho a (List.mem_cons_self ..) st k
  have k1:=hk a (List.mem_cons_self ..) st k
  unfold Bg
  split
  ·rename_i c
   exact(Ep (k.trans k1) (λb hb=>hk b (List.mem_cons_of_mem _ hb)) λb hb=>ho b (List.mem_cons_of_mem _ hb)).after (o.sd c)
  ·rename_i c
   refine BG o λst1 s q=>?_
   rcases q with e|⟨cl,h,e⟩
   ·rw[e] at c;exact absurd rfl c
   ·rw[e];exact⟨st1,s,.inr ⟨cl,h,rfl⟩⟩
theorem QS{f:M}{sta:St}(hk:∀st,AI sta st->AI st (f st).2)(ho:∀st,AI sta st->J5 sc A nv st (f st)):∀(m:Nat) (st:St),AI sta st->J5 sc A nv st (FV f m st)
 |0,st,k=>Dg
 |m+1,st,k=>by
  have o:=ho st k
  unfold FV
  split
  ·rename_i c
   split
   ·exact⟨_,o.sd c,.inl rfl⟩
   ·exact(QS hk ho m _ (k.trans (hk st k))).after (o.sd c)
  ·rename_i c
   refine BG o λst1 s q=>?_
   rcases q with e|⟨cl,h,e⟩
   ·rw[e] at c;exact absurd rfl c
   ·rw[e];exact⟨st1,s,.inr ⟨cl,h,rfl⟩⟩
end
structure EH(f:M):Prop where
 grow:∀st,st.trail.length<=(f st).2.trail.length
 still:∀st,(f st).1=true->(f st).2.trail.length=st.trail.length->(f st).2=st
theorem Fx{l:CQ}{rs:List CQ}:EH (strike l rs):=by
 refine⟨λst=>?_,λst h1 h2=>?_⟩
 ·unfold strike enter
  split
  ·exact Nat.le_refl _
  ·split
   ·exact Nat.le_refl _
   ·show _<=(st.trail++[_]).length;rw[List.length_append];exact AA [_,_] [] [] (.l Aa (.p Aa Ab)) rfl
 ·unfold strike enter at h1 h2 ⊢
  split at h1
  ·exact Jf h1
  ·rename_i c
   rw[if_neg c] at h2 ⊢
   split
   ·rfl
   ·rename_i c2
    rw[if_neg c2] at h2
    have:(st.trail++[(⟨l.x,st.dom l.x,l,some rs,-1⟩:Qc)]).length=st.trail.length:=h2
    rw[List.length_append,List.length_singleton] at this
    exact(AA [_] [] [.e (.p Aa Ae) Aa] .f rfl this).elim
theorem Ew:EH λst=>(true,st):=⟨λst=>Nat.le_refl _,λst _ _=>rfl⟩
theorem Gp{p:St->Prop}[∀st,Decidable (p st)]{f g:M}(hf:EH f)(hg:EH g):EH λst=>if p st then f st else g st:=by
 refine⟨λst=>?_,λst h1 h2=>?_⟩
 ·split
  ·exact hf.grow st
  ·exact hg.grow st
 ·split
  ·rename_i c;rw[if_pos c] at h1 h2;exact hf.still st h1 h2
  ·rename_i c;rw[if_neg c] at h1 h2;exact hg.still st h1 h2
theorem N7{α:Type}{f:α->M}(g:St->α)(h:∀a,EH (f a)):EH λst=>f (g st) st:=⟨λst=>(h _).grow st,λst=>(h _).still st⟩
theorem U1{c:St->List CQ}:EH λst=>(false,st.fail (c st)):=⟨λst=>Nat.le_refl _,λst h _=>by exact Jf h⟩
theorem Iq{f g:M}(hf:EH f)(hg:EH g):EH (Bp f g):=by
 refine⟨λst=>?_,λst h1 h2=>?_⟩
 ·unfold Bp
  split
  ·exact Nat.le_trans (hf.grow st) (hg.grow _)
  ·exact hf.grow st
 ·unfold Bp at h1 h2 ⊢
  split at h1
  ·rename_i c
   rw[if_pos c] at h2 ⊢
   have a:=hf.grow st
   have b:=hg.grow (f st).2
   have e:=hf.still st c (by exact Nat.le_antisymm (AA [_,_,_] [] [.l Aa Af,.e Af Ab] (.l Aa Ab) rfl b h2) (AA [_,_] [] [.l Ab Aa] (.l Ab Aa) rfl a))
   have e2:=hg.still _ h1 (by exact Nat.le_antisymm (AA [_,_,_] [] [.e Aa Af,.l Af Ab] (.l Aa Ab) rfl h2 a) (AA [_,_] [] [.l Ab Aa] (.l Ab Aa) rfl b))
   rw[e2,e]
  ·exact Jf h1
theorem JH{f g:M}{st:St}(hf:EH f)(hg:EH g)(h:Bp f g st=(true,st)):f st=(true,st)/\g st=(true,st):=by
 unfold Bp at h
 split at h
 ·rename_i c
  have a:=hf.grow st
  have b:(f st).2.trail.length<=st.trail.length:=by have b:=hg.grow (f st).2;rw[h] at b;exact b
  have e:=hf.still st c (by exact Nat.le_antisymm (AA [_,_] [] [.l Aa Ab] (.l Aa Ab) rfl b) (AA [_,_] [] [.l Ab Aa] (.l Ab Aa) rfl a))
  have ef:f st=(true,st):=Prod.ext c e
  exact⟨ef,by rw[e] at h;exact h⟩
 ·have:=congrArg Prod.fst h;exact Jf this
theorem Dh{α:Type}{f:α->M}(h:∀a,EH (f a)):∀xs:List α,EH (Bg f xs)
 |[]=>Ew
 |a::xs=>Iq (h a) (Dh h xs)
theorem Ey{α:Type}{f:α->M}{st:St}(h:∀a,EH (f a)):∀{xs:List α},Bg f xs st=(true,st)->∀a∈xs,f a st=(true,st)
 |[],_,a,ha=>by cases ha
 |b::xs,e,a,ha=>by
  refine Ea (JH (h b) (Dh h xs) e) λe1 e2=>?_
  rcases List.mem_cons.mp ha with rfl|ha
  ·exact e1
  ·exact Ey h e2 a ha
theorem JI{α:Type}{f:α->M}{st:St}:∀{xs:List α},(∀a∈xs,f a st=(true,st))->Bg f xs st=(true,st)
 |[],_=>rfl
 |a::xs,h=>by
  unfold Bg
  rw[h a (List.mem_cons_self ..)]
  exact JI λb hb=>h b (List.mem_cons_of_mem _ hb)
theorem Gq{f g:M}{st:St}(h1:f st=(true,st))(h2:g st=(true,st)):Bp f g st=(true,st):=by
 unfold Bp;rw[h1];exact h2
theorem Lu{f:M}{sta:St}(hc:EH f)(hk:∀st,AI sta st->AI st (f st).2):∀(m:Nat) (st:St),1000<m+st.trail.length->AI sta st->(FV f m st).1=true->f (FV f m st).2=(true,(FV f m st).2)
 |0,st,h,k,_=>by have:=k.inv.tl;exact(AA [_] [] [.u Aj (.p Am Aa),.l Aa Aj] .f rfl h this).elim
 |m+1,st,h,k,e=>by
  unfold FV at e ⊢
  split at e
  ·rename_i c
   rw[if_pos c]
   split at e
   ·rename_i c2
    rw[if_pos c2]
    have s:=hc.still st c c2
    have es:f st=(true,st):=Prod.ext c s
    show f (f st).2=(true,(f st).2)
    rw[s,es]
   ·rename_i c2
    rw[if_neg c2]
    have:=hc.grow st
    exact Lu hc hk m _ (by exact(Nat.lt_or_gt_of_ne c2).elim (λmH=>(AA [_,_] [] [.u Aa Ab,.l Ab Aa] .f rfl mH this).elim) (λmH=>AA [_,_,_] [] [.u Aj (.p (.p Aa Ae) Af),.u Af Ab] (.u Aj (.p Aa Ab)) rfl h mH)) (k.trans (hk st k)) e
  ·exact Jf e
theorem PY{f:M}{st:St}(m:Nat)(h:f st=(true,st)):FV f (m+1) st=(true,st):=by
 unfold FV
 rw[h,if_pos rfl,if_pos rfl]
theorem LB{st:St}{l:CQ}{rs:List CQ}(I:B3 st)(hx:l.x<st.doms.length)(h:∀v∈vals (st.dom l.x),says l v=true):strike l rs st=(true,st):=by
 have e:=MC (I.valid hx) h
 unfold strike enter
 rw[e,if_neg (I.dne hx),if_pos rfl]
theorem N8{st:St}{l:CQ}{rs:List CQ}(I:B3 st)(hx:l.x<st.doms.length)(h:strike l rs st=(true,st)):∀v∈vals (st.dom l.x),says l v=true:=by
 have a:=Io (rs:=rs) I hx (by rw[h])
 rw[h] at a
 exact a
theorem Ir{st:St}(I:B3 st)(hy:y<st.doms.length)(h:∀v∈vals (st.dom y),1<=v/\v<=many):AT many y st=(true,st) :=
 Gq (LB I hy λv hv=>decide_eq_true (h v hv).1) (LB I hy λv hv=>decide_eq_true (h v hv).2)
section
variable {sc:List Nat} {A:BK} {nv:Nat} {st:St} {prop:M}
theorem S6{st':St}(hlt:∀y∈sc,y<nv)(w:Wf nv st)(k:AI st st')(h:Cc sc st):Cc sc st':=by
 intro y hy
 have hy1:y<st.doms.length:=by rw[w.len];exact hlt y hy
 have hy2:y<st'.doms.length:=by rw[k.len];exact hy1
 have a:=h y hy
 refine Ex (List.length_eq_one_iff.mp a) λv hv=>?_
 have hne:vals (st'.dom y)≠[]:=λe=>k.inv.dne hy2 ((RH (k.inv.valid hy2)).mp e)
 have nd:=(EE (k.inv.valid hy2)).imp (S:=(·≠·)) λh=>by exact λmL=>AA [] [_,_] [.U Ac Ad,.R Ac Ad] .f rfl h mL
 have b:=JF (xs:=vals (st'.dom y)) (ys:=[v]) nd λu hu=>by rw[←hv];exact k.sub y u hu
 have c:=List.length_pos_iff.mpr hne
 rw[List.length_singleton] at b
 exact Nat.le_antisymm (AA [_] [] [.l Aa Ae] (.l Aa Ae) rfl b) (AA [_] [] [.u Am Aa] (.l Ae Aa) rfl c)
theorem XC(g:Ground sc A nv)(w:Wf nv st)(nf:st.failed=false)(out:J5 sc A nv st (prop st))(k:AI st (prop st).2)(again:(prop st).1=true->prop (prop st).2=(true,(prop st).2))
  (full:(prop st).1=true->Cc sc (prop st).2->∃a∈A,dm sc a (prop st).2):LN prop sc A st:=by
 have w':=w.keep k
 have hs:∀y∈sc,y<st.doms.length:=λy hy=>by rw[w.len];exact g.lt y hy
 have hs':∀y∈sc,y<(prop st).2.doms.length:=λy hy=>by rw[w'.len];exact g.lt y hy
 have wi:∀a∈A,Bj sc (AN st) a=true↔dm sc a st:=λa ha=>HK (g.ans a ha) hs
 have wi':∀a∈A,Bj sc (AN (prop st).2) a=true↔dm sc a (prop st).2:=λa ha=>HK (g.ans a ha) hs'
 have bad:(prop st).1=false->(∀a∈A,Bj sc (AN st) a=false)/\RQ (AN (prop st).2) (prop st).2.clash=true/\(∀l∈(prop st).2.clash,l.x<st.doms.length)/\∀a∈A,keeps sc a (prop st).2.clash=false:=by
  intro c
  refine BG out λst1 s q=>?_
  rcases q with e|⟨cl,h,e⟩
  ·rw[e] at c;exact iT c
  ·rw[e] at hs' ⊢
   refine⟨λa ha=>?_,?_,λl hl=>by rw[w.len];exact(h.holds l hl).1,λa ha=>?_⟩
   ·cases c2:Bj sc (AN st) a with
    |false=>rfl
    |true =>
     have i1:=s.surv a ha ((wi a ha).mp c2)
     exact(h.bars a ha λr hr=>i1.says (g.all _ (h.holds r hr).1) (h.holds r hr).2).elim
   ·unfold RQ
    rw[List.all_eq_true]
    intro r hr
    unfold RP
    rw[List.all_eq_true]
    have hr':=hs' r.x (g.all _ (h.holds r hr).1)
    rw[List.getD_eq_getElem?_getD,Cq hr']
    exact(h.holds r hr).2
   ·cases c2:keeps sc a cl with
    |false=>exact c2
    |true=>exact(h.bars a ha ((Ls (g.ans a ha) λr hr=>g.all _ (h.holds r hr).1).mp c2)).elim
 have good:(prop st).1=true->(∀a∈A,Bj sc (AN st) a=true->Bj sc (AN (prop st).2) a=true)/\(Cc sc (prop st).2->∃a∈A,Bj sc (AN (prop st).2) a=true)/\prop (prop st).2=(true,(prop st).2):=by
  intro c
  have s:=out.sd c
  exact⟨λa ha h=>(wi' a ha).mpr (s.surv a ha ((wi a ha).mp h)),λh=>let ⟨a,ha,h'⟩:=full c h;⟨a,ha,(wi' a ha).mpr h'⟩,again c⟩
 refine⟨?_,λhf=>⟨λc=>?_,λ⟨a,ha,h⟩=>?_⟩,?_,bad,good⟩
 ·refine BG out λst1 s q=>?_
  rcases q with e|⟨cl,h,e⟩
  ·rw[e];show true = !st1.failed;rw[s.fl,nf];rfl
  ·rw[e];rfl
 ·refine BG (full c (S6 g.lt w k hf)) λa ha h=>?_
  exact⟨a,ha,(wi a ha).mpr λy hy=>k.sub y _ (h y hy)⟩
 ·cases c:(prop st).1 with
  |true=>rfl
  |false=>have:=(bad c).1 a ha;rw[h] at this;exact iT this
 ·refine BG out λst1 s q=>?_
  rcases q with e|⟨cl,h,e⟩
  ·rw[e];exact s.ents
  ·rw[e];exact s.ents
end
noncomputable def S7(a:List Int)(b:Int):Nat->Int
 |0=>b
 |k+1=>a.getD (S7 a b k-1).toNat 0
noncomputable def S8(q:Nat):Nat->BK
 |0=>[[]]
 |m+1=>(S8 q m).flatMap λr=>(CD 1 (q+1)).map λv=>v::r
theorem Gr{q:Nat}:∀{m:Nat} {r:List Int},r.length=m->(∀v∈r,1<=v/\v<=(q:Int))->r∈S8 q m
 |0,r,h,_=>by rw[List.length_eq_zero_iff.mp h];exact List.mem_singleton.mpr rfl
 |m+1,[],h,_=>by cases h
 |m+1,v::r,h,hv=>by
  refine List.mem_flatMap.mpr ⟨r,Gr (by simpa using h) λu hu=>hv u (List.mem_cons_of_mem _ hu),List.mem_map.mpr ⟨v,?_,rfl⟩⟩
  rw[Bo]
  have:=hv v (List.mem_cons_self ..)
  exact⟨AA [] [_] [.L Ah Ac] (.L Ah Ac) rfl this.1,AA [_] [_] [.L Ac Ag] (.U Ac (.p Ag Ah)) rfl this.2⟩
noncomputable def fr(row:List Int)(b:Int):Nat->Int->Nat->Int×Nat
 |0,e,c=>(e,c)
 |m+1,e,c=>if c<row.length then (if row.getD (e-1).toNat 0=b then (row.getD (e-1).toNat 0,c+1) else fr row b m (row.getD (e-1).toNat 0) (c+1)) else (e,c)
theorem S9:∀q∈[2,3,4],∀a∈Bk q,a.Nodup/\(∀v∈a,1<=v/\v<=(q:Int))/\(∀b∈CD 1 ((q:Int)+1),∀m∈List.range q,0<m->S7 a b m≠b)/\∀v∈CD 1 ((q:Int)+1),∃k∈List.range q,S7 a 1 k=v:=by decide +kernel
theorem U2:∀q∈[2,3,4],∀r∈S8 q q,r.Nodup->¬((fr r 1 (q+1) 1 0).1=1/\0<(fr r 1 (q+1) 1 0).2/\(fr r 1 (q+1) 1 0).2<q)->r∈Bk q:=by decide +kernel
section
variable {sc:List Nat} {A:BK} {nv:Nat} {st:St}
structure Hx(sc:List Nat)(A:BK)(nv:Nat):Prop where
 g:Ground sc A nv
 two:2<=sc.length
 four:sc.length<=4
 mem:∀a∈A,a∈Bk sc.length
theorem QT{a:List Int}(h:MT sc a){e:Int}(h1:1<=e)(h2:e<=sc.length):a.getD (e-1).toNat 0=DB sc a (DK sc e):=h.at (K3 h1 h2)
theorem Hx.q(r:Hx sc A nv):sc.length∈[2,3,4]:=by have t1:=r.two;have:=r.four;simp;exact Decidable.byContradiction λmL=>(Nat.lt_or_gt_of_ne (not_or.mp (not_or.mp mL).2).1).elim (λmH=>(Nat.lt_or_gt_of_ne (not_or.mp mL).1).elim (λmI=>AA [_] [] [.l Ar Aa,.u Aa Ar] .f rfl t1 mI) (λmI=>AA [_] [] [.u Ar Aa,.u Aa An] .f rfl mI mH)) (λmH=>(Nat.lt_or_gt_of_ne (not_or.mp (not_or.mp mL).2).2).elim (λmI=>AA [_] [] [.u An Aa,.u Aa As] .f rfl mH mI) (λmI=>AA [_] [] [.u As Aa,.l Aa As] .f rfl mI this))
theorem Hx.facts(r:Hx sc A nv){a:List Int}(ha:a∈A):a.Nodup/\(∀v∈a,1<=v/\v<=(sc.length:Int))/\(∀b,1<=b->b<=(sc.length:Int)->∀m,0<m->m<sc.length->S7 a b m≠b)/\∀v,1<=v->v<=(sc.length:Int)->∃k,S7 a 1 k=v:=by
 refine Pf (S9 _ r.q a (r.mem a ha)) λh1 h2 h3 h4=>?_
 refine⟨h1,h2,λb b1 b2 m m1 m2=>h3 b (Bo.mpr ⟨b1,by exact AA [] [_,_] [.L Ac Ad] (.U Ac (.p Ad Ah)) rfl b2⟩) m (List.mem_range.mpr m2) m1,λv v1 v2=>?_⟩
 refine BG (h4 v (Bo.mpr ⟨v1,by exact AA [] [_,_] [.L Ac Ad] (.U Ac (.p Ad Ah)) rfl v2⟩)) λk _ e=>?_
 exact⟨k,e⟩
theorem Hx.val(r:Hx sc A nv){a:List Int}(ha:a∈A)(hy:y∈sc):1<=DB sc a y/\DB sc a y<=(sc.length:Int):=by
 refine(r.facts ha).2.1 _ ?_
 have hi:=List.idxOf_lt_length_of_mem hy
 have:sc.idxOf y<a.length:=by rw[(r.g.ans a ha).len];exact hi
 unfold DB
 rw[List.getD_eq_getElem?_getD,List.getElem?_eq_getElem this]
 exact List.getElem_mem this
theorem Lv(g:Ground sc A nv)(w:Wf nv st)(hy:y<nv)(hv:∀a∈A,1<=DB sc a y/\DB sc a y<=many):J5 sc A nv st (AT many y st) :=
 Fw (D3 g w (l:=⟨y,.ge,1⟩) hy (λr h=>(List.not_mem_nil h).elim) λa ha _=>decide_eq_true (hv a ha).1)
  λ_=>D3 g (w.keep (B6 (n:=nv) hy st w.inv w.len)) (l:=⟨y,.le,many⟩) hy (λr h=>(List.not_mem_nil h).elim) λa ha _=>decide_eq_true (hv a ha).2
theorem MM(g:Ground sc A nv)(w:Wf nv st)(hy:y∈sc):y<st.doms.length:=by rw[w.len];exact g.lt y hy
theorem XD(r:Hx sc A nv)(w:Wf nv st):J5 sc A nv st (part sc st):=by
 refine Ep (sta:=st) (AI.refl w.inv) (λa ha st' k=>GG (nv:=nv) r.g.lt st' (w.keep k).inv (w.keep k).len) λa ha st1 k0a=>?_
 have wc:=w.keep k0a
 refine OK (BY ha) λm1 _ i1=>?_
 rw[Nat.sub_zero] at i1
 unfold Fq
 split
 ·rename_i fx
  refine Ep (sta:=st1) (AI.refl wc.inv) (λb hb st' k=>HG (nv:=nv) (r.g.lt _ (BY hb).1) st' (wc.keep k).inv (wc.keep k).len) λb hb st2 k0b=>?_
  have wd:=wc.keep k0b
  refine OK (BY hb) λm2 _ i2=>?_
  rw[Nat.sub_zero] at i2
  unfold HF
  split
  ·rename_i c
   refine D3 r.g wd (r.g.lt _ m2) (λq hq=>?_) λa' ha' hk=>?_
   ·rw[List.mem_singleton.mp hq]
    refine⟨r.g.lt _ m1,λv hv=>?_⟩
    have:=k0b.sub _ v hv
    rw[FZ fx] at this
    exact decide_eq_true (List.mem_singleton.mp this)
   ·have e1:=of_decide_eq_true (hk _ (List.mem_singleton.mpr rfl))
    have nd:=(r.facts ha').1
    have ok:=r.g.ans a' ha'
    have v1:=ok.at i1
    have v2:=ok.at i2
    refine decide_eq_true λe2=>c.1 ?_
    have e1:DB sc a' a.2=AL (st1.dom a.2):=e1
    have e2:DB sc a' b.2=AL (st1.dom a.2):=e2
    rw[←e1,←v1,←v2] at e2
    have l1:a.1<a'.length:=by rw[ok.len];exact(List.getElem?_eq_some_iff.mp i1).1
    have l2:b.1<a'.length:=by rw[ok.len];exact(List.getElem?_eq_some_iff.mp i2).1
    rw[List.getD_eq_getElem?_getD,List.getD_eq_getElem?_getD,List.getElem?_eq_getElem l1,List.getElem?_eq_getElem l2] at e2
    apply Classical.byContradiction
    intro hne
    have hp:=List.pairwise_iff_getElem.mp nd
    rcases Nat.lt_or_gt_of_ne hne with q|q
    ·exact hp _ _ l2 l1 q e2
    ·exact hp _ _ l1 l2 q e2.symm
  ·exact Dg
 ·exact Dg
structure XT(sc:List Nat)(A:BK)(nv:Nat)(st:St)(b:Int)(e:Int)(rs:List CQ):Prop where
 holds:Holds nv rs st
 lead:∀a∈A,(∀r∈rs,says r (DB sc a r.x)=true)->e=S7 a b rs.length
theorem LC(r:Hx sc A nv)(R:Bx sc sc.length st){b:Int}:∀(m:Nat) (e:Int) (rs:List CQ),1<=e->e<=sc.length->XT sc A nv st b e rs->XT sc A nv st b (CS st sc b m e rs).1 (CS st sc b m e rs).2
 |0,e,rs,_,_,t=>t
 |m+1,e,rs,h1,h2,t=>by
  unfold CS
  split
  ·rename_i c
   have hm:=Ck h1 h2
   have hv:=R _ hm _ (CV c.2)
   have t':XT sc A nv st b (AL (st.dom (DK sc e))) (rs++[⟨DK sc e,.eq,AL (st.dom (DK sc e))⟩]):=by
    refine⟨λq hq=>?_,λa ha hk=>?_⟩
    ·rcases List.mem_append.mp hq with hq|hq
     ·exact t.holds q hq
     ·rw[List.mem_singleton.mp hq]
      refine⟨r.g.lt _ hm,λv hv=>?_⟩
      rw[FZ c.2] at hv
      exact decide_eq_true (List.mem_singleton.mp hv)
    ·have le:=t.lead a ha λq hq=>hk q (List.mem_append_left _ hq)
     have last:DB sc a (DK sc e)=AL (st.dom (DK sc e)):=of_decide_eq_true (hk _ (List.mem_append_right _ (List.mem_singleton.mpr rfl)))
     rw[List.length_append,List.length_singleton]
     show _=a.getD (S7 a b rs.length-1).toNat 0
     rw[←le,QT (r.g.ans a ha) h1 h2,last]
   split
   ·exact t'
   ·exact LC r R m _ _ hv.1 hv.2 t'
  ·exact t
theorem XE(r:Hx sc A nv)(w:Wf nv st)(R:Bx sc sc.length st):J5 sc A nv st (ED sc st):=by
 refine Ep (sta:=st) (AI.refl w.inv) (λb hb st' k=>?_) λb hb st1 k0a=>?_
 ·have:=Bo.mp hb
  have w':=w.keep k
  exact GH (nv:=nv) r.g.lt this.1 (by exact AA [] [_,_] [.U Ac (.p Ad Ah)] (.L Ac Ad) rfl this.2) st' w'.inv w'.len (R.keep k)
 ·have hb:=Bo.mp hb
  have wc:=w.keep k0a
  have R0a:=R.keep k0a
  have t:=LC r R0a (b:=b) (sc.length+1) b [] hb.1 (by exact AA [] [_,_] [.U Ac (.p Ad Ah)] (.L Ac Ad) rfl hb.2) ⟨λq hq=>(List.not_mem_nil hq).elim,λ_ _ _=>rfl⟩
  have q:=JE (b:=b) R0a (sc.length+1) b [] hb.1 (by exact AA [] [_,_] [.U Ac (.p Ad Ah)] (.L Ac Ad) rfl hb.2)
  unfold Fr
  generalize (CS st1 sc b (sc.length+1) b []).1=e at t q ⊢
  generalize (CS st1 sc b (sc.length+1) b []).2=rs at t ⊢
  unfold Ij
  split
  ·rename_i c
   refine N6 ⟨t.holds,λa ha hk=>?_⟩
   have:=t.lead a ha hk
   exact(r.facts ha).2.2.1 b hb.1 (by exact AA [] [_,_] [.U Ac (.p Ad Ah)] (.L Ac Ad) rfl hb.2) rs.length c.2.1 c.2.2 (by rw[←this];exact c.1)
  ·split
   ·rename_i c
    refine D3 r.g wc (r.g.lt _ (Ck q.1 q.2)) t.holds λa ha hk=>?_
    have le:=t.lead a ha hk
    refine decide_eq_true λee=>?_
    refine(r.facts ha).2.2.1 b hb.1 (by exact AA [] [_,_] [.U Ac (.p Ad Ah)] (.L Ac Ad) rfl hb.2) (rs.length+1) (by exact AA [_] [] [] (.u Am (.p Aa Ae)) rfl) c.1 ?_
    show a.getD (S7 a b rs.length-1).toNat 0=b
    rw[←le,QT (r.g.ans a ha) q.1 q.2]
    exact ee
   ·exact Dg
theorem LD(hn:1<=sc.length):∀(m:Nat) (found:List Int) (spot:Nat),D4 sc.length found->spot<=found.length->m+spot=sc.length+1 ->
  (∀i,i<spot->∀v,1<=v->v<=(sc.length:Int)->EU (st.dom (DK sc (found.getD i 0))) v=true->v∈found) ->
  ∀h∈Db st sc m found spot,∀v,1<=v->v<=(sc.length:Int)->EU (st.dom (DK sc h)) v=true->v∈Db st sc m found spot
 |0,found,spot,ok,h1,h2,cl=>by have:=ok.len;exact(AA [_,_,_] [] [.r (.p Am Ab) (.p Aa Ae),.l Ab Af,.l Af Aa] .f rfl h2 h1 this).elim
 |m+1,found,spot,ok,h1,h2,cl=>by
  unfold Db
  split
  ·rename_i c
   refine LD hn m _ (spot+1) ok.grow (by rw[List.length_append];exact AA [_,_,_] [] [.u Aa Ab] (.l (.p Aa Ae) (.p Ab Af)) rfl c) (by exact Nat.le_antisymm (AA [_,_,_] [] [.e (.p (.p Aa Ae) Ab) (.p Af Ae)] (.l (.p Aa (.p Ab Ae)) (.p Af Ae)) rfl h2) (AA [_,_,_] [] [.r (.p (.p Aa Ae) Ab) (.p Af Ae)] (.l (.p Af Ae) (.p Aa (.p Ab Ae))) rfl h2)) λi hi v v1 v2 hv=>?_
   have gi:(found++grow st sc found (DK sc (found.getD spot 0))).getD i 0=found.getD i 0:=by
    rw[List.getD_eq_getElem?_getD,List.getElem?_append_left (by exact AA [_,_,_] [] [.u Aa (.p Af Ae),.u Af Ab] (.u Aa Ab) rfl hi c),←List.getD_eq_getElem?_getD]
   rw[gi] at hv
   by_cases e:i=spot
   ·subst e
    by_cases hm:v∈found
    ·exact List.mem_append_left _ hm
    ·exact List.mem_append_right _ (List.mem_filter.mpr ⟨Bo.mpr ⟨v1,by exact AA [] [_,_] [.L Ac Ad] (.U Ac (.p Ad Ah)) rfl v2⟩,by rw[decide_eq_false hm,hv];rfl⟩)
   ·exact List.mem_append_left _ (cl i (by exact(Nat.lt_or_gt_of_ne e).elim (λmH=>AA [_,_] [] [.u Aa Ab] (.u Aa Ab) rfl mH) (λmH=>(AA [_,_] [] [.u Ab Aa,.u Aa (.p Ab Ae)] .f rfl mH hi).elim)) v v1 v2 hv)
  ·rename_i c
   intro h hh v v1 v2 hv
   obtain⟨i,hi,e⟩:=List.mem_iff_getElem.mp hh
   refine cl i (by exact AA [_,_,_] [] [.u Aa Af,.l Af Ab] (.u Aa Ab) rfl hi (Nat.le_of_not_lt c)) v v1 v2 ?_
   rw[List.getD_eq_getElem?_getD,List.getElem?_eq_getElem hi,e];exact hv
theorem PZ:∀(m:Nat) (found:List Int) (spot:Nat),(1:Int)∈found->(1:Int)∈Db st sc m found spot
 |0,found,spot,h=>h
 |m+1,found,spot,h=>by
  unfold Db
  split
  ·exact PZ m _ _ (List.mem_append_left _ h)
  ·exact h
theorem U3(r:Hx sc A nv)(w:Wf nv st):J5 sc A nv st (reach sc st):=by
 have hn:1<=sc.length:=by have:=r.two;exact AA [_] [] [.l Ar Aa] (.l Ae Aa) rfl this
 unfold reach
 split
 ·exact Dg
 ·rename_i c
  have fo:=Nw (st:=st) hn
  have cl:=LD (st:=st) hn (sc.length+1) [1] 0 ⟨by simp,λv hv=>by have:=List.mem_singleton.mp hv;exact⟨AA [] [_] [.R Ac Ah] (.L Ah Ac) rfl this,AA [_] [_] [.E Ac Ah,.l Ae Aa] (.L Ac Ag) rfl this hn⟩⟩ (by simp) (by exact Nat.le_antisymm (AA [_] [] [] (.l (.p (.p Aa Ae) Am) (.p Aa Ae)) rfl) (AA [_] [] [] (.l (.p Aa Ae) (.p (.p Aa Ae) Am)) rfl)) (λi hi=>by exact(AA [_] [] [.u Aa Am] .f rfl hi).elim)
  have one:(1:Int)∈DM st sc:=PZ _ _ _ (List.mem_singleton.mpr rfl)
  refine N6 ⟨λq hq=>?_,λa ha hk=>?_⟩
  ·refine BG (List.mem_flatMap.mp hq) λh hh hq=>?_
   refine BG (List.mem_map.mp hq) λv hv mN=>?_;subst mN
   have hr:=fo.sub h hh
   have hm:=Ck hr.1 hr.2
   refine⟨r.g.lt _ hm,λu hu=>decide_eq_true λe=>?_⟩
   have ov:=List.mem_filter.mp hv
   have iv:=Bo.mp ov.1
   have e:u=v:=e
   subst e
   have:u∈DM st sc:=cl h hh u iv.1 (by exact AA [] [_,_] [.U Ac (.p Ad Ah)] (.L Ac Ad) rfl iv.2) ((Ik (w.inv.valid (MM r.g w hm))).mpr hu)
   have o2:=ov.2
   rw[decide_eq_true this] at o2
   cases o2
  ·refine Ex (List.exists_mem_of_ne_nil _ c) λv hv=>?_
   have ov:=List.mem_filter.mp hv
   have iv:=Bo.mp ov.1
   have ok:=r.g.ans a ha
   have all:∀k,S7 a 1 k∈DM st sc:=by
    intro k
    induction k with
    |zero=>exact one
    |succ k ih =>
     have hr:=fo.sub _ ih
     have hm:=Ck hr.1 hr.2
     have hval:a.getD (S7 a 1 k-1).toNat 0=DB sc a (DK sc (S7 a 1 k)):=QT ok hr.1 hr.2
     have hb:=r.val ha hm
     show a.getD (S7 a 1 k-1).toNat 0∈_
     rw[hval]
     apply Classical.byContradiction
     intro hno
     have ho:DB sc a (DK sc (S7 a 1 k))∈Dc st sc:=List.mem_filter.mpr ⟨Bo.mpr ⟨hb.1,by exact AA [] [_,_] [.L Ac Ad] (.U Ac (.p Ad Ah)) rfl hb.2⟩,by rw[decide_eq_false hno];rfl⟩
     have:=hk ⟨DK sc (S7 a 1 k),.ne,DB sc a (DK sc (S7 a 1 k))⟩ (List.mem_flatMap.mpr ⟨_,ih,List.mem_map.mpr ⟨_,ho,rfl⟩⟩)
     exact of_decide_eq_true this rfl
   refine Ex ((r.facts ha).2.2.2 v iv.1 (by exact AA [] [_,_] [.U Ac (.p Ad Ah)] (.L Ac Ad) rfl iv.2)) λk e=>?_
   have:=all k
   rw[e] at this
   have o2:=ov.2
   rw[decide_eq_true this] at o2
   cases o2
end
theorem MN{x:Nat}{v:Int}{b:Nat×Nat}:EH (HF i x v b):=Gp (p:=λst=>b.1≠i/\EU (st.dom b.2) v=true) Fx Ew
theorem LE{a:Nat×Nat}:EH (Fq sc a) :=
 Gp (p:=λst=>CU (st.dom a.2)=true) (N7 (f:=λv=>Bg (HF a.1 a.2 v) (CR 0 sc)) (λst=>AL (st.dom a.2)) λv=>Dh (λb=>MN) _) Ew
theorem Pa:EH (part sc):=Dh (λa=>LE) _
theorem RV{b e:Int}{rs:List CQ}:EH (Ij sc b e rs) :=
 Gp (p:=λst=>e=b/\0<rs.length/\rs.length<sc.length) (U1 (c:=λ_=>rs)) (Gp (p:=λst=>rs.length+1<sc.length/\EU (st.dom (DK sc e)) b=true) Fx Ew)
theorem LF{b:Int}:EH (Fr sc b):=N7 (f:=λpr:Int×List CQ=>Ij sc b pr.1 pr.2) (λst=>CS st sc b (sc.length+1) b []) λpr=>RV
theorem N9:EH (ED sc):=Dh (λa=>LF) _
theorem DW{α:Type}:∀{xs:List α} {i k:Nat} {x:α},xs[k]? = some x->(i+k,x)∈CR i xs
 |[],i,k,x,h=>by simp at h
 |y::xs,i,0,x,h=>by simp at h;subst h;exact List.mem_cons_self ..
 |y::xs,i,k+1,x,h=>by
  have:=DW (xs:=xs) (i:=i+1) (k:=k) (x:=x) (by simpa using h)
  rw[show i+(k+1)=i+1+k by exact Nat.le_antisymm (AA [_,_] [] [] (.l (.p Aa (.p Ab Ae)) (.p (.p Aa Ae) Ab)) rfl) (AA [_,_] [] [] (.l (.p (.p Aa Ae) Ab) (.p Aa (.p Ab Ae))) rfl)]
  exact List.mem_cons_of_mem _ this
section
variable {sc:List Nat} {A:BK} {nv:Nat} {st:St}
theorem Mx(g:Nat->Int):MT sc (sc.map g)/\∀y∈sc,DB sc (sc.map g) y=g y:=by
 have at':∀k y,sc[k]? = some y->(sc.map g).getD k 0=g y:=λk y h=>by rw[List.getD_eq_getElem?_getD,List.getElem?_map,h];rfl
 have ix:∀y∈sc,sc[sc.idxOf y]? = some y:=λy hy=>by
  have hi:=List.idxOf_lt_length_of_mem hy
  rw[List.getElem?_eq_getElem hi,List.getElem_idxOf hi]
 refine⟨⟨List.length_map ..,?_⟩,λy hy=>at' _ _ (ix y hy)⟩
 unfold K7
 rw[List.all_eq_true]
 intro k hk
 have hk:=List.mem_range.mp hk
 have e:=List.getElem?_eq_getElem hk
 have e2:sc.getD k 0=sc[k]:=by rw[List.getD_eq_getElem?_getD,e];rfl
 rw[e2,at' k _ e,at' _ _ (ix _ (List.getElem_mem hk))]
 exact decide_eq_true rfl
theorem EF(g:Ground sc A nv)(w:Wf nv st)(hf:Cc sc st)(hy:y∈sc):CU (st.dom y)=true:=(RI (w.inv.valid (MM g w hy))).mpr (hf y hy)
theorem Pb(g:Ground sc A nv)(w:Wf nv st)(hf:Cc sc st)(R:Bx sc sc.length st){b:Int}:∀(m:Nat) (e:Int) (rs:List CQ),1<=e->e<=sc.length ->
  (CS st sc b m e rs).1=(fr (sc.map λy=>AL (st.dom y)) b m e rs.length).1/\(CS st sc b m e rs).2.length=(fr (sc.map λy=>AL (st.dom y)) b m e rs.length).2
 |0,e,rs,_,_=>⟨rfl,rfl⟩
 |m+1,e,rs,h1,h2=>by
  have hm:=Ck h1 h2
  have fx:=EF g w hf hm
  have hv:=R _ hm _ (CV fx)
  have er:(sc.map λy=>AL (st.dom y)).getD (e-1).toNat 0=AL (st.dom (DK sc e)):=by rw[List.getD_eq_getElem?_getD,List.getElem?_map,K3 h1 h2];rfl
  unfold CS fr
  rw[er,List.length_map]
  by_cases c:rs.length<sc.length
  ·rw[if_pos ⟨c,fx⟩,if_pos c]
   split
   ·exact⟨rfl,by rw[List.length_append];rfl⟩
   ·have:=Pb g w hf R (b:=b) m (AL (st.dom (DK sc e))) (rs++[⟨DK sc e,.eq,AL (st.dom (DK sc e))⟩]) hv.1 hv.2
    rw[List.length_append,List.length_singleton] at this
    exact this
  ·rw[if_neg (λh=>c h.1),if_neg c]
   exact⟨rfl,rfl⟩
theorem XF(r:Hx sc A nv)(w:Wf nv st)(R:Bx sc sc.length st)(hf:Cc sc st)(q1:part sc st=(true,st))(q2:ED sc st=(true,st)):(sc.map λy=>AL (st.dom y))∈Bk sc.length:=by
 refine U2 _ r.q _ (Gr (List.length_map ..) λv hv=>?_) ?_ λc=>?_
 ·refine BG (List.mem_map.mp hv) λy hy mN=>?_;subst mN
  exact R y hy _ (CV (EF r.g w hf hy))
 ·rw[List.Nodup,List.pairwise_iff_getElem]
  intro i j hi hj hij
  rw[List.length_map] at hi hj
  rw[List.getElem_map,List.getElem_map]
  intro e
  have mi:sc[i]∈sc:=List.getElem_mem hi
  have mj:sc[j]∈sc:=List.getElem_mem hj
  have fi:=EF r.g w hf mi
  have fj:=EF r.g w hf mj
  have ei:=DW (i:=0) (List.getElem?_eq_getElem hi)
  have ej:=DW (i:=0) (List.getElem?_eq_getElem hj)
  rw[Nat.zero_add] at ei ej
  have p1:=Ey (λa=>LE) q1 _ ei
  unfold Fq at p1
  rw[if_pos fi] at p1
  have p2:=Ey (λa=>MN) p1 _ ej
  unfold HF at p2
  have hl:=MM r.g w mj
  have hh:EU (st.dom sc[j]) (AL (st.dom sc[i]))=true:=(Ik (w.inv.valid hl)).mpr (by rw[e];exact CV fj)
  rw[if_pos ⟨by exact λmL=>AA [_,_] [] [.u Ab Aa,.e Aa Ab] .f rfl hij mL,hh⟩] at p2
  have:=N8 w.inv hl p2 _ (CV fj)
  exact of_decide_eq_true this e.symm
 ·have hb:(1:Int)∈CD 1 (sc.length+1):=Bo.mpr ⟨by exact AA [] [] [] (.L Ah Ah) rfl,by have:=r.two;exact AA [_,_] [] [.u Ab Aa] (.U Ah (.p Ag Ah)) rfl c.2.2⟩
  have p:=Ey (λa=>LF) q2 1 hb
  refine Ea (Pb r.g w hf R (b:=1) (sc.length+1) 1 [] (by exact AA [] [] [] (.L Ah Ah) rfl) (by have:=r.two;exact AA [_,_] [] [.u Ab Aa] (.L Ah Ag) rfl c.2.2)) λf1 f2=>?_
  rw[List.length_nil] at f1 f2
  unfold Fr Ij at p
  rw[←f1,←f2] at c
  rw[if_pos c] at p
  have:=congrArg Prod.fst p
  exact Jf this
theorem TA(h:(reach sc st).1=true):reach sc st=(true,st):=by
 unfold reach at h ⊢
 split
 ·rfl
 ·rename_i c;rw[if_neg c] at h;exact Jf h
theorem XG(r:Hx sc A nv)(w:Wf nv st)(nf:st.failed=false)(hrow:∀st',AI st st'->(sc.map λy=>AL (st'.dom y))∈Bk sc.length->(∀y∈sc,AL (st'.dom y)∈vals (st'.dom y))->(sc.map λy=>AL (st'.dom y))∈A):LN (Ce sc) sc A st:=by
 have hs:∀y∈sc,y<st.doms.length:=λy hy=>MM r.g w hy
 have kk:=MK hs w.inv
 have kb:=Bv (n:=nv) (f:=AT sc.length) (xs:=sc) (λz hz=>BR (r.g.lt z hz)) st w.inv w.len
 have wb:=w.keep kb
 have ob:J5 sc A nv st (Bg (AT sc.length) sc st):=Ep (sta:=st) (AI.refl w.inv) (λy hy st' k=>BR (r.g.lt y hy) st' (w.keep k).inv (w.keep k).len) λy hy st' k=>Lv r.g (w.keep k) (r.g.lt y hy) λa ha=>r.val ha hy
 have step:∀{sta:St},Wf nv sta->Bx sc sc.length sta->(∀st',AI sta st'->AI st' (Bp (part sc) (ED sc) st').2)/\∀st',AI sta st'->J5 sc A nv st' (Bp (part sc) (ED sc) st'):=λ{sta} wa R0e =>
  ⟨λst' k=>MJ (λy hy=>MM r.g (wa.keep k) hy) k.inv (R0e.keep k),λst' k=>Fw (XD r (wa.keep k)) λc=>by
   have kp:=Fa (nv:=nv) r.g.lt st' (wa.keep k).inv (wa.keep k).len
   exact XE r ((wa.keep k).keep kp) ((R0e.keep k).keep kp)⟩
 have eq:Ce sc st=Bp (Bg (AT sc.length) sc) (Bp (FV (Bp (part sc) (ED sc)) 2000) (reach sc)) st:=by unfold Ce;rw[if_neg (by rw[nf];simp)]
 have thru:(Ce sc st).1=true->Bx sc sc.length (Ce sc st).2/\Bp (part sc) (ED sc) (Ce sc st).2=(true,(Ce sc st).2)/\reach sc (Ce sc st).2=(true,(Ce sc st).2):=by
  intro c
  rw[eq] at c ⊢
  refine OK (Eu c) λc1 c2 e=>?_
  have R:=Br w.inv hs c1
  refine Ea (step wb R) λsk so=>?_
  rw[e]
  refine OK (Eu c2) λc3 c4 e2=>?_
  rw[e2]
  have kf:=DR sk 2000 _ (AI.refl wb.inv)
  have quiet:=Lu (Iq Pa N9) sk 2000 _ (by exact AA [_] [] [] (.u Aj (.p (.n 2000) Aa)) rfl) (AI.refl wb.inv) c3
  have rs:=TA c4
  rw[rs]
  exact⟨R.keep kf,quiet,rs⟩
 have out:J5 sc A nv st (Ce sc st):=by
  rw[eq]
  refine Fw ob λc1=>?_
  have R:=Br w.inv hs c1
  refine Ea (step wb R) λsk so=>?_
  refine Fw (QS sk so 2000 _ (AI.refl wb.inv)) λc2=>?_
  exact U3 r (wb.keep (DR sk 2000 _ (AI.refl wb.inv)))
 refine XC r.g w nf out kk (λc=>?_) λc hf=>?_
 ·refine OK (thru c) λR q1 q2=>?_
  have wk:=w.keep kk
  have nf':(Ce sc st).2.failed=false:=(out.sd c).fl.trans nf
  show Ce sc (Ce sc st).2=_
  generalize (Ce sc st).2=st' at R q1 q2 wk nf' ⊢
  unfold Ce
  rw[if_neg (by rw[nf'];simp)]
  exact Gq (JI λy hy=>Ir wk.inv (MM r.g wk hy) (R y hy)) (Gq (PY 1999 q1) q2)
 ·refine OK (thru c) λR q1 q2=>?_
  have wk:=w.keep kk
  refine Ea (JH Pa N9 q1) λp1 p2=>?_
  have row:=XF r wk R hf p1 p2
  have vin:∀y∈sc,AL ((Ce sc st).2.dom y)∈vals ((Ce sc st).2.dom y):=λy hy=>CV (EF r.g wk hf hy)
  refine⟨_,hrow _ kk row vin,λy hy=>?_⟩
  rw[(Mx _).2 y hy]
  exact vin y hy
end
theorem aL(q:Nat)(sc:List Nat)(st:St)(h1:2<=q)(h2:q<=4)(hsc:sc.length=q)(V:Cm sc st)(st':St)(F:J3 st.doms.length (λy=>vals (st.dom y)) st'.trail st'.doms)(nf:st'.failed=false) :
  LN (Ce sc) sc ((Bk q).filter (C4 sc (AN st))) st':=by
 subst hsc
 have hv:=V.len
 have g:Ground sc ((Bk sc.length).filter (C4 sc (AN st))) st.doms.length:=⟨V.all,V.lt,λa ha=>by
  have hm:=List.mem_filter.mp ha
  have:=hm.2
  unfold C4 at this
  rw[Bool.and_eq_true] at this
  exact⟨Eo (by exact AA [_] [] [.l Aa As] (.l Aa As) rfl h2) a hm.1,this.1⟩⟩
 have w:Wf st.doms.length st':=⟨F.inv (by exact AA [_,_] [] [.l Aa Ab,.l Ab As] (.l Aa A0) rfl hv h2),F.len,λd hd=>(F.ok d hd).small⟩
 refine XG ⟨g,h1,h2,λa ha=>(List.mem_filter.mp ha).1⟩ w nf λst'' k row vin=>?_
 refine List.mem_filter.mpr ⟨row,?_⟩
 refine Ea (Mx (sc:=sc) λy=>AL (st''.dom y)) λok va=>?_
 unfold C4
 rw[ok.con,Bool.true_and,HK ok V.lt]
 intro y hy
 rw[va y hy]
 exact F.sub y _ (k.sub y _ (vin y hy))
theorem JJ:∀q∈[1,2,3],∀a∈BM q q,(∀i∈List.range q,∀j∈List.range q,(a.getD i 0=(j:Int)+1↔a.getD (q+j) 0=(i:Int)+1))/\∀k∈List.range (q+q),1<=a.getD k 0/\a.getD k 0<=(q:Int):=by decide +kernel
theorem XH:∀q∈[1,2,3],∀m∈[1,2,3],(m=q\/m+q=4)->∀r∈S8 m q,∀s∈S8 q m,(∀i∈List.range q,∀j∈List.range m,(r.getD i 0=(j:Int)+1↔s.getD j 0=(i:Int)+1))->r++s∈BM q m:=by decide +kernel
theorem TB:∀q∈[2,3,4],∀vs∈S8 6 q,Gn (vs.map (· - 1))=decide (vs.map (· - 1)∈Bk q):=by decide +kernel
theorem U4:∀q∈[1,2,3],∀vs∈S8 q (q+q),((Fb (vs.take q)).Perm (Df (vs.drop q))↔vs∈BM q q):=by decide +kernel
theorem Fy{x:Nat}{b:Nat×Nat}:EH (Dd i x b):=Gp (p:=λst=>EU (st.dom x) (b.1+1)=true/\EU (st.dom b.2) (i+1)=false) Fx Ew
theorem HL{x:Nat}:EH (JD bk i x):=Gp (p:=λst=>CU (st.dom x)=true) (N7 (f:=λv=>strike ⟨DK bk v,.eq,i+1⟩ [⟨x,.eq,v⟩]) (λst=>AL (st.dom x)) λv=>Fx) Ew
theorem JK{row:List Nat}:EH (turn row bk):=Dh (λa=>Iq (Dh (λb=>Fy) _) HL) _
section
variable {sc row bk:List Nat} {A:BK} {nv:Nat} {st:St}
structure I1(sc:List Nat)(A:BK)(nv:Nat)(row bk:List Nat):Prop where
 g:Ground sc A nv
 hr:∀x∈row,x∈sc
 hb:∀x∈bk,x∈sc
 rel:∀a∈A,∀b∈CR 0 row,∀c∈CR 0 bk,(DB sc a b.2=(c.1:Int)+1↔DB sc a c.2=(b.1:Int)+1)
 br:∀a∈A,∀x∈row,1<=DB sc a x/\DB sc a x<=(bk.length:Int)
 bb:∀a∈A,∀x∈bk,1<=DB sc a x/\DB sc a x<=(row.length:Int)
theorem I1.swap(r:I1 sc A nv row bk):I1 sc A nv bk row:=⟨r.g,r.hb,r.hr,λa ha b hb c hc=>(r.rel a ha c hc b hb).symm,r.bb,r.br⟩
theorem I1.lr(r:I1 sc A nv row bk):∀z∈row,z<nv:=λz hz=>r.g.lt z (r.hr z hz)
theorem I1.lb(r:I1 sc A nv row bk):∀z∈bk,z<nv:=λz hz=>r.g.lt z (r.hb z hz)
theorem RW(r:I1 sc A nv row bk)(w:Wf nv st)(R:Bx row bk.length st):J5 sc A nv st (turn row bk st):=by
 have lr':∀{s:St},Wf nv s->∀z∈row,z<s.doms.length:=λ{s} w z hz=>by rw[w.len];exact r.lr z hz
 have lb':∀{s:St},Wf nv s->∀z∈bk,z<s.doms.length:=λ{s} w z hz=>by rw[w.len];exact r.lb z hz
 refine Ep (sta:=st) (AI.refl w.inv) (λa ha st' k=>?_) λa ha st1 k0a=>?_
 ·have w':=w.keep k
  exact GI (BY ha).1 (lr' w') (lb' w') w'.inv (R.keep k)
 ·have wc:=w.keep k0a
  have R0a:=R.keep k0a
  have m1:=(BY ha).1
  have kin:=Bv (n:=nv) (f:=Dd a.1 a.2) (xs:=CR 0 bk) (λb _=>De (r.lr _ m1)) st1 wc.inv wc.len
  refine Fw (Ep (sta:=st1) (AI.refl wc.inv) (λb hb st' k=>De (nv:=nv) (r.lr _ m1) st' (wc.keep k).inv (wc.keep k).len) λb hb st2 k0b=>?_) λ_=>?_
  ·have wd:=wc.keep k0b
   have m2:=(BY hb).1
   unfold Dd
   split
   ·rename_i c
    refine D3 r.g wd (r.lr _ m1) (λq hq=>?_) λa' ha' hk=>?_
    ·rw[List.mem_singleton.mp hq]
     refine⟨r.lb _ m2,λv hv=>decide_eq_true λe=>?_⟩
     have hn:=(Si (wd.inv.valid (lb' wd _ m2))).mp c.2
     have e:v=(a.1:Int)+1:=e
     rw[e] at hv
     exact hn hv
    ·have e1:DB sc a' b.2≠(a.1:Int)+1:=of_decide_eq_true (hk _ (List.mem_singleton.mpr rfl))
     exact decide_eq_true λe2=>e1 ((r.rel a' ha' a ha b hb).mp e2)
   ·exact Dg
  ·have wd:=wc.keep kin
   have R0b:=R0a.keep kin
   generalize (Bg (Dd a.1 a.2) (CR 0 bk) st1).2=st2 at wd R0b ⊢
   unfold JD
   split
   ·rename_i fx
    have hv:=R0b _ m1 _ (CV fx)
    have hm:=Ck hv.1 hv.2
    have hg:=K3 hv.1 hv.2
    have he:=DW (i:=0) hg
    rw[Nat.zero_add] at he
    refine D3 r.g wd (r.lb _ hm) (λq hq=>?_) λa' ha' hk=>?_
    ·rw[List.mem_singleton.mp hq]
     refine⟨r.lr _ m1,λv hv=>?_⟩
     rw[FZ fx] at hv
     exact decide_eq_true (List.mem_singleton.mp hv)
    ·have e1:DB sc a' a.2=AL (st2.dom a.2):=of_decide_eq_true (hk _ (List.mem_singleton.mpr rfl))
     have:=(r.rel a' ha' a ha _ he).mp (by rw[e1];show _=(((AL (st2.dom a.2)-1).toNat:Nat):Int)+1;exact Int.le_antisymm (AA [_] [_] [.L (.s Ac Ah) Ag] (.L Ac (.p Ag Ah)) rfl (Int.self_le_toNat _)) ((Int.le_total 0 _).elim (λmH=>AA [_] [_] [.E Ag (.s Ac Ah)] (.L (.p Ag Ah) Ac) rfl (Int.toNat_of_nonneg mH)) (λmH=>AA [_] [_] [.L Ah Ac,.e Aa Am] (.L (.p Ag Ah) Ac) rfl hv.1 (Int.toNat_of_nonpos mH))))
     exact decide_eq_true this
   ·exact Dg
theorem RX(r:I1 sc A nv row bk)(w:Wf nv st)(hf:Cc sc st)(q:turn row bk st=(true,st)){x:Nat}(hi:row[i]? = some x)(hj:bk[j]? = some y)(e:AL (st.dom x)=(j:Int)+1):AL (st.dom y)=(i:Int)+1:=by
 have ei:=DW (i:=0) hi
 have ej:=DW (i:=0) hj
 rw[Nat.zero_add] at ei ej
 have mx:=List.mem_of_getElem? hi
 have my:=List.mem_of_getElem? hj
 have p1:=Ey (λa=>Iq (Dh (λb=>Fy) _) HL) q _ ei
 have p2:=Ey (λb=>Fy) (JH (Dh (λb=>Fy) _) HL p1).1 _ ej
 have fx:=EF r.g w hf (r.hr _ mx)
 have fy:=EF r.g w hf (r.hb _ my)
 have lx:=MM r.g w (r.hr _ mx)
 have ly:=MM r.g w (r.hb _ my)
 unfold Dd at p2
 have hx:EU (st.dom x) ((j:Int)+1)=true:=(Ik (w.inv.valid lx)).mpr (by rw[←e];exact CV fx)
 cases c:EU (st.dom y) ((i:Int)+1) with
 |true =>
  have:=(Ik (w.inv.valid ly)).mp c
  rw[FZ fy] at this
  exact(List.mem_singleton.mp this).symm
 |false =>
  rw[if_pos ⟨hx,c⟩] at p2
  have:=N8 w.inv lx p2 _ (CV fx)
  exact(of_decide_eq_true this e).elim
theorem aM{q:Nat}(r:I1 sc A nv row bk)(hsc:sc=row++bk)(hq:row.length=q)(hm:bk.length=m)(q1:q∈[1,2,3])(m1:m∈[1,2,3])(hqm:m=q\/m+q=4)(w:Wf nv st)(nf:st.failed=false)
  (hrow:∀st',AI st st'->(sc.map λy=>AL (st'.dom y))∈BM q m->(∀y∈sc,AL (st'.dom y)∈vals (st'.dom y))->(sc.map λy=>AL (st'.dom y))∈A):LN (Ek row bk) sc A st:=by
 have lr':∀{s:St},Wf nv s->∀z∈row,z<s.doms.length:=λ{s} w z hz=>by rw[w.len];exact r.lr z hz
 have lb':∀{s:St},Wf nv s->∀z∈bk,z<s.doms.length:=λ{s} w z hz=>by rw[w.len];exact r.lb z hz
 have kk:=N5 (lr' w) (lb' w) w.inv
 have k1:=Bv (n:=nv) (f:=AT bk.length) (xs:=row) (λz hz=>BR (r.lr z hz)) st w.inv w.len
 have w1:=w.keep k1
 have k2:=Bv (n:=nv) (f:=AT row.length) (xs:=bk) (λz hz=>BR (r.lb z hz)) _ w1.inv w1.len
 have o1:J5 sc A nv st (Bg (AT bk.length) row st):=Ep (sta:=st) (AI.refl w.inv) (λy hy st' k=>BR (r.lr y hy) st' (w.keep k).inv (w.keep k).len) λy hy st' k=>Lv r.g (w.keep k) (r.lr y hy) λa ha=>r.br a ha y hy
 have o2:J5 sc A nv _ (Bg (AT row.length) bk (Bg (AT bk.length) row st).2):=Ep (sta:=_) (AI.refl w1.inv) (λy hy st' k=>BR (r.lb y hy) st' (w1.keep k).inv (w1.keep k).len) λy hy st' k=>Lv r.g (w1.keep k) (r.lb y hy) λa ha=>r.bb a ha y hy
 have kb:AI st (Bp (Bg (AT bk.length) row) (Bg (AT row.length) bk) st).2:=by
  unfold Bp
  split
  ·exact k1.trans k2
  ·exact k1
 have ob:J5 sc A nv st (Bp (Bg (AT bk.length) row) (Bg (AT row.length) bk) st):=Fw o1 λ_=>o2
 have wb:=w.keep kb
 have step:∀{sta:St},Wf nv sta->Bx row bk.length sta->Bx bk row.length sta->(∀st',AI sta st'->AI st' (Bp (turn row bk) (turn bk row) st').2)/\∀st',AI sta st'->J5 sc A nv st' (Bp (turn row bk) (turn bk row) st'):=λ{sta} wa R0a R0b =>
  ⟨λst' k=>ML (lr' (wa.keep k)) (lb' (wa.keep k)) k.inv (R0a.keep k) (R0b.keep k),λst' k=>Fw (RW r (wa.keep k) (R0a.keep k)) λc=>by
   have kp:=D1 (lr' (wa.keep k)) (lb' (wa.keep k)) k.inv (R0a.keep k)
   exact RW r.swap ((wa.keep k).keep kp) ((R0b.keep k).keep kp)⟩
 have eq:Ek row bk st=Bp (Bp (Bg (AT bk.length) row) (Bg (AT row.length) bk)) (FV (Bp (turn row bk) (turn bk row)) 2000) st:=by unfold Ek;rw[if_neg (by rw[nf];simp)]
 have ranged:(Bp (Bg (AT bk.length) row) (Bg (AT row.length) bk) st).1=true->Bx row bk.length (Bp (Bg (AT bk.length) row) (Bg (AT row.length) bk) st).2/\Bx bk row.length (Bp (Bg (AT bk.length) row) (Bg (AT row.length) bk) st).2:=by
  intro c
  refine OK (Eu c) λc1 c2 e=>?_
  rw[e]
  exact⟨(Br w.inv (lr' w) c1).keep k2,Br w1.inv (lb' w1) c2⟩
 have thru:(Ek row bk st).1=true->(Bx row bk.length (Ek row bk st).2/\Bx bk row.length (Ek row bk st).2)/\Bp (turn row bk) (turn bk row) (Ek row bk st).2=(true,(Ek row bk st).2):=by
  intro c
  rw[eq] at c ⊢
  refine OK (Eu c) λc1 c2 e=>?_
  refine Ea (ranged c1) λR0a R0b=>?_
  refine Ea (step wb R0a R0b) λsk so=>?_
  rw[e]
  have kf:=DR sk 2000 _ (AI.refl wb.inv)
  exact⟨⟨R0a.keep kf,R0b.keep kf⟩,Lu (Iq JK JK) sk 2000 _ (by exact AA [_] [] [] (.u Aj (.p (.n 2000) Aa)) rfl) (AI.refl wb.inv) c2⟩
 have out:J5 sc A nv st (Ek row bk st):=by
  rw[eq]
  refine Fw ob λc1=>?_
  refine Ea (ranged c1) λR0a R0b=>?_
  refine Ea (step wb R0a R0b) λsk so=>?_
  exact QS sk so 2000 _ (AI.refl wb.inv)
 refine XC r.g w nf out kk (λc=>?_) λc hf=>?_
 ·obtain⟨⟨R0a,R0b⟩,q1⟩:=thru c
  have wk:=w.keep kk
  have nf':(Ek row bk st).2.failed=false:=(out.sd c).fl.trans nf
  generalize (Ek row bk st).2=st' at R0a R0b q1 wk nf' ⊢
  unfold Ek
  rw[if_neg (by rw[nf'];simp)]
  exact Gq (Gq (JI λy hy=>Ir wk.inv (lr' wk y hy) (R0a y hy)) (JI λy hy=>Ir wk.inv (lb' wk y hy) (R0b y hy))) (PY 1999 q1)
 ·obtain⟨⟨R0a,R0b⟩,qq⟩:=thru c
  have wk:=w.keep kk
  refine Ea (JH JK JK qq) λp1 p2=>?_
  have vin:∀y∈sc,AL ((Ek row bk st).2.dom y)∈vals ((Ek row bk st).2.dom y):=λy hy=>CV (EF r.g wk hf hy)
  generalize (Ek row bk st).2=st' at R0a R0b p1 p2 kk wk vin hf ⊢
  have mem:(sc.map λy=>AL (st'.dom y))∈BM q m:=by
   rw[hsc,List.map_append]
   refine XH q q1 m m1 hqm _ (Gr (by rw[List.length_map];exact hq) λv hv=>?_) _ (Gr (by rw[List.length_map];exact hm) λv hv=>?_) λi hi j hj=>?_
   ·refine BG (List.mem_map.mp hv) λy hy mN=>?_;subst mN
    rw[←hm];exact R0a y hy _ (vin y (r.hr y hy))
   ·refine BG (List.mem_map.mp hv) λy hy mN=>?_;subst mN
    rw[←hq];exact R0b y hy _ (vin y (r.hb y hy))
   ·have hi:=List.mem_range.mp hi
    have hj:=List.mem_range.mp hj
    have gi:=List.getElem?_eq_getElem (l:=row) (i:=i) (by exact AA [_,_,_] [] [.u Aa Af,.r Ab Af] (.u Aa Ab) rfl hi hq)
    have gj:=List.getElem?_eq_getElem (l:=bk) (i:=j) (by exact AA [_,_,_] [] [.u Aa Af,.r Ab Af] (.u Aa Ab) rfl hj hm)
    rw[List.getD_eq_getElem?_getD,List.getD_eq_getElem?_getD,List.getElem?_map,List.getElem?_map,gi,gj]
    exact⟨λe=>RX r wk hf p1 gi gj e,λe=>RX r.swap wk hf p2 gj gi e⟩
  refine⟨_,hrow _ kk mem vin,λy hy=>?_⟩
  rw[(Mx _).2 y hy]
  exact vin y hy
end
theorem aN(q m:Nat)(sc:List Nat)(st:St)(h1:1<=q)(h2:q<=3)(h3:m=q\/m+q=4)(h4:1<=m)(h5:m<=3)(hsc:sc.length=q+m)(V:Cm sc st)(st':St)(F:J3 st.doms.length (λy=>vals (st.dom y)) st'.trail st'.doms)(nf:st'.failed=false) :
  LN (Ek (sc.take q) (sc.drop q)) sc ((BM q m).filter (C4 sc (AN st))) st':=by
 have hv:=V.len
 have lt:(sc.take q).length=q:=by rw[List.length_take];exact M4 (AA [_,_] [] [.l Aa Ab] (.l Aa Ab) rfl (Nat.min_le_left _ _)) ((Nat.le_total _ _).elim (λmH=>AA [_,_] [] [.r Aa Ab] (.l Ab Aa) rfl (Nat.min_eq_left mH)) (λmH=>AA [_,_,_,_] [] [.r Af (.p Ab Aq),.r Aa Af] (.l Ab Aa) rfl hsc (Nat.min_eq_right mH)))
 have ld:(sc.drop q).length=m:=by rw[List.length_drop];exact M4 (AA [_,_,_,_] [] [.e Ab (.p Af Aq),.e (.p Aa Af) Ab] (.l Aa Aq) rfl hsc (IC (AA [_,_,_] [] [.r Aa (.p Ab Af)] (.l Ab Aa) rfl hsc))) (AA [_,_,_,_] [] [.r Ab (.p Af Aq),.l Ab (.p Aa Af)] (.l Aq Aa) rfl hsc (J7 _ _))
 have g:Ground sc ((BM q m).filter (C4 sc (AN st))) st.doms.length:=⟨V.all,V.lt,λa ha=>by
  have hm:=List.mem_filter.mp ha
  have:=hm.2
  unfold C4 at this
  rw[Bool.and_eq_true] at this
  exact⟨by rw[Fv a hm.1,hsc],this.1⟩⟩
 have same:∀a∈(BM q m).filter (C4 sc (AN st)),q=m/\a∈BM q q:=λa ha=>by
  have h:=(List.mem_filter.mp ha).1
  have e:q=m:=by
   unfold BM at h
   split at h
   ·assumption
   ·cases h
  subst e
  exact⟨rfl,h⟩
 have hq3:q∈[1,2,3]:=by simp;exact Decidable.byContradiction λmL=>(Nat.lt_or_gt_of_ne (not_or.mp (not_or.mp mL).2).1).elim (λmH=>(Nat.lt_or_gt_of_ne (not_or.mp mL).1).elim (λmI=>AA [_] [] [.l Ae Aa,.u Aa Ae] .f rfl h1 mI) (λmI=>AA [_] [] [.u Ae Aa,.u Aa Ar] .f rfl mI mH)) (λmH=>(Nat.lt_or_gt_of_ne (not_or.mp (not_or.mp mL).2).2).elim (λmI=>AA [_] [] [.u Ar Aa,.u Aa An] .f rfl mH mI) (λmI=>AA [_] [] [.u An Aa,.l Aa An] .f rfl mI h2))
 have hm3:m∈[1,2,3]:=by simp;exact Decidable.byContradiction λmL=>(Nat.lt_or_gt_of_ne (not_or.mp (not_or.mp mL).2).1).elim (λmH=>(Nat.lt_or_gt_of_ne (not_or.mp mL).1).elim (λmI=>AA [_] [] [.l Ae Aa,.u Aa Ae] .f rfl h4 mI) (λmI=>AA [_] [] [.u Ae Aa,.u Aa Ar] .f rfl mI mH)) (λmH=>(Nat.lt_or_gt_of_ne (not_or.mp (not_or.mp mL).2).2).elim (λmI=>AA [_] [] [.u Ar Aa,.u Aa An] .f rfl mH mI) (λmI=>AA [_] [] [.u An Aa,.l Aa An] .f rfl mI h5))
 have ix:∀{i x:Nat},(sc.take q)[i]? = some x->sc[i]? = some x/\i<q:=λ{i x} h=>by
  have hi:=(List.getElem?_eq_some_iff.mp h).1
  rw[List.getElem?_take] at h
  rw[lt] at hi
  rw[if_pos hi] at h
  exact⟨h,hi⟩
 have jx:∀{j y:Nat},(sc.drop q)[j]? = some y->sc[q+j]? = some y/\j<m:=λ{j y} h=>by
  have hj:=(List.getElem?_eq_some_iff.mp h).1
  rw[List.getElem?_drop] at h
  rw[ld] at hj
  exact⟨h,hj⟩
 have P:I1 sc ((BM q m).filter (C4 sc (AN st))) st.doms.length (sc.take q) (sc.drop q):=by
  refine⟨g,λx hx=>List.mem_of_mem_take hx,λx hx=>List.mem_of_mem_drop hx,λa ha b hb c hc=>?_,λa ha x hx=>?_,λa ha x hx=>?_⟩
  ·refine Ea (same a ha) λe ha'=>?_
   have i1:=(BY hb).2.2
   have i2:=(BY hc).2.2
   rw[Nat.sub_zero] at i1 i2
   refine Ea (ix i1) λs1 l1=>?_
   refine Ea (jx i2) λs2 l2=>?_
   have ok:=g.ans a ha
   rw[←ok.at s1,←ok.at s2]
   exact(JJ q hq3 a ha').1 b.1 (List.mem_range.mpr l1) c.1 (List.mem_range.mpr (by exact AA [_,_,_] [] [.u Aa Af,.r Ab Af] (.u Aa Ab) rfl l2 e))
  ·refine Ea (same a ha) λe ha'=>?_
   refine Ex (List.getElem?_of_mem hx) λi hi=>?_
   refine Ea (ix hi) λs1 l1=>?_
   rw[←(g.ans a ha).at s1,ld,←e]
   exact(JJ q hq3 a ha').2 i (List.mem_range.mpr (by exact AA [_,_] [] [.u Aa Ab] (.u Aa (.p Ab Ab)) rfl l1))
  ·refine Ea (same a ha) λe ha'=>?_
   refine Ex (List.getElem?_of_mem hx) λi hi=>?_
   refine Ea (jx hi) λs1 l1=>?_
   rw[←(g.ans a ha).at s1,lt]
   exact(JJ q hq3 a ha').2 (q+i) (List.mem_range.mpr (by exact AA [_,_,_] [] [.u Ab Af,.r Aa Af] (.u (.p Aa Ab) (.p Aa Aa)) rfl l1 e))
 have w:Wf st.doms.length st':=⟨F.inv (by exact AA [_,_,_,_] [] [.l Aa Aq,.e Aq (.p Ab Af),.l Ab An,.l Af An] (.l Aa A0) rfl hv hsc h2 h5),F.len,λd hd=>(F.ok d hd).small⟩
 refine aM P (List.take_append_drop q sc).symm lt ld hq3 hm3 h3 w nf λst'' k row vin=>?_
 refine List.mem_filter.mpr ⟨row,?_⟩
 refine Ea (Mx (sc:=sc) λy=>AL (st''.dom y)) λok va=>?_
 unfold C4
 rw[ok.con,Bool.true_and,HK ok V.lt]
 intro y hy
 rw[va y hy]
 exact F.sub y _ (k.sub y _ (vin y hy))
theorem XI(q:Nat)(h1:2<=q)(h2:q<=4)(vs:List Int)(hl:vs.length=q)(hv:∀v∈vs,0<=v/\v<=5):Gn vs=decide (vs∈Bk q):=by
 have e:(vs.map (· + 1)).map (· - 1)=vs:=by
  rw[List.map_map]
  conv=>rhs;rw[←List.map_id vs]
  exact List.map_congr_left λv _=>by show v+1-1=v;exact Int.le_antisymm (AA [] [_] [] (.L (.s (.p Ac Ah) Ah) Ac) rfl) (AA [] [_] [] (.L Ac (.s (.p Ac Ah) Ah)) rfl)
 have:=TB q (by simp;exact Decidable.byContradiction λmL=>(Nat.lt_or_gt_of_ne (not_or.mp (not_or.mp mL).2).1).elim (λmH=>(Nat.lt_or_gt_of_ne (not_or.mp mL).1).elim (λmI=>AA [_] [] [.l Ar Aa,.u Aa Ar] .f rfl h1 mI) (λmI=>AA [_] [] [.u Ar Aa,.u Aa An] .f rfl mI mH)) (λmH=>(Nat.lt_or_gt_of_ne (not_or.mp (not_or.mp mL).2).2).elim (λmI=>AA [_] [] [.u An Aa,.u Aa As] .f rfl mH mI) (λmI=>AA [_] [] [.u As Aa,.l Aa As] .f rfl mI h2))) (vs.map (· + 1)) (Gr (by rw[List.length_map,hl]) λv hv'=>by
  refine BG (List.mem_map.mp hv') λu hu mN=>?_;subst mN
  have:=hv u hu
  exact⟨AA [] [_] [.L Ak Ac] (.L Ah (.p Ac Ah)) rfl this.1,AA [] [_] [.L Ac (.n 5)] (.L (.p Ac Ah) (.c (.n 6))) rfl this.2⟩)
 rw[e] at this
 exact this
theorem Lw{α:Type}:∀(xs:List α) (i:Nat),(CR i xs).length=xs.length
 |[],_=>rfl
 |_::xs,i=>by show(CR (i+1) xs).length+1=_;rw[Lw xs (i+1)];rfl
theorem XJ(vs:List Int):(Fb vs).length=vs.length:=by unfold Fb;rw[List.length_map,Lw]
theorem U5(vs:List Int):(Df vs).length=vs.length:=by unfold Df;rw[List.length_map,Lw]
theorem XK{vs:List Int}{v:Int}(h:v∈vs):∃k:Int,(k,v)∈Fb vs:=by
 refine Ex (List.getElem?_of_mem h) λi hi=>?_
 have:=DW (i:=0) hi
 exact⟨_,List.mem_map.mpr ⟨_,this,rfl⟩⟩
theorem U6{vs:List Int}{v:Int}(h:v∈vs):∃k:Int,(v,k)∈Df vs:=by
 refine Ex (List.getElem?_of_mem h) λi hi=>?_
 have:=DW (i:=0) hi
 exact⟨_,List.mem_map.mpr ⟨_,this,rfl⟩⟩
theorem XM{vs:List Int}(h:p∈Fb vs):1<=p.1/\p.1<=vs.length:=by
 refine BG (List.mem_map.mp h) λb hb mN=>?_;subst mN
 refine OK (BY hb) λ_ _ e=>?_
 have:=(List.getElem?_eq_some_iff.mp e).1
 simp only
 exact⟨AA [_] [] [] (.L Ah (.p Ag Ah)) rfl,AA [_,_,_] [] [.u Af Ab,.l Aa (.p Af Am)] (.L (.p Ag Ah) Al) rfl this (J7 _ _)⟩
theorem U7{vs:List Int}(h:p∈Df vs):1<=p.2/\p.2<=vs.length:=by
 refine BG (List.mem_map.mp h) λb hb mN=>?_;subst mN
 refine OK (BY hb) λ_ _ e=>?_
 have:=(List.getElem?_eq_some_iff.mp e).1
 simp only
 exact⟨AA [_] [] [] (.L Ah (.p Ag Ah)) rfl,AA [_,_,_] [] [.u Af Ab,.l Aa (.p Af Am)] (.L (.p Ag Ah) Al) rfl this (J7 _ _)⟩
theorem XN(q m:Nat)(h1:1<=q)(h2:q<=3)(h3:m=q\/m+q=4)(vs:List Int)(hl:vs.length=q+m)(hv:∀v∈vs,0<=v/\v<=5):Go q vs↔vs∈BM q m:=by
 have lt:(vs.take q).length=q:=by rw[List.length_take];exact M4 (AA [_,_] [] [.l Aa Ab] (.l Aa Ab) rfl (Nat.min_le_left _ _)) ((Nat.le_total _ _).elim (λmH=>AA [_,_] [] [.r Aa Ab] (.l Ab Aa) rfl (Nat.min_eq_left mH)) (λmH=>AA [_,_,_,_] [] [.r Af (.p Ab Aq),.r Aa Af] (.l Ab Aa) rfl hl (Nat.min_eq_right mH)))
 have ld:(vs.drop q).length=m:=by rw[List.length_drop];exact M4 (AA [_,_,_,_] [] [.e Ab (.p Af Aq),.e (.p Aa Af) Ab] (.l Aa Aq) rfl hl (IC (AA [_,_,_] [] [.r Aa (.p Ab Af)] (.l Ab Aa) rfl hl))) (AA [_,_,_,_] [] [.r Ab (.p Af Aq),.l Ab (.p Aa Af)] (.l Aq Aa) rfl hl (J7 _ _))
 by_cases e:q=m
 ·subst e
  have C5:(∀v∈vs,1<=v/\v<=(q:Int))->(Go q vs↔vs∈BM q q):=λh=>U4 q (by simp;exact Decidable.byContradiction λmL=>(Nat.lt_or_gt_of_ne (not_or.mp (not_or.mp mL).2).1).elim (λmH=>(Nat.lt_or_gt_of_ne (not_or.mp mL).1).elim (λmI=>AA [_] [] [.l Ae Aa,.u Aa Ae] .f rfl h1 mI) (λmI=>AA [_] [] [.u Ae Aa,.u Aa Ar] .f rfl mI mH)) (λmH=>(Nat.lt_or_gt_of_ne (not_or.mp (not_or.mp mL).2).2).elim (λmI=>AA [_] [] [.u Ar Aa,.u Aa An] .f rfl mH mI) (λmI=>AA [_] [] [.u An Aa,.l Aa An] .f rfl mI h2))) vs (Gr hl h)
  constructor
  ·intro hp
   refine(C5 λv hv=>?_).mp hp
   have hp:(Fb (vs.take q)).Perm (Df (vs.drop q)):=hp
   rw[←List.take_append_drop q vs] at hv
   rcases List.mem_append.mp hv with hv|hv
   ·refine Ex (XK hv) λk hk=>?_
    have:=U7 (hp.mem_iff.mp hk)
    rw[ld] at this
    exact this
   ·refine Ex (U6 hv) λk hk=>?_
    have:=XM (hp.mem_iff.mpr hk)
    rw[lt] at this
    exact this
  ·intro hr
   refine(C5 λv hv=>?_).mpr hr
   obtain⟨i,hi,rfl⟩:=List.mem_iff_getElem.mp hv
   have:=(JJ q (by simp;exact Decidable.byContradiction λmL=>(Nat.lt_or_gt_of_ne (not_or.mp (not_or.mp mL).2).1).elim (λmH=>(Nat.lt_or_gt_of_ne (not_or.mp mL).1).elim (λmI=>AA [_] [] [.l Ae Aa,.u Aa Ae] .f rfl h1 mI) (λmI=>AA [_] [] [.u Ae Aa,.u Aa Ar] .f rfl mI mH)) (λmH=>(Nat.lt_or_gt_of_ne (not_or.mp (not_or.mp mL).2).2).elim (λmI=>AA [_] [] [.u Ar Aa,.u Aa An] .f rfl mH mI) (λmI=>AA [_] [] [.u An Aa,.l Aa An] .f rfl mI h2))) vs hr).2 i (List.mem_range.mpr (by exact AA [_,_,_] [] [.u Aa Af,.e Af (.p Ab Ab)] (.u Aa (.p Ab Ab)) rfl hi hl))
   rw[List.getD_eq_getElem?_getD,List.getElem?_eq_getElem hi] at this
   exact this
 ·constructor
  ·intro hp
   have hp:(Fb (vs.take q)).Perm (Df (vs.drop q)):=hp
   have:=hp.length_eq
   rw[XJ,U5,lt,ld] at this
   exact absurd this e
  ·intro hr
   unfold BM at hr
   rw[if_neg e] at hr
   cases hr
def FX(s:Stmt)(q m:Str)(n c:Nat):FuncData:={fd s q with globals:=3,pyModule:=sv m n,code:=rf c}
theorem hY{a b:Str}{n l k f:Nat}{v:Value}{c:Bool}{r:List Value}{m:Nat}:∃vs t,(oC a b n l k f v c r m).data= .fields vs/\vs[1]? = some (.str b t):=⟨_,n+1,rfl,rfl⟩
theorem BO{P:Params}{f:Addr}{ps nm:List Str}{ir:Ss}(s:Stmt)(q m:Str)(n:Nat)(c:Addr)(a:Str)(n' l k f':Nat)(v:Value)(cc:Bool)(r:List Value)(m':Nat)(hb:∀ws,ws.length=ps.length->bindArgs (FX s q m n c) ⟨ws,[]⟩=pure (ps.zip ws))(h1:(KF P).lookup f=some (oD s q m n c):=by kernel_rfl)(h2:(KF P).lookup c=some (oC a q n' l k f' v cc r m'):=by kernel_rfl)(h3:(KQ (Gu s) ps&&MZ ir (Gu s) (My s))=true:=by kernel_rfl)(h4:(MY ir (My s),(Gu s).names.map (·.1))=(My s,nm):=by kernel_rfl):AV (KF P) f ps nm ir:=by
 obtain⟨h,o⟩:=Bool.and_eq_true_iff.mp h3
 obtain⟨vs,t,e2,e3⟩:=@hY a q n' l k f' v cc r m'
 obtain⟨t1,t2⟩:=Prod.mk.inj h4
 exact⟨My s,Gu s,⟨_,FX s q m n c,c,_,vs,t,h1,rfl,rfl,rfl,rfl,rfl,rfl,rfl,h2,e2,e3,hb⟩,h,⟨t1,o⟩,t2⟩
noncomputable def ji:Nat->(List Value->Prop)->Prop
 |0,Q=>Q []
 |n+1,Q=>∀a,ji n λl=>Q (a::l)
theorem bn(n:Nat):∀{Q:List Value->Prop},ji n Q->∀ws,ws.length=n->Q ws:=by
 induction n with
 |zero=>intro Q h ws e;rw[List.length_eq_zero_iff.mp e];exact h
 |succ n ih =>
  intro Q h ws e
  cases ws with
  |nil=>cases e
  |cons a l=>exact ih (h a) l (Nat.succ.inj e)
theorem ia{B:Base}{P:Params}(e:B.K=KF P){ns:Addr}{x:Str}{b:Addr}{Q:Frag->Addr->Prop}(h:nsIn (KF P) ns x=some (some (.ref b)))(q:Q (KF P) b):∀a,nsIn B.K ns x=some (some (.ref a))->Q B.K a:=λa k=>by
 rw[e] at k ⊢
 rw[h] at k
 cases k
 exact q
theorem mD{B:Base}{P:Params}(e:B.K=KF P){C:Addr}{x:Str}{b:Addr}{Q:Frag->Addr->Prop}(h:(AU (KF P) C x b&&keepIn (KF P) (.ref b))=true)(q:Q (KF P) b):∀a,AU B.K C x a=true->Q B.K a:=λa k=>by
 rw[e] at k ⊢
 have h:=(Bool.and_eq_true_iff.mp h).1
 unfold AU at h k
 simp only[Bool.and_eq_true,beq_iff_eq] at h k
 rw[h.1.2] at k
 cases k.1.2
 exact q
theorem Mh{B:Base}{P:Params}(e:B.K=KF P){ns:Addr}{x:Str}{b:Addr}{ps nm:List Str}{ir:Ss}(r:AV (KF P) b ps nm ir)(h:nsIn (KF P) ns x=some (some (.ref b)):=by kernel_rfl):∀a,nsIn B.K ns x=some (some (.ref a))->AV B.K a ps nm ir:=ia e (Q:=λK a=>AV K a ps nm ir) h r
theorem mR{B:Base}{P:Params}(e:B.K=KF P){C:Addr}{x:Str}{b:Addr}{ps nm:List Str}{ir:Ss}(h:(AU (KF P) C x b&&keepIn (KF P) (.ref b))=true)(r:AV (KF P) b ps nm ir):∀a,AU B.K C x a=true->AV B.K a ps nm ir:=mD e (Q:=λK a=>AV K a ps nm ir) h r
theorem hD{B:Base}{P:Params}(e:B.K=KF P){C:Addr}{x:Str}{b:Addr}(h:(AU (KF P) C x b&&keepIn (KF P) (.ref b))=true):hasM B C x:=by
 unfold hasM
 rw[e]
 exact⟨b,Bool.and_eq_true_iff.mp h⟩
theorem oK{B:Base}{P:Params}(e:B.K=KF P)(Q:Frag->Prop)(h:Q (KF P):=by kernel_rfl):Q B.K:=e▸h
theorem QU(P:Params):AV (KF P) 28 JS JT F6:=BO (fT 2) "put_behind" "fdsolve.domains" 194 27 "put_behind" 196 5 3 3 (rf 22) true (CW 23) 202 (bn 3 λa b c=>rfl)
theorem On(P:Params):AV (KF P) 35 IR IS FD:=BO (fT 3) "from_values" "fdsolve.domains" 194 34 "from_values" 205 11 1 3 (rf 29) true (CW 30) 211 (bn 1 λa=>rfl)
theorem RY(P:Params):AV (KF P) 56 KT KU G0:=BO (fT 6) "next_from" "fdsolve.domains" 194 55 "next_from" 228 20 2 3 (rf 50) true (CW 51) 235 (bn 2 λa b=>rfl)
theorem XO(P:Params):AV (KF P) 70 PA PD Ld:=BO (fT 9) "values" "fdsolve.domains" 194 69 "values" 247 28 1 3 (rf 64) true (CW 65) 254 (bn 1 λa=>rfl)
theorem aO(P:Params):AV (KF P) 75 Q4 Q5 NZ:=BO (fT 10) "up_to" "fdsolve.domains" 194 74 "up_to" 257 33 2 3 (rf 71) true (LO 72) 260 (bn 2 λa b=>rfl)
theorem U8(P:Params):AV (KF P) 80 Na Nb Js:=BO (fT 11) "from_on" "fdsolve.domains" 194 79 "from_on" 263 35 2 3 (rf 76) true (LO 77) 266 (bn 2 λa b=>rfl)
theorem U9(P:Params):AV (KF P) 87 Nc Nd Jt:=BO (fT 12) "without" "fdsolve.domains" 194 86 "without" 269 37 2 3 (rf 81) true (CW 82) 274 (bn 2 λa b=>rfl)
theorem dn(P:Params):AV (KF P) 94 Th Ti QE:=BO (fT 13) "meet" "fdsolve.domains" 194 93 "meet" 277 39 2 3 (rf 88) true (CW 89) 287 (bn 2 λa b=>rfl)
theorem TD(P:Params):AV (KF P) 101 L8 L9 IT:=BO (fT 14) "negation" "fdsolve.domains" 194 100 "negation" 290 50 1 3 (rf 95) true (CW 96) 297 (bn 1 λa=>rfl)
theorem XQ(P:Params):AV (KF P) 108 PE PG Le:=BO (fT 15) "struck" "fdsolve.domains" 194 107 "struck" 300 57 2 3 (rf 102) true (CW 103) 307 (bn 2 λa b=>rfl)
theorem Hs(P:Params):(AU (KF P) 265 "new_var" 136&&keepIn (KF P) (.ref 136))=true:=by kernel_rfl
theorem Mi(P:Params):AV (KF P) 136 GQ GR Dq:=BO (fM 18 1) "Store.new_var" "fdsolve.store" 319 135 "new_var" 340 82 2 3 (rf 130) true (CW 131) 345 (bn 2 λa b=>rfl)
theorem LG(P:Params):(AU (KF P) 265 "size" 143&&keepIn (KF P) (.ref 143))=true:=by kernel_rfl
theorem QV(P:Params):AV (KF P) 143 JU JV GA:=BO (fM 18 2) "Store.size" "fdsolve.store" 319 142 "size" 348 89 1 3 (rf 137) true (CW 138) 352 (bn 1 λa=>rfl)
theorem MO(P:Params):(AU (KF P) 265 "dom" 150&&keepIn (KF P) (.ref 150))=true:=by kernel_rfl
theorem RZ(P:Params):AV (KF P) 150 KW KY G3:=BO (fM 18 3) "Store.dom" "fdsolve.store" 319 149 "dom" 355 92 2 3 (rf 144) true (CW 145) 360 (bn 2 λa b=>rfl)
theorem Ht(P:Params):(AU (KF P) 265 "initial" 157&&keepIn (KF P) (.ref 157))=true:=by kernel_rfl
theorem Mj(P:Params):AV (KF P) 157 GS GT Dr:=BO (fM 18 4) "Store.initial" "fdsolve.store" 319 156 "initial" 363 95 2 3 (rf 151) true (CW 152) 368 (bn 2 λa b=>rfl)
theorem MP(P:Params):(AU (KF P) 265 "has" 178&&keepIn (KF P) (.ref 178))=true:=by kernel_rfl
theorem Ra(P:Params):AV (KF P) 178 KZ Ka G4:=BO (fM 18 7) "Store.has" "fdsolve.store" 319 177 "has" 387 104 3 3 (rf 172) true (CW 173) 393 (bn 3 λa b c=>rfl)
theorem Gs(P:Params):(AU (KF P) 265 "is_fixed" 185&&keepIn (KF P) (.ref 185))=true:=by kernel_rfl
theorem Lx(P:Params):AV (KF P) 185 Fm Fn Da:=BO (fM 18 8) "Store.is_fixed" "fdsolve.store" 319 184 "is_fixed" 396 107 2 3 (rf 179) true (CW 180) 402 (bn 2 λa b=>rfl)
theorem Jc(P:Params):(AU (KF P) 265 "value" 192&&keepIn (KF P) (.ref 192))=true:=by kernel_rfl
theorem Oo(P:Params):AV (KF P) 192 IU IV FE:=BO (fM 18 9) "Store.value" "fdsolve.store" 319 191 "value" 405 111 2 3 (rf 186) true (CW 187) 410 (bn 2 λa b=>rfl)
theorem Jd(P:Params):(AU (KF P) 265 "enter" 213&&keepIn (KF P) (.ref 213))=true:=by kernel_rfl
theorem Op(P:Params):AV (KF P) 213 IW IX FF:=BO (fM 18 12) "Store.enter" "fdsolve.store" 319 212 "enter" 429 120 4 3 (rf 207) true (CW 208) 439 (bn 4 λa b c d=>rfl)
theorem It(P:Params):(AU (KF P) 265 "strike" 220&&keepIn (KF P) (.ref 220))=true:=by kernel_rfl
theorem OA(P:Params):AV (KF P) 220 HR HS EL:=BO (fM 18 13) "Store.strike" "fdsolve.store" 319 219 "strike" 442 133 3 3 (rf 214) true (CW 215) 448 (bn 3 λa b c=>rfl)
theorem Iu(P:Params):(AU (KF P) 265 "decide" 227&&keepIn (KF P) (.ref 227))=true:=by kernel_rfl
theorem OB(P:Params):AV (KF P) 227 HT HU EM:=BO (fM 18 14) "Store.decide" "fdsolve.store" 319 226 "decide" 451 136 2 3 (rf 221) true (CW 222) 456 (bn 2 λa b=>rfl)
theorem LH(P:Params):(AU (KF P) 265 "fail" 234&&keepIn (KF P) (.ref 234))=true:=by kernel_rfl
theorem QW(P:Params):AV (KF P) 234 JW JX GB:=BO (fM 18 15) "Store.fail" "fdsolve.store" 319 233 "fail" 459 139 2 3 (rf 228) true (CW 229) 464 (bn 2 λa b=>rfl)
theorem LJ(P:Params):(AU (KF P) 265 "push" 241&&keepIn (KF P) (.ref 241))=true:=by kernel_rfl
theorem QX(P:Params):AV (KF P) 241 JY JZ GC:=BO (fM 18 16) "Store.push" "fdsolve.store" 319 240 "push" 467 144 1 3 (rf 235) true (CW 236) 471 (bn 1 λa=>rfl)
theorem MQ(P:Params):(AU (KF P) 265 "pop" 248&&keepIn (KF P) (.ref 248))=true:=by kernel_rfl
theorem Rb(P:Params):AV (KF P) 248 Kc Kd G5:=BO (fM 18 17) "Store.pop" "fdsolve.store" 319 247 "pop" 474 147 2 3 (rf 242) true (CW 243) 481 (bn 2 λa b=>rfl)
theorem Je(P:Params):(AU (KF P) 265 "depth" 255&&keepIn (KF P) (.ref 255))=true:=by kernel_rfl
theorem Oq(P:Params):AV (KF P) 255 IY IZ FG:=BO (fM 18 18) "Store.depth" "fdsolve.store" 319 254 "depth" 484 159 1 3 (rf 249) true (CW 250) 488 (bn 1 λa=>rfl)
theorem Ee(P:Params):(AU (KF P) 370 "propagate" 334&&keepIn (KF P) (.ref 334))=true:=by kernel_rfl
theorem JN(P:Params):AV (KF P) 334 D8 D9 C0:=BO (fM 21 1) "Circuit.propagate" "fdsolve.order" 569 333 "propagate" 592 185 2 3 (rf 328) true (CW 329) 600 (bn 2 λa b=>rfl)
theorem Iv(P:Params):(AU (KF P) 370 "part" 341&&keepIn (KF P) (.ref 341))=true:=by kernel_rfl
theorem OC(P:Params):AV (KF P) 341 Ha Hb EN:=BO (fM 21 2) "Circuit.part" "fdsolve.order" 569 340 "part" 603 198 2 3 (rf 335) true (CW 336) 613 (bn 2 λa b=>rfl)
theorem EG(P:Params):(AU (KF P) 370 "open_rings" 348&&keepIn (KF P) (.ref 348))=true:=by kernel_rfl
theorem Iw(P:Params):AV (KF P) 348 Dj Dk Cs:=BO (fM 21 3) "Circuit.open_rings" "fdsolve.order" 569 347 "open_rings" 616 207 2 3 (rf 342) true (CW 343) 626 (bn 2 λa b=>rfl)
theorem Hu(P:Params):(AU (KF P) 370 "reach" 353&&keepIn (KF P) (.ref 353))=true:=by kernel_rfl
theorem Mk(P:Params):AV (KF P) 353 GX GY Ds:=BO (fM 21 4) "Circuit.reach" "fdsolve.order" 569 352 "reach" 629 224 2 3 (rf 349) true (LO 350) 632 (bn 2 λa b=>rfl)
theorem Hv(P:Params):(AU (KF P) 370 "check" 360&&keepIn (KF P) (.ref 360))=true:=by kernel_rfl
theorem Ml(P:Params):AV (KF P) 360 GZ Ga Dt:=BO (fM 21 5) "Circuit.check" "fdsolve.order" 569 359 "check" 635 235 2 3 (rf 354) true (CW 355) 643 (bn 2 λa b=>rfl)
theorem Ix(P:Params):(AU (KF P) 370 "told" 367&&keepIn (KF P) (.ref 367))=true:=by kernel_rfl
theorem OD(P:Params):AV (KF P) 367 Hc Hd EO:=BO (fM 21 6) "Circuit.told" "fdsolve.order" 569 366 "told" 646 244 1 3 (rf 361) true (CW 362) 650 (bn 1 λa=>rfl)
theorem Ef(P:Params):(AU (KF P) 417 "propagate" 395&&keepIn (KF P) (.ref 395))=true:=by kernel_rfl
theorem JO(P:Params):AV (KF P) 395 EB EC C1:=BO (fM 22 1) "Inverse.propagate" "fdsolve.order" 569 394 "propagate" 680 253 2 3 (rf 389) true (CW 390) 689 (bn 2 λa b=>rfl)
theorem Iy(P:Params):(AU (KF P) 417 "turn" 402&&keepIn (KF P) (.ref 402))=true:=by kernel_rfl
theorem OE(P:Params):AV (KF P) 402 Hh Hi EP:=BO (fM 22 2) "Inverse.turn" "fdsolve.order" 569 401 "turn" 692 267 4 3 (rf 396) true (CW 397) 704 (bn 4 λa b c d=>rfl)
theorem Hw(P:Params):(AU (KF P) 417 "check" 407&&keepIn (KF P) (.ref 407))=true:=by kernel_rfl
theorem Mm(P:Params):AV (KF P) 407 Ge Gf Du:=BO (fM 22 3) "Inverse.check" "fdsolve.order" 569 406 "check" 707 279 2 3 (rf 403) true (LO 404) 710 (bn 2 λa b=>rfl)
theorem Iz(P:Params):(AU (KF P) 417 "told" 414&&keepIn (KF P) (.ref 414))=true:=by kernel_rfl
theorem OF(P:Params):AV (KF P) 414 Hj Hk EQ:=BO (fM 22 4) "Inverse.told" "fdsolve.order" 569 413 "told" 713 285 1 3 (rf 408) true (CW 409) 717 (bn 1 λa=>rfl)
theorem Rc(P:Params):AV (KF P) 424 Ke Kg G6:=BO (fT 24) "_law_tape" "law_no0322_01" 727 423 "_law_tape" 729 288 1 3 (rf 420) true (LO 421) 732 (bn 1 λa=>rfl)
theorem Rd(P:Params):AV (KF P) 431 Kh Ki G7:=BO (fT 25) "_law_draw" "law_no0322_01" 727 430 "_law_draw" 735 290 2 3 (rf 425) true (CW 426) 741 (bn 2 λa b=>rfl)
theorem Re(P:Params):AV (KF P) 436 Kj Kk G8:=BO (fT 26) "_law_rows" "law_no0322_01" 727 435 "_law_rows" 744 296 1 3 (rf 432) true (LO 433) 747 (bn 1 λa=>rfl)
theorem OG(P:Params):AV (KF P) 443 Hn Ho ER:=BO (fT 27) "_law_is_ring" "law_no0322_01" 727 442 "_law_is_ring" 750 304 1 3 (rf 437) true (CW 438) 756 (bn 1 λa=>rfl)
theorem OH(P:Params):AV (KF P) 448 Hp Hq ES:=BO (fT 28) "_law_answers" "law_no0322_01" 727 447 "_law_answers" 759 309 2 3 (rf 444) true (LO 445) 762 (bn 2 λa b=>rfl)
theorem Rf(P:Params):AV (KF P) 455 Kl Km G9:=BO (fT 29) "_law_says" "law_no0322_01" 727 454 "_law_says" 765 319 2 3 (rf 449) true (CW 450) 773 (bn 2 λa b=>rfl)
theorem QY(P:Params):AV (KF P) 462 Ja Jb GE:=BO (fT 30) "_law_keeps" "law_no0322_01" 727 461 "_law_keeps" 776 322 3 3 (rf 456) true (CW 457) 785 (bn 3 λa b c=>rfl)
theorem Os(P:Params):AV (KF P) 467 Ia Ib FP:=BO (fT 31) "_law_within" "law_no0322_01" 727 466 "_law_within" 788 328 3 3 (rf 463) true (LO 464) 791 (bn 3 λa b c=>rfl)
theorem Rg(P:Params):AV (KF P) 472 Kn Ko HA:=BO (fT 32) "_law_hold" "law_no0322_01" 727 471 "_law_hold" 794 330 2 3 (rf 468) true (LO 469) 797 (bn 2 λa b=>rfl)
theorem I0(P:Params):AV (KF P) 477 Dl Dm Ct:=BO (fT 33) "_law_entries_right" "law_no0322_01" 727 476 "_law_entries_right" 800 335 5 3 (rf 473) true (LO 474) 803 (bn 5 λa b c d e=>rfl)
theorem J1(P:Params):AV (KF P) 482 Eb Ec DA:=BO (fT 34) "_law_asked_right" "law_no0322_01" 727 481 "_law_asked_right" 806 347 4 3 (rf 478) true (LO 479) 809 (bn 4 λa b c d=>rfl)
theorem Rh(P:Params):AV (KF P) 487 Kp Kq Ch:=BO (fT 35) "_law_made" "law_no0322_01" 727 486 "_law_made" 812 370 1 3 (rf 483) true (LO 484) 815 (bn 1 λa=>rfl)
theorem LK(P:Params):AV (KF P) 492 FQ FR Ci:=BO (fT 36) "_law_told_right" "law_no0322_01" 727 491 "_law_told_right" 818 392 5 3 (rf 488) true (LO 489) 821 (bn 5 λa b c d e=>rfl)
theorem hZ(P:Params):AV (KF P) 497 WU WV QF:=BO (fT 37) "law" "law_no0322_01" 727 496 "law" 824 401 1 3 (rf 493) true (LO 494) 827 (bn 1 λa=>rfl)
theorem Ot(P:Params):AV (KF P) 63 WR WT SY:=BO (fT 7) "has" "fdsolve.domains" 194 62 "has" 238 25 2 3 (rf 57) true (CW 58) 243 (bn 2 λa b=>rfl)
theorem QZ(P:Params):AV (KF P) 129 F8 F9 F7:=BO (fM 18 0) "Store.__init__" "fdsolve.store" 319 128 "__init__" 333 72 1 3 (rf 123) true (CW 124) 337 (bn 1 λa=>rfl)
theorem Fz(P:Params):AV (KF P) 283 CN CO CM:=BO (fM 19 0) "Propagator.__init__" "fdsolve.store" 319 282 "__init__" 526 166 3 3 (rf 277) true (CW 278) 532 (bn 3 λa b c=>rfl)
theorem VA{B:Base}{P:Params}(e:B.K=KF P)(e':B.prog=pw):JC B 327 370 283 HY HZ D7 HX:=by
 obtain⟨bp,bw,bK,h0,mg,mb,z1,z2,z3,z4,z5,z6,z7⟩:=B
 dsimp only at e e'
 subst e e'
 exact⟨_,_,_,_,_,_,_,Gu (fM 21 0),⟨⟨315,326,ZE P,_,ZD P,_,_,_,_,_,ZC P,rfl,rfl,rfl,rfl,rfl,rfl,rfl,rfl,rfl,rfl,rfl,bn 2 λa b=>rfl,rfl,rfl,rfl,by kernel_rfl,rfl,rfl⟩,⟨_,rfl⟩,by kernel_rfl,by kernel_rfl,by kernel_rfl,by kernel_rfl,by kernel_rfl,by kernel_rfl⟩,by kernel_rfl,by kernel_rfl,by kernel_rfl,by decide,⟨by kernel_rfl,by kernel_rfl⟩,⟨by kernel_rfl,by kernel_rfl⟩,by kernel_rfl⟩
theorem VB{B:Base}{P:Params}(e:B.K=KF P)(e':B.prog=pw):JC B 388 417 283 Hf Hg EA He:=by
 obtain⟨bp,bw,bK,h0,mg,mb,z1,z2,z3,z4,z5,z6,z7⟩:=B
 dsimp only at e e'
 subst e e'
 exact⟨_,_,_,_,_,_,_,Gu (fM 22 0),⟨⟨376,387,cR P,_,cQ P,_,_,_,_,_,cP P,rfl,rfl,rfl,rfl,rfl,rfl,rfl,rfl,rfl,rfl,rfl,bn 3 λa b c=>rfl,rfl,rfl,rfl,by kernel_rfl,rfl,rfl⟩,⟨_,rfl⟩,by kernel_rfl,by kernel_rfl,by kernel_rfl,by kernel_rfl,by kernel_rfl,by kernel_rfl⟩,by kernel_rfl,by kernel_rfl,by kernel_rfl,by decide,⟨by kernel_rfl,by kernel_rfl⟩,⟨by kernel_rfl,by kernel_rfl⟩,by kernel_rfl⟩
theorem prog{B:Base}{P:Params}(e:B.K=KF P)(e':B.prog=pw):AS B 265 370 417:=⟨
 Mh e (QU P),
 Mh e (On P),
 Mh e (RY P),
 Mh e (XO P),
 Mh e (aO P),
 Mh e (U8 P),
 Mh e (U9 P),
 Mh e (dn P),
 Mh e (TD P),
 Mh e (XQ P),
 hD e (Hs P),
 mR e (Hs P) (Mi P),
 hD e (LG P),
 mR e (LG P) (QV P),
 hD e (MO P),
 mR e (MO P) (RZ P),
 hD e (Ht P),
 mR e (Ht P) (Mj P),
 hD e (MP P),
 mR e (MP P) (Ra P),
 hD e (Gs P),
 mR e (Gs P) (Lx P),
 hD e (Jc P),
 mR e (Jc P) (Oo P),
 hD e (Jd P),
 mR e (Jd P) (Op P),
 hD e (It P),
 mR e (It P) (OA P),
 hD e (Iu P),
 mR e (Iu P) (OB P),
 hD e (LH P),
 mR e (LH P) (QW P),
 hD e (LJ P),
 mR e (LJ P) (QX P),
 hD e (MQ P),
 mR e (MQ P) (Rb P),
 hD e (Je P),
 mR e (Je P) (Oq P),
 hD e (Ee P),
 mR e (Ee P) (JN P),
 hD e (Iv P),
 mR e (Iv P) (OC P),
 hD e (EG P),
 mR e (EG P) (Iw P),
 hD e (Hu P),
 mR e (Hu P) (Mk P),
 hD e (Hv P),
 mR e (Hv P) (Ml P),
 hD e (Ix P),
 mR e (Ix P) (OD P),
 hD e (Ef P),
 mR e (Ef P) (JO P),
 hD e (Iy P),
 mR e (Iy P) (OE P),
 hD e (Hw P),
 mR e (Hw P) (Mm P),
 hD e (Iz P),
 mR e (Iz P) (OF P),
 Mh e (Rc P),
 Mh e (Rd P),
 Mh e (Re P),
 Mh e (OG P),
 Mh e (OH P),
 Mh e (Rf P),
 Mh e (QY P),
 Mh e (Os P),
 Mh e (Rg P),
 Mh e (I0 P),
 Mh e (J1 P),
 Mh e (Rh P),
 Mh e (LK P),
 Mh e (hZ P),
 Mh e (Ot P),
 oK e λK=>BS K 265 "domains"=true,
 oK e λK=>B0 K 265 "domains"=true,
 oK e λK=>BS K 265 "firsts"=true,
 oK e λK=>B0 K 265 "firsts"=true,
 oK e λK=>BS K 265 "trail"=true,
 oK e λK=>B0 K 265 "trail"=true,
 oK e λK=>BS K 265 "marks"=true,
 oK e λK=>B0 K 265 "marks"=true,
 oK e λK=>BS K 265 "news"=true,
 oK e λK=>B0 K 265 "news"=true,
 oK e λK=>BS K 265 "speaker"=true,
 oK e λK=>B0 K 265 "speaker"=true,
 oK e λK=>BS K 265 "is_failed"=true,
 oK e λK=>B0 K 265 "is_failed"=true,
 oK e λK=>BS K 265 "clash"=true,
 oK e λK=>B0 K 265 "clash"=true,
 ia e (b:=265) (Q:=λ_ a=>a=265) (by kernel_rfl) rfl,
 oK e λK=>makesIn K 265=true,
 oK e λK=>BS K 370 "number"=true,
 oK e λK=>B0 K 370 "number"=true,
 oK e λK=>BS K 370 "scope"=true,
 oK e λK=>B0 K 370 "scope"=true,
 oK e λK=>BS K 370 "strength"=true,
 oK e λK=>B0 K 370 "strength"=true,
 ia e (b:=370) (Q:=λ_ a=>a=370) (by kernel_rfl) rfl,
 oK e λK=>makesIn K 370=true,
 oK e λK=>BS K 417 "number"=true,
 oK e λK=>B0 K 417 "number"=true,
 oK e λK=>BS K 417 "scope"=true,
 oK e λK=>B0 K 417 "scope"=true,
 oK e λK=>BS K 417 "strength"=true,
 oK e λK=>B0 K 417 "strength"=true,
 oK e λK=>BS K 417 "fs"=true,
 oK e λK=>B0 K 417 "fs"=true,
 oK e λK=>BS K 417 "gs"=true,
 oK e λK=>B0 K 417 "gs"=true,
 ia e (b:=417) (Q:=λ_ a=>a=417) (by kernel_rfl) rfl,
 oK e λK=>makesIn K 417=true,
 ⟨129,oK e λK=>findIn K (.ref 265) "__init__"=some (some (.ref 129)),oK e λK=>typeIn K (.ref 129)=some (.type "function"),oK e (λK=>AV K 129 F8 F9 F7) (QZ P)⟩,
 ⟨327,283,oK e λK=>findIn K (.ref 370) "__init__"=some (some (.ref 327)),oK e λK=>typeIn K (.ref 327)=some (.type "function"),VA e e',oK e (λK=>AV K 283 CN CO CM) (Fz P)⟩,
 ⟨388,283,oK e λK=>findIn K (.ref 417) "__init__"=some (some (.ref 388)),oK e λK=>typeIn K (.ref 388)=some (.type "function"),VB e e',oK e (λK=>AV K 283 CN CO CM) (Fz P)⟩⟩
noncomputable def wl(h:Heap):Value->WData->Prop
 |.ref a,.list _=>∃vs:List Value,h.get? a=some {cls:=.type "list",data:=.seq vs.toArray}
 |_,_=>True
theorem jj{P:Params}{h:Heap}{v:Value}{d:WData}(x:Well P h v d):wl h v d:=by
 cases x<;>first|exact trivial|exact⟨_,‹_›⟩
theorem VC{h:Heap}{H:KH}{vs:List Value}{ns:List Int}(I:IntsAre vs ns):AR h H vs (AC ns):=by
 induction I with
 |nil=>exact .nil
 |cons i t _ ih=>exact .cons (.int i t) ih
theorem dq{h:Heap}{a:Addr}{vs:List Value}{ns:List Int}(L:h.IsList a vs.toArray)(I:IntsAre vs ns)(w:∃us:List Value,h.get? a=some {cls:=.type "list",data:=.seq us.toArray})(hn:ns.length<=63):BN h (λ_=>none) (.ref a) (.lst (AC ns)):=by
 obtain⟨o,e,-,m,k⟩:=L
 obtain⟨us,q⟩:=w
 rw[e] at q
 obtain rfl:=Option.some.inj q
 have z:us.toArray=vs.toArray:=(Data.seq.inj k).1
 rw[z] at e
 exact .lst e rfl (by rw[I.length];exact Nat.le_trans hn (by decide +kernel)) (VC I)
theorem d5:Rm 17 callerA:=⟨rfl,by decide +kernel,by decide +kernel,⟨[],rfl⟩⟩
theorem nbs(P:Params):∀x∈C6,nsIn (KF P) mainGlobals x=some none:=by
 have e:C6.map (nsIn (KF P) mainGlobals)=C6.map λ_=>some none:=by kernel_rfl
 exact List.map_inj_left.mp e
noncomputable def iA(K:Frag)(f:Str):Bool:=match nsIn K mainGlobals f with
 |some (some (.ref a))=>keepIn K (.ref a)
 |_=>false
theorem iB(P:Params):∀f∈Gv,∃a,nsIn (KF P) mainGlobals f=some (some (.ref a))/\keepIn (KF P) (.ref a)=true:=by
 have e:Gv.all (iA (KF P))=true:=by kernel_rfl
 intro f hf
 have k:=List.all_eq_true.mp e f hf
 unfold iA at k
 split at k
 case h_1 a e=>exact⟨a,e,k⟩
 case h_2=>cases k
noncomputable def base{w:World}{mean:ExcName->Option Value}{mg mb:Str->Option Value}{h:Heap}(X:(KF w.params).In h)(T:Top vw (looseW vw ["has_domains"]) mean mg mb h):Base where
 prog:=pw
 w:=w
 K:=KF w.params
 h0a:=h
 mg:=mg
 mb:=mb
 hK:=X
 hg:=T.g
 hb:=T.b
 lim:=T.nolimit
 bi:=T.builtins
 nb:=nbs w.params
 fns:=iB w.params
theorem jm{w:World}{mean:ExcName->Option Value}{mg mb:Str->Option Value}{h:Heap}(X:(KF w.params).In h)(T:Top vw (looseW vw ["has_domains"]) mean mg mb h):BP (base X T) (λ_=>none) h :=
 ⟨λ_ _ e=>⟨e,rfl⟩,λ_ _ e=>nomatch e⟩
theorem iC(P:Params):nsIn (KF P) mainGlobals "law"=some (some (.ref 497)):=by kernel_rfl
theorem iD{w:World}{mean:ExcName->Option Value}{mg mb:Str->Option Value}{h:Heap}(X:(KF w.params).In h)(T:Top vw (looseW vw ["has_domains"]) mean mg mb h){ns:List Int}(hn:ns.length<=63):IQ (base X T) 17 (.ref 497) [.lst (AC ns)] (λ_=>none) λd _=>d= .bool true :=
 hV (B:=base X T) (n:=8) (prog (P:=w.params) rfl rfl) aL aN XI XN (iC w.params) hn
theorem dis:defOf vw "law"=some (dl.1,dl.2):=by exact(Option.some_get Vb).symm
theorem jk:dl.1.name="law":=defOf_name dis
theorem iE{B:Base}{s s':Shared}{r:Result}{cl:Str->Option Addr}{mean:ExcName->Option Value}{ns:List Int}(hg:s.gens=#[])(k:match r with| .ok (.ret v)=>PV B (λ_=>none) s (λd _=>d= .bool true) v s'|_=>False) :
  GoodWG PySem.Challenge.rw_no0322_01.row.claim cl mean [ofPy (.list (ns.map .int))] s r s':=by
 match r,k with
 |.ok (.ret v),⟨d,H',x,R,⟨⟨h,tk,e⟩,S⟩,q⟩ =>
  subst q
  cases x
  subst e
  exact GoodW.toG ⟨.inl ⟨_,.bool true,[],rfl,λ_=>rfl,.bool true,by kernel_rfl,λ_=>⟨.nil,λ_ ha=>nomatch ha⟩⟩,λb o e=>(S.keep b o e rfl).1,rfl,hg⟩

end
end Mine.Internal
theorem PySem.Challenge.cw_no0322_01_holds : PySem.Challenge.rw_no0322_01.Holds := by
  refine Mine.Internal.head ?_
  intro w s0 sb mg mb G Y fa o pm cd doc dV kV ho hd hcd hD hmg hg args vals as hpre hlay hrd hwl hlo
  have KX:=kIn_of Y
  refine Ground.open G ?_
  intro T B D TE TW
  clear B D TE TW ho hd hcd hD
  wrow_args hpre hlay hrd hwl hlo
  rename_i ns _ _ _ _ _ _ _ a vs _ hL _ hw _ hI _ hc _
  have hn:ns.length<=63:=by omega
  have e:fa=497:=by
    rw[Mine.Internal.jk,mg_of KX T.g (Mine.Internal.iC w.params)] at hmg
    cases hmg
    rfl
  subst e
  refine enter_call (codeAny_mono (Mine.Internal.iD KX T hn callerA sb [.ref a] Mine.Internal.d5 (Mine.Internal.jm KX T) (.cons (Mine.Internal.dq hL hI (Mine.Internal.jj hw) hn) .nil)) λr s' k=>?_)
  exact Mine.Internal.iE hg k

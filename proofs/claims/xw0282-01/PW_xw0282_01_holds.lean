import PyProof.Rows.All
import Wide.All
import OpenK.AllK
import KE.KRevIter
import Wide.FinOn
import PySem.Challenge.RW_xw0282_01
set_option tactic.hygienic false
set_option backward.match.sparseCases false
set_option genInjectivity false
set_option genSizeOf false
set_option genCtorIdx false
set_option compiler.extract_closed false
set_option Elab.async false
set_option linter.all false
set_option maxRecDepth 100000
set_option maxHeartbeats 8000000
noncomputable section
namespace Mine
section
open PySem PySem.W PyProof.Rows
section
noncomputable def DE (p:Program) (i:Nat):Stmt:=p.main.body.getD i (.Pass ⟨0,0,0,0⟩)
noncomputable def EO (p:Program) (i:Nat):Stmt:=match DE p i with
 | .ClassDef _ _ _ b _ _ _ _ _ _ _=>b.getD 0 (.Pass ⟨0,0,0,0⟩)
 | s=>s
noncomputable def E6 (s:Stmt) (q:Str->Str) (df:Value) (md:String) (t c:Nat):Obj:=match s with
 | .FunctionDef n a b _ _ _ sc _ _ _=>{cls:=.type "function",data:=.func {name:=n,qualname:=q n,params:=a,body:=.stmts b,scope:=sc,globals:=3,closure:=[],defaults:=df,kwdefaults:=.none,pyModule:=.str (Str.ofString md) t,code:=.ref c}}
 | _=>{cls:=.none,data:=.plain}
noncomputable def Ec (s:Stmt):Str:=match s with
 | .FunctionDef n _ _ _ _ _ _ _ _ _=>n
 | _=>Str.ofString ""
noncomputable def E9 (n q:Str) (a t line na t5:Nat) (b:Bool):Obj:=
 {cls:=.type "code",data:=.fields #[.str n t,.str q (t+1),.str (Str.ofString "/claim/cut.py") (t+2),.int line 0,.int na 0,.int 0 0,.int 0 0,.int 3 0,.ref (if b then a-5 else a-3),.bool true,.int 181 0,.ref (if b then a-4 else a-2),.none,(if b then .ref (a-3) else .none),(if b then .ref (a-2) else .none),.ref (a-1),.int t5 0,.int line 0,.str (Str.ofString "/claim/cut.py") (t5+1)]}
noncomputable def dX (P:Params) (n:String) (t:Nat) (v:Value):DictEntry:={hash:=PyData.keyHash P (Str.ofString n),key:=.str (Str.ofString n) t,val:=v}
noncomputable def mh (p:Program) (i a t line na t5:Nat) (b:Bool) (md:String) (tm:Nat):Frag:=[(a,E9 (Ec (DE p i)) (Ec (DE p i)) a t line na t5 b),(a+1,E6 (DE p i) id .none md tm a)]
noncomputable def Ej (p:Program) (i:Nat) (q:String) (a t line na t5:Nat) (df:Value) (md:String) (tm:Nat):Frag:=[(a,E9 (Ec (EO p i)) (Str.ofString q) a t line na t5 true),(a+1,E6 (EO p i) (fun y=>Str.ofString q) df md tm a)]
noncomputable def Ka (P:Params):Frag:=[(3,{cls:=.type "dict",data:=.dict #[dX P "__name__" 165 (.str (Str.ofString "law_xw0282_01") 493),dX P "__doc__" 166 (.none),dX P "__package__" 167 (.none),dX P "__loader__" 168 (.builtin "__main__.__loader__#opaque"),dX P "__spec__" 169 (.none),dX P "__annotations__" 170 (.ref 6),dX P "__builtins__" 171 (.ref 4),dX P "__file__" 173 (.str (Str.ofString "/claim/cut.py") 172),dX P "__cached__" 174 (.none),dX P "INST_ALT" 190 (.int 0 189),dX P "INST_RANGE" 192 (.int 1 191),dX P "INST_CAPTURE" 194 (.int 2 193),dX P "INST_EMPTY" 196 (.int 3 195),dX P "INST_MATCH" 198 (.int 4 197),dX P "INST_NOP" 200 (.int 5 199),dX P "INST_FAIL" 202 (.int 6 201),dX P "EMPTY_ALL" 204 (.int 63 203),dX P "RecoreError" 234 (.ref 32),dX P "BadCall" 250 (.ref 45),dX P "Inst" 296 (.ref 65),dX P "Program" 334 (.ref 86),dX P "program_twin" 342 (.ref 97),dX P "program_counts" 352 (.ref 104),dX P "program_heads" 361 (.ref 111),dX P "inst_fault" 368 (.ref 118),dX P "program_ways_fault" 379 (.ref 125),dX P "program_faults" 392 (.ref 132),dX P "FLATTEN_STEPS" 395 (.ref 133),dX P "nops_end" 407 (.ref 140),dX P "without_nops" 420 (.ref 147),dX P "flatten_ways" 427 (.ref 154),dX P "first_roots" 439 (.ref 161),dX P "shared_ways" 452 (.ref 168),dX P "all_roots" 462 (.ref 175),dX P "flatten_key" 469 (.ref 182),dX P "flatten_list" 486 (.ref 189),dX P "flattened" 492 (.ref 194),dX P "_law_digits" 504 (.ref 201),dX P "_law_inst" 524 (.ref 208),dX P "_law_marks" 531 (.ref 215),dX P "_law_key" 538 (.ref 222),dX P "_law_told" 544 (.ref 227),dX P "_law_list" 553 (.ref 234),dX P "_law_ways" 565 (.ref 241),dX P "_law_found" 584 (.ref 248),dX P "_law_reached" 590 (.ref 253),dX P "_law_leads_to_nop" 596 (.ref 258),dX P "_law_is_laid_well" 602 (.ref 263),dX P "law" 608 (.ref 268)] 49}),
 (31,{cls:=.type "dict",data:=.dict #[dX P "__module__" 212 (.str (Str.ofString "recore.base") 187),dX P "__firstlineno__" 216 (.int 10 215),dX P "__init__" 225 (.ref 29),dX P "__static_attributes__" 227 (.ref 30),dX P "__weakref__" 229 (.ref 33),dX P "__doc__" 230 (.none)] 3}),
 (44,{cls:=.type "dict",data:=.dict #[dX P "__module__" 242 (.str (Str.ofString "recore.base") 187),dX P "__firstlineno__" 246 (.int 14 245),dX P "__static_attributes__" 247 (.ref 43),dX P "__doc__" 248 (.none)] 2}),
 (64,{cls:=.type "dict",data:=.dict #[dX P "__module__" 260 (.str (Str.ofString "recore.program") 251),dX P "__firstlineno__" 264 (.int 17 263),dX P "__init__" 281 (.ref 62),dX P "__static_attributes__" 289 (.ref 63),dX P "__dict__" 291 (.ref 66),dX P "__weakref__" 293 (.ref 67),dX P "__doc__" 294 (.none)] 4}),
 (85,{cls:=.type "dict",data:=.dict #[dX P "__module__" 304 (.str (Str.ofString "recore.program") 251),dX P "__firstlineno__" 308 (.int 27 307),dX P "__init__" 315 (.ref 83),dX P "__static_attributes__" 327 (.ref 84),dX P "__dict__" 329 (.ref 87),dX P "__weakref__" 331 (.ref 88),dX P "__doc__" 332 (.none)] 4}),
 (22,{cls:=.type "tuple",data:=.seq #[.str (Str.ofString "") 217]}),
 (55,{cls:=.type "tuple",data:=.seq #[.int 0 265,.int 0 266,.int 0 267,.int 0 268,.bool false]}),
 (36,{cls:=.type "tuple",data:=.seq #[.ref 32]}),
 (15,{cls:=.type "tuple",data:=.seq #[.type "Exception"]}),
 (32,{cls:=.type "type",data:=.cls {name:=Str.ofString "RecoreError",bases:=[.type "Exception"],mro:=[.ref 32,.type "Exception",.type "BaseException",.type "object"],ns:=31,qualname:=Str.ofString "RecoreError",subclasses:=[.ref 45]},slots:= #[some (.ref 15),none,some (.str (Str.ofString "RecoreError") 205),some (.str (Str.ofString "RecoreError") 213),some (.builtin "Exception.__new__"),some (.bool true)]}),
 (45,{cls:=.type "type",data:=.cls {name:=Str.ofString "BadCall",bases:=[.ref 32],mro:=[.ref 45,.ref 32,.type "Exception",.type "BaseException",.type "object"],ns:=44,qualname:=Str.ofString "BadCall" },slots:= #[some (.ref 36),none,some (.str (Str.ofString "BadCall") 235),some (.str (Str.ofString "BadCall") 243),some (.builtin "Exception.__new__"),some (.bool true)]}),
 (65,{cls:=.type "type",data:=.cls {name:=Str.ofString "Inst",bases:=[.type "object"],mro:=[.ref 65,.type "object"],ns:=64,qualname:=Str.ofString "Inst" },slots:= #[none,none,some (.str (Str.ofString "Inst") 253),some (.str (Str.ofString "Inst") 261),some (.builtin "object.__new__"),some (.bool true)]}),
 (86,{cls:=.type "type",data:=.cls {name:=Str.ofString "Program",bases:=[.type "object"],mro:=[.ref 86,.type "object"],ns:=85,qualname:=Str.ofString "Program" },slots:= #[none,none,some (.str (Str.ofString "Program") 297),some (.str (Str.ofString "Program") 305),some (.builtin "object.__new__"),some (.bool true)]})]
noncomputable def Kp (p:Program) (P:Params):Frag:=Ka P++(Ej p 9 "RecoreError.__init__" 28 218 12 2 223 (.ref 22) "recore.base" 187++(
 Ej p 12 "Inst.__init__" 61 269 19 7 279 (.ref 55) "recore.program" 251++(
 Ej p 13 "Program.__init__" 82 309 29 1 313 (.none) "recore.program" 251++(
 mh p 14 96 335 41 1 340 true "recore.program" 251++(
 mh p 15 103 343 49 1 350 true "recore.program" 251++(
 mh p 16 110 353 56 1 359 true "recore.program" 251++(
 mh p 17 117 362 62 1 366 true "recore.program" 251++(
 mh p 18 124 369 72 3 377 true "recore.program" 251++(
 mh p 19 131 380 82 1 390 true "recore.program" 251++(
 mh p 22 139 396 105 3 405 true "recore.flatten" 393++(
 mh p 23 146 408 115 1 418 true "recore.flatten" 393++(
 mh p 24 153 421 131 1 425 true "recore.flatten" 393++(
 mh p 25 160 428 137 1 437 true "recore.flatten" 393++(
 mh p 26 167 440 151 2 450 true "recore.flatten" 393++(
 mh p 27 174 453 165 1 460 true "recore.flatten" 393++(
 mh p 28 181 463 173 1 467 true "recore.flatten" 393++(
 mh p 29 188 470 175 3 484 true "recore.flatten" 393++(
 mh p 30 193 487 198 1 490 false "recore.flatten" 393++(
 mh p 32 200 495 217 2 502 true "law_xw0282_01" 493++(
 mh p 33 207 505 223 3 522 true "law_xw0282_01" 493++(
 mh p 34 214 525 242 1 529 true "law_xw0282_01" 493++(
 mh p 35 221 532 244 1 536 true "law_xw0282_01" 493++(
 mh p 36 226 539 246 1 542 false "law_xw0282_01" 493++(
 mh p 37 233 545 249 2 551 true "law_xw0282_01" 493++(
 mh p 38 240 554 256 5 563 true "law_xw0282_01" 493++(
 mh p 39 247 566 270 4 582 true "law_xw0282_01" 493++(
 mh p 40 252 585 285 1 588 false "law_xw0282_01" 493++(
 mh p 41 257 591 297 1 594 false "law_xw0282_01" 493++(
 mh p 42 262 597 305 2 600 false "law_xw0282_01" 493++(
 mh p 43 267 603 325 1 606 false "law_xw0282_01" 493))))))))))))))))))))))))))))))
noncomputable def KK (P:Params):Frag:=Kp PySem.Challenge.pw_xw0282_01 P
end
end
section
open PySem PySem.W PyProof.Rows
section
noncomputable def DG:List PySem.Str:=List.map Str.ofString ["INST_ALT", "INST_RANGE", "INST_CAPTURE", "INST_EMPTY", "INST_MATCH", "INST_NOP", "INST_FAIL", "EMPTY_ALL", "RecoreError", "BadCall", "Inst", "Program", "program_twin", "program_counts", "program_heads", "inst_fault", "program_ways_fault", "program_faults", "FLATTEN_STEPS", "nops_end", "without_nops", "flatten_ways", "first_roots", "shared_ways", "all_roots", "flatten_key", "flatten_list", "flattened", "_law_digits", "_law_inst", "_law_marks", "_law_key", "_law_told", "_law_list", "_law_ways", "_law_found", "_law_reached", "_law_leads_to_nop", "_law_is_laid_well"]
noncomputable def DF:List (PySem.Str×WData):=[(Str.ofString "FLATTEN_STEPS",WData.tuple [WData.int 1,WData.int 2,WData.int 3])]
noncomputable def addrs:List Addr:=[3,31,44,64,85,22,55,36,15,32,45,65,86]++[28,61,82,96,103,110,117,124,131,139,146,153,160,167,174,181,188,193,200,207,214,221,226,233,240,247,252,257,262,267].flatMap fun a=>[a,a+1]
noncomputable def qv:Program:=view PySem.Challenge.pw_xw0282_01 [43]
noncomputable def rr:OpenRow:=OpenLaw.row PySem.Challenge.rw_xw0282_01
theorem Ei (w:World):(openEnds Fast.tw14364793385576792824 PySem.Challenge.pw_xw0282_01 w 3900).map (fun s=>(Fast.tw4187177175401517315 qv DG (Fast.tw5923862056798008813 PySem.Challenge.pw_xw0282_01.main.body) (fun s=>xlAt qv DF s&&recOk (RowW.records (OpenRow.toRowW (Fast.tw2368527892694137696 PySem.Challenge.rw_xw0282_01))) s) true s,addrs.map s.heap.get?))=some (openGood qv DG,(KK w.params).map fun p=>some p.2):=by kernel_rfl!
theorem keys (P:Params):addrs=(KK P).map (·.1):=by kernel_rfl!
noncomputable def hk:Hook:=kHook KK addrs keys
theorem Eg:LeftO PySem.Challenge.pw_xw0282_01 qv DG (fun s=>xlAt qv DF s&&recOk (RowW.records (OpenRow.toRowW rr)) s) hk.obs hk.val 3900:=fun w=>by rw[Fast.te14364793385576792824,Fast.te4187177175401517315,Fast.te5923862056798008813,rr,Fast.te2368527892694137696];exact Ei w
end
end
end Mine
namespace Mine
section
universe u
open PySem PySem.W PyProof.Rows
theorem aj {n m:Nat}(h:Nat.ble n m=true):n≤m:=Nat.le_of_ble_eq_true h
theorem aB {α:Type u}{a b:α}(h:a∈[b]):a=b:=List.mem_singleton.mp h
theorem ba {α:Type u}{a:α}{s t:List α}(h:a∈s++t):a∈s\/a∈t:=List.mem_append.mp h
theorem a_ {α:Type u}{a b:α}{l:List α}(h:a∈b::l):a=b\/a∈l:=List.mem_cons.mp h
theorem bP {α:Type u}{i:Nat}{a:α}{l:List α}(h:l[i]?=some a):∃h:i<l.length,l[i]=a:=List.getElem?_eq_some_iff.mp h
noncomputable def ag:=@congrArg
noncomputable def aq:=@wpAny_bind
noncomputable def aP:=@List.mem_cons_of_mem
noncomputable def aH:=@List.append_assoc
noncomputable def aK:=@List.mem_cons_self
noncomputable def aD:=@List.length_map
noncomputable def aJ:=@decide_eq_false
noncomputable def ap:=@if_pos
noncomputable def au:=@if_neg
noncomputable def bd:=@List.length_append
noncomputable def aW:=@decide_eq_true
noncomputable def aL:=@wpAny_pure
end
@[elab_as_elim] theorem rwE {α:Sort u} {b:α} {motive:α->Prop} {a:α} (h:a=b) (p:motive b):motive a:=h▸p
local macro_rules (kind := Lean.Parser.Tactic.rewriteSeq) | s => if s[3].isNone && s[1][0].getNumArgs == 0 then (if s[2][1].getNumArgs > 1 then return Lean.mkNullNode (s[2][1].getSepArgs.map fun r => s.setArg 2 (s[2].setArg 1 (Lean.mkNullNode #[r]))) else if s[2][1][0][0].isNone then do let e : Lean.TSyntax `term := ⟨s[2][1][0][1]⟩; `(tactic| first | refine rwE $e ?_ | fail) else Lean.Macro.throwUnsupported) else Lean.Macro.throwUnsupported
local macro_rules | `(tactic| lia) => `(tactic| lia -abstractProof)
section
inductive bp {α0:Type} (P0 P1:α0->Prop):Prop
 | mk (a0:α0) (p0:P0 a0) (p1:P1 a0):bp P0 P1
inductive ta {α0:Type} (P0 P1 P2:α0->Prop):Prop
 | mk (a0:α0) (p0:P0 a0) (p1:P1 a0) (p2:P2 a0):ta P0 P1 P2
inductive Dt {α0:Type} (P0 P1 P2 P3:α0->Prop):Prop
 | mk (a0:α0) (p0:P0 a0) (p1:P1 a0) (p2:P2 a0) (p3:P3 a0):Dt P0 P1 P2 P3
inductive mS {α0 α1:Type} (P0:α0->α1->Prop):Prop
 | mk (a0:α0) (a1:α1) (p0:P0 a0 a1):mS P0
inductive cD {α0 α1:Type} (P0 P1:α0->α1->Prop):Prop
 | mk (a0:α0) (a1:α1) (p0:P0 a0 a1) (p1:P1 a0 a1):cD P0 P1
inductive dU {α0 α1:Type} (P0 P1 P2:α0->α1->Prop):Prop
 | mk (a0:α0) (a1:α1) (p0:P0 a0 a1) (p1:P1 a0 a1) (p2:P2 a0 a1):dU P0 P1 P2
inductive AP {α0 α1:Type} (P0 P1 P2 P3:α0->α1->Prop):Prop
 | mk (a0:α0) (a1:α1) (p0:P0 a0 a1) (p1:P1 a0 a1) (p2:P2 a0 a1) (p3:P3 a0 a1):AP P0 P1 P2 P3
inductive AO {α0 α1:Type} (P0 P1 P2 P3 P4:α0->α1->Prop):Prop
 | mk (a0:α0) (a1:α1) (p0:P0 a0 a1) (p1:P1 a0 a1) (p2:P2 a0 a1) (p3:P3 a0 a1) (p4:P4 a0 a1):AO P0 P1 P2 P3 P4
inductive mR {α0 α1 α2:Type} (P0:α0->α1->α2->Prop):Prop
 | mk (a0:α0) (a1:α1) (a2:α2) (p0:P0 a0 a1 a2):mR P0
inductive pA {α0 α1 α2:Type} (P0 P1:α0->α1->α2->Prop):Prop
 | mk (a0:α0) (a1:α1) (a2:α2) (p0:P0 a0 a1 a2) (p1:P1 a0 a1 a2):pA P0 P1
inductive u5 {α0 α1 α2:Type} (P0 P1 P2:α0->α1->α2->Prop):Prop
 | mk (a0:α0) (a1:α1) (a2:α2) (p0:P0 a0 a1 a2) (p1:P1 a0 a1 a2) (p2:P2 a0 a1 a2):u5 P0 P1 P2
inductive u4 {α0 α1 α2:Type} (P0 P1 P2 P3:α0->α1->α2->Prop):Prop
 | mk (a0:α0) (a1:α1) (a2:α2) (p0:P0 a0 a1 a2) (p1:P1 a0 a1 a2) (p2:P2 a0 a1 a2) (p3:P3 a0 a1 a2):u4 P0 P1 P2 P3
inductive pz {α0 α1 α2:Type} (P0 P1 P2 P3 P4:α0->α1->α2->Prop):Prop
 | mk (a0:α0) (a1:α1) (a2:α2) (p0:P0 a0 a1 a2) (p1:P1 a0 a1 a2) (p2:P2 a0 a1 a2) (p3:P3 a0 a1 a2) (p4:P4 a0 a1 a2):pz P0 P1 P2 P3 P4
inductive AN {α0 α1 α2:Type} (P0 P1 P2 P3 P4 P5:α0->α1->α2->Prop):Prop
 | mk (a0:α0) (a1:α1) (a2:α2) (p0:P0 a0 a1 a2) (p1:P1 a0 a1 a2) (p2:P2 a0 a1 a2) (p3:P3 a0 a1 a2) (p4:P4 a0 a1 a2) (p5:P5 a0 a1 a2):AN P0 P1 P2 P3 P4 P5
inductive yo {α0 α1 α2 α3:Type} (P0:α0->α1->α2->α3->Prop):Prop
 | mk (a0:α0) (a1:α1) (a2:α2) (a3:α3) (p0:P0 a0 a1 a2 a3):yo P0
inductive s_ {α0 α1 α2 α3:Type} (P0 P1:α0->α1->α2->α3->Prop):Prop
 | mk (a0:α0) (a1:α1) (a2:α2) (a3:α3) (p0:P0 a0 a1 a2 a3) (p1:P1 a0 a1 a2 a3):s_ P0 P1
inductive AM {α0 α1 α2 α3:Type} (P0 P1 P2:α0->α1->α2->α3->Prop):Prop
 | mk (a0:α0) (a1:α1) (a2:α2) (a3:α3) (p0:P0 a0 a1 a2 a3) (p1:P1 a0 a1 a2 a3) (p2:P2 a0 a1 a2 a3):AM P0 P1 P2
inductive uZ {α0 α1 α2 α3:Type} (P0 P1 P2 P3:α0->α1->α2->α3->Prop):Prop
 | mk (a0:α0) (a1:α1) (a2:α2) (a3:α3) (p0:P0 a0 a1 a2 a3) (p1:P1 a0 a1 a2 a3) (p2:P2 a0 a1 a2 a3) (p3:P3 a0 a1 a2 a3):uZ P0 P1 P2 P3
inductive yn {α0 α1 α2 α3:Type} (P0 P1 P2 P3 P4 P5:α0->α1->α2->α3->Prop):Prop
 | mk (a0:α0) (a1:α1) (a2:α2) (a3:α3) (p0:P0 a0 a1 a2 a3) (p1:P1 a0 a1 a2 a3) (p2:P2 a0 a1 a2 a3) (p3:P3 a0 a1 a2 a3) (p4:P4 a0 a1 a2 a3) (p5:P5 a0 a1 a2 a3):yn P0 P1 P2 P3 P4 P5
inductive AL {α0 α1 α2 α3:Type} (P0 P1 P2 P3 P4 P5 P6 P7:α0->α1->α2->α3->Prop):Prop
 | mk (a0:α0) (a1:α1) (a2:α2) (a3:α3) (p0:P0 a0 a1 a2 a3) (p1:P1 a0 a1 a2 a3) (p2:P2 a0 a1 a2 a3) (p3:P3 a0 a1 a2 a3) (p4:P4 a0 a1 a2 a3) (p5:P5 a0 a1 a2 a3) (p6:P6 a0 a1 a2 a3) (p7:P7 a0 a1 a2 a3):AL P0 P1 P2 P3 P4 P5 P6 P7
inductive AK {α0 α1 α2 α3 α4:Type} (P0 P1:α0->α1->α2->α3->α4->Prop):Prop
 | mk (a0:α0) (a1:α1) (a2:α2) (a3:α3) (a4:α4) (p0:P0 a0 a1 a2 a3 a4) (p1:P1 a0 a1 a2 a3 a4):AK P0 P1
inductive AJ {α0 α1 α2 α3 α4:Type} (P0 P1 P2:α0->α1->α2->α3->α4->Prop):Prop
 | mk (a0:α0) (a1:α1) (a2:α2) (a3:α3) (a4:α4) (p0:P0 a0 a1 a2 a3 a4) (p1:P1 a0 a1 a2 a3 a4) (p2:P2 a0 a1 a2 a3 a4):AJ P0 P1 P2
inductive ym {α0 α1 α2 α3 α4:Type} (P0 P1 P2 P3:α0->α1->α2->α3->α4->Prop):Prop
 | mk (a0:α0) (a1:α1) (a2:α2) (a3:α3) (a4:α4) (p0:P0 a0 a1 a2 a3 a4) (p1:P1 a0 a1 a2 a3 a4) (p2:P2 a0 a1 a2 a3 a4) (p3:P3 a0 a1 a2 a3 a4):ym P0 P1 P2 P3
inductive AI {α0 α1 α2 α3 α4:Type} (P0 P1 P2 P3 P4:α0->α1->α2->α3->α4->Prop):Prop
 | mk (a0:α0) (a1:α1) (a2:α2) (a3:α3) (a4:α4) (p0:P0 a0 a1 a2 a3 a4) (p1:P1 a0 a1 a2 a3 a4) (p2:P2 a0 a1 a2 a3 a4) (p3:P3 a0 a1 a2 a3 a4) (p4:P4 a0 a1 a2 a3 a4):AI P0 P1 P2 P3 P4
inductive AH {α0 α1 α2 α3 α4 α5:Type} (P0 P1:α0->α1->α2->α3->α4->α5->Prop):Prop
 | mk (a0:α0) (a1:α1) (a2:α2) (a3:α3) (a4:α4) (a5:α5) (p0:P0 a0 a1 a2 a3 a4 a5) (p1:P1 a0 a1 a2 a3 a4 a5):AH P0 P1
inductive AG {α0 α1 α2 α3 α4 α5:Type} (P0 P1 P2:α0->α1->α2->α3->α4->α5->Prop):Prop
 | mk (a0:α0) (a1:α1) (a2:α2) (a3:α3) (a4:α4) (a5:α5) (p0:P0 a0 a1 a2 a3 a4 a5) (p1:P1 a0 a1 a2 a3 a4 a5) (p2:P2 a0 a1 a2 a3 a4 a5):AG P0 P1 P2
inductive AF {α0 α1 α2 α3 α4 α5:Type} (P0 P1 P2 P3 P4 P5 P6:α0->α1->α2->α3->α4->α5->Prop):Prop
 | mk (a0:α0) (a1:α1) (a2:α2) (a3:α3) (a4:α4) (a5:α5) (p0:P0 a0 a1 a2 a3 a4 a5) (p1:P1 a0 a1 a2 a3 a4 a5) (p2:P2 a0 a1 a2 a3 a4 a5) (p3:P3 a0 a1 a2 a3 a4 a5) (p4:P4 a0 a1 a2 a3 a4 a5) (p5:P5 a0 a1 a2 a3 a4 a5) (p6:P6 a0 a1 a2 a3 a4 a5):AF P0 P1 P2 P3 P4 P5 P6
inductive AE {α0 α1 α2 α3 α4 α5 α6:Type} (P0 P1 P2 P3 P4 P5 P6 P7:α0->α1->α2->α3->α4->α5->α6->Prop):Prop
 | mk (a0:α0) (a1:α1) (a2:α2) (a3:α3) (a4:α4) (a5:α5) (a6:α6) (p0:P0 a0 a1 a2 a3 a4 a5 a6) (p1:P1 a0 a1 a2 a3 a4 a5 a6) (p2:P2 a0 a1 a2 a3 a4 a5 a6) (p3:P3 a0 a1 a2 a3 a4 a5 a6) (p4:P4 a0 a1 a2 a3 a4 a5 a6) (p5:P5 a0 a1 a2 a3 a4 a5 a6) (p6:P6 a0 a1 a2 a3 a4 a5 a6) (p7:P7 a0 a1 a2 a3 a4 a5 a6):AE P0 P1 P2 P3 P4 P5 P6 P7
inductive yl {α0 α1 α2 α3 α4 α5 α6 α7:Type} (P0 P1 P2:α0->α1->α2->α3->α4->α5->α6->α7->Prop):Prop
 | mk (a0:α0) (a1:α1) (a2:α2) (a3:α3) (a4:α4) (a5:α5) (a6:α6) (a7:α7) (p0:P0 a0 a1 a2 a3 a4 a5 a6 a7) (p1:P1 a0 a1 a2 a3 a4 a5 a6 a7) (p2:P2 a0 a1 a2 a3 a4 a5 a6 a7):yl P0 P1 P2
inductive yk {α0 α1 α2 α3 α4 α5 α6 α7:Type} (P0 P1 P2 P3 P4:α0->α1->α2->α3->α4->α5->α6->α7->Prop):Prop
 | mk (a0:α0) (a1:α1) (a2:α2) (a3:α3) (a4:α4) (a5:α5) (a6:α6) (a7:α7) (p0:P0 a0 a1 a2 a3 a4 a5 a6 a7) (p1:P1 a0 a1 a2 a3 a4 a5 a6 a7) (p2:P2 a0 a1 a2 a3 a4 a5 a6 a7) (p3:P3 a0 a1 a2 a3 a4 a5 a6 a7) (p4:P4 a0 a1 a2 a3 a4 a5 a6 a7):yk P0 P1 P2 P3 P4
inductive AD {α0 α1 α2 α3 α4 α5 α6 α7 α8:Type} (P0 P1 P2 P3 P4:α0->α1->α2->α3->α4->α5->α6->α7->α8->Prop):Prop
 | mk (a0:α0) (a1:α1) (a2:α2) (a3:α3) (a4:α4) (a5:α5) (a6:α6) (a7:α7) (a8:α8) (p0:P0 a0 a1 a2 a3 a4 a5 a6 a7 a8) (p1:P1 a0 a1 a2 a3 a4 a5 a6 a7 a8) (p2:P2 a0 a1 a2 a3 a4 a5 a6 a7 a8) (p3:P3 a0 a1 a2 a3 a4 a5 a6 a7 a8) (p4:P4 a0 a1 a2 a3 a4 a5 a6 a7 a8):AD P0 P1 P2 P3 P4
inductive yq {α0 α1 α2 α3 α4 α5 α6 α7 α8 α9:Type} (P0 P1 P2 P3 P4 P5:α0->α1->α2->α3->α4->α5->α6->α7->α8->α9->Prop):Prop
 | mk (a0:α0) (a1:α1) (a2:α2) (a3:α3) (a4:α4) (a5:α5) (a6:α6) (a7:α7) (a8:α8) (a9:α9) (p0:P0 a0 a1 a2 a3 a4 a5 a6 a7 a8 a9) (p1:P1 a0 a1 a2 a3 a4 a5 a6 a7 a8 a9) (p2:P2 a0 a1 a2 a3 a4 a5 a6 a7 a8 a9) (p3:P3 a0 a1 a2 a3 a4 a5 a6 a7 a8 a9) (p4:P4 a0 a1 a2 a3 a4 a5 a6 a7 a8 a9) (p5:P5 a0 a1 a2 a3 a4 a5 a6 a7 a8 a9):yq P0 P1 P2 P3 P4 P5
inductive yp {α0 α1 α2 α3 α4 α5 α6 α7 α8 α9 α10:Type} (P0 P1 P2 P3:α0->α1->α2->α3->α4->α5->α6->α7->α8->α9->α10->Prop):Prop
 | mk (a0:α0) (a1:α1) (a2:α2) (a3:α3) (a4:α4) (a5:α5) (a6:α6) (a7:α7) (a8:α8) (a9:α9) (a10:α10) (p0:P0 a0 a1 a2 a3 a4 a5 a6 a7 a8 a9 a10) (p1:P1 a0 a1 a2 a3 a4 a5 a6 a7 a8 a9 a10) (p2:P2 a0 a1 a2 a3 a4 a5 a6 a7 a8 a9 a10) (p3:P3 a0 a1 a2 a3 a4 a5 a6 a7 a8 a9 a10):yp P0 P1 P2 P3
set_option genCtorIdx true in
inductive V where
 | none
 | bool (b:Bool)
 | int (i:Int)
 | bytes (b:List UInt8)
 | tup (vs:List V)
 | flist (vs:List V)
 | range (n:Int)
 | ref (a:Nat)
set_option genCtorIdx true in
inductive O where
 | list (vs:List V)
 | idict (kvs:List (Int×V))
 | tdict (kvs:List (List Int×V))
 | inst (c:Nat) (fs:List V)
noncomputable abbrev H:=List O
noncomputable abbrev En:=List (Option V)
set_option genCtorIdx true in
inductive Co | add | sub | mul | fdiv | mod | pow | band
set_option genCtorIdx true in
inductive Cn | eq | ne | lt | le | gt | ge | isIn | notIn | is_ | isNot
mutual
inductive Ex where
 | bad
 | lit (v:V)
 | var (k:Nat)
 | bin (op:Co) (a b:Ex)
 | neg (a:Ex)
 | not (a:Ex)
 | and (es:pU)
 | or (es:pU)
 | cmp (a:Ex) (cs:Cs)
 | ite (c a b:Ex)
 | tup (es:pU)
 | list (es:pU)
 | dict (es:pU)
 | sub (a i:Ex)
 | sliceTo (a e:Ex)
 | sliceFrom (a e:Ex)
 | sliceRev (a:Ex)
 | attr (a:Ex) (c f:Nat)
 | call (f:Nat) (es:pU)
 | new (c:Nat) (es:pU)
 | len (a:Ex)
 | bytesOf (a:Ex)
 | intOf (a:Ex)
 | listOf (a:Ex)
 | range (a:Ex)
 | pop (a:Ex)
 | index (a b:Ex)
 | getd (d k e:Ex)
 | comp (elt:Ex) (k:Nat) (it:Ex)
 | compIf (elt:Ex) (k:Nat) (it:Ex) (c:Ex)
inductive pU where
 | nil
 | cons (e:Ex) (r:pU)
inductive Cs where
 | one (op:Cn) (e:Ex)
 | more (op:Cn) (e:Ex) (r:Cs)
end
inductive Tg where
 | name (k:Nat)
 | attr (o:Ex) (c f:Nat)
 | sub (o i:Ex)
mutual
inductive St where
 | bad
 | pass
 | assign (t:Tg) (e:Ex)
 | assigns (ts:List Tg) (e:Ex)
 | augAdd (o i e:Ex)
 | append (l e:Ex)
 | extend (l e:Ex)
 | extendRev (l e:Ex)
 | if_ (c:Ex) (a b:dz)
 | while_ (c:Ex) (b:dz)
 | for_ (k:Nat) (it:Ex) (b:dz)
 | ret (e:Ex)
 | cont
 | tryRefused (k r:Nat)
inductive dz where
 | nil
 | cons (s:St) (r:dz)
end
set_option genCtorIdx true in
inductive Fl where
 | next | cont | ret (v:V)
structure FD where
 np:Nat
 ns:Nat
 dflt:List V
 body:dz
noncomputable abbrev bV:=Nat->List V->H->Option (V×H)
noncomputable def V.num:V->Option Int
 | .int i=>some i
 | .bool b=>some (if b then 1 else 0)
 | _=>.none
noncomputable def V.nums:List V->Option (List Int)
 | []=>some []
 | v::r=>match v.num,V.nums r with
   | some i,some is=>some (i::is)
   | _,_=>.none
noncomputable def fm (f:V->V->Option Bool):List V->List V->Option Bool
 | [],[]=>some true
 | a::r,b::q=>match f a b with
   | some x=>match fm f r q with
     | some y=>some (x&&y)
     | .none=>.none
   | .none=>.none
 | _,_=>some false
noncomputable def f6 (h:H):Nat->V->V->Option Bool
 | 0,_,_=>.none
 | n+1,a,b=>match a,b with
   | .none,.none=>some true
   | .bool x,.bool y=>some (x==y)
   | .int x,.int y=>some (x==y)
   | .bytes x,.bytes y=>some (x==y)
   | .tup xs,.tup ys=>if xs.length=ys.length then fm (f6 h n) xs ys else .none
   | .ref x,.ref y=>match h[x]?,h[y]? with
     | some (.list xs),some (.list ys)=>if xs.length=ys.length then fm (f6 h n) xs ys else some false
     | _,_=>.none
   | _,_=>.none
noncomputable def dW (h:H) (vs:List V):Option (V×H):=if vs.length≤1000000 then some (.ref h.length,h++[.list vs]) else .none
noncomputable def truthy (h:H):V->Option Bool
 | .bool b=>some b
 | .ref a=>match h[a]? with
   | some (.list vs)=>some (!vs.isEmpty)
   | _=>.none
 | _=>.none
noncomputable def kA (f:V->V->Option Bool) (x:V):List V->Option Bool
 | []=>some false
 | v::r=>match f v x,kA f x r with
   | some b,some c=>some (b || c)
   | _,_=>.none
noncomputable def jm (h:H) (x c:V):Option Bool:=
 match c with
 | .tup vs=>kA (f6 h 4) x vs
 | .ref a=>match h[a]? with
   | some (.list vs)=>kA (f6 h 4) x vs
   | some (.idict kvs)=>match x with
     | .int i=>some (kvs.any fun p=>decide (p.1=i))
     | .tup vs=>match V.nums vs with
       | some _=>if kvs.isEmpty then some false else .none
       | .none=>.none
     | _=>.none
   | some (.tdict kvs)=>match x with
     | .tup vs=>match V.nums vs with
       | some is=>some (kvs.any fun p=>decide (p.1=is))
       | .none=>.none
     | _=>.none
   | _=>.none
 | _=>.none
noncomputable def Bs:V->V->Option Bool
 | .none,.none=>some true
 | .ref a,.ref b=>if a=b then some true else .none
 | _,_=>.none
noncomputable def vN (f:Int->Int->Bool):V->V->Option Bool
 | .int x,.int y=>some (f x y)
 | _,_=>.none
noncomputable def i7 (h:H) (op:Cn) (a b:V):Option Bool:=
 match op with
 | .eq=>f6 h 8 a b
 | .ne=>(f6 h 8 a b).map (!·)
 | .lt=>vN (fun x y=>decide (x<y)) a b
 | .le=>vN (fun x y=>decide (x≤y)) a b
 | .gt=>vN (fun x y=>decide (y<x)) a b
 | .ge=>vN (fun x y=>decide (y≤x)) a b
 | .isIn=>jm h a b
 | .notIn=>(jm h a b).map (!·)
 | .is_=>Bs a b
 | .isNot=>(Bs a b).map (!·)
noncomputable def band (x y:Int):Option Int:=if 0≤x/\0≤y then some ((x.toNat&&& y.toNat:Nat):Int) else .none
noncomputable def intOp (op:Co) (x y:Int):Option Int:=
 match op with
 | .add=>some (x+y)
 | .sub=>some (x-y)
 | .mul=>.none
 | .fdiv=>if 0<y/\y<1000000 then some (x/y) else .none
 | .mod=>if 0<y then some (x%y) else .none
 | .pow=>if x=10/\y=12 then some (10 ^ 12) else .none
 | .band=>band x y
noncomputable def jE (h:H) (op:Co) (a b:V):Option (V×H):=
 match a with
 | .int x=>match b with
   | .int y=>(intOp op x y).map fun z=>(.int z,h)
   | _=>.none
 | .tup xs=>match b with
   | .tup ys=>match op with
     | .add=>if xs.length+ys.length≤1000000 then some (.tup (xs++ys),h) else .none
     | _=>.none
   | _=>.none
 | .ref x=>match b with
   | .ref y=>match op with
     | .add=>match h[x]?,h[y]? with
       | some (.list xs),some (.list ys)=>dW h (xs++ys)
       | _,_=>.none
     | _=>.none
   | .int n=>match op with
     | .mul=>match h[x]? with
       | some (.list vs)=>match vs with
         | [v]=>if 0≤n/\n<100 then dW h (List.replicate n.toNat v) else .none
         | _=>.none
       | _=>.none
     | _=>.none
   | _=>.none
 | _=>.none
noncomputable def iS (i:Int) (n:Nat):Option Nat:=
 if 0≤i then(if i<n then some i.toNat else .none)
 else if i= -1 then(if 0<n then some (n-1) else .none) else .none
noncomputable def lookup (kvs:List (Int×V)) (i:Int):Option V:=(kvs.find? fun p=>decide (p.1=i)).map (·.2)
noncomputable def cP (h:H) (a i:V):Option V:=
 match a,i with
 | .tup vs,.int i=>if vs.length≤1000000 then(iS i vs.length).bind fun k=>vs[k]? else .none
 | .bytes bs,.int i=>if bs.length≤1000000/\0≤i/\i<bs.length then some (V.int ((bs.getD i.toNat 0).toNat:Int)) else .none
 | .ref a,.int i=>match h[a]? with
   | some (.list vs)=>(iS i vs.length).bind fun k=>vs[k]?
   | some (.idict kvs)=>lookup kvs i
   | _=>.none
 | _,_=>.none
noncomputable def put {K:Type} [DecidableEq K] (kvs:List (K×V)) (i:K) (v:V):List (K×V):=
 if kvs.any (fun p=>decide (p.1=i)) then kvs.map fun p=>if p.1=i then(p.1,v) else p else kvs++[(i,v)]
noncomputable def cW (h:H) (a i v:V):Option H:=
 match a with
 | .ref a=>match h[a]? with
   | some (.idict kvs)=>match i with
     | .int i=>if kvs.length<1000000 then some (h.set a (.idict (put kvs i v))) else .none
     | .tup vs=>match V.nums vs with
       | some is=>if kvs.isEmpty then some (h.set a (.tdict [(is,v)])) else .none
       | .none=>.none
     | _=>.none
   | some (.tdict kvs)=>match i with
     | .tup vs=>match V.nums vs with
       | some is=>if kvs.length<1000000 then some (h.set a (.tdict (put kvs is v))) else .none
       | .none=>.none
     | _=>.none
   | _=>.none
 | _=>.none
noncomputable def lq:Nat->Nat
 | 0=>7
 | 1=>11
 | _=>0
noncomputable def setAttr (h:H) (o:V) (c f:Nat) (v:V):Option H:=
 match o with
 | .ref a=>match h[a]? with
   | some (.inst d fs)=>if d=c/\f<lq c then(if f<fs.length then some (h.set a (.inst d (fs.set f v)))
    else if f=fs.length then some (h.set a (.inst d (fs++[v]))) else .none) else .none
   | _=>.none
 | _=>.none
noncomputable def gS (h:H) (o:V) (c f:Nat):Option V:=
 match o with
 | .ref a=>match h[a]? with
   | some (.inst d fs)=>if d=c then fs[f]? else .none
   | _=>.none
 | _=>.none
noncomputable def items (h:H):V->Option (List V)
 | .tup vs=>some vs
 | .range n=>if-1000000<n/\n<1000000 then some ((List.range n.toNat).map fun(k:Nat)=>V.int k) else .none
 | .ref a=>match h[a]? with
   | some (.list vs)=>some vs
   | some (.idict kvs)=>some (kvs.map fun p=>V.int p.1)
   | _=>.none
 | _=>.none
inductive yh:Option O->Option O->Prop
 | list {vs:List V}:yh (some (.list vs)) (some (.list vs))
 | dict {xs ys:List (Int×V)} (h:xs.map (·.1)=ys.map (·.1)):yh (some (.idict xs)) (some (.idict ys))
noncomputable def eK (h:H) (v:V) (o:Option O):Bool:=
 match v with
 | .ref a=> @decide (yh o h[a]?) (Classical.propDecidable _)
 | _=>true
noncomputable def fS (h:H):V->Option O
 | .ref a=>h[a]?
 | _=>.none
noncomputable def sliceTo (h:H) (x y:V):Option (V×H):=
 match x,y with
 | .bytes bs,.int i=>if 0≤i/\bs.length≤1000000 then some (.bytes (bs.take i.toNat),h) else .none
 | .tup vs,.int i=>if 0≤i/\i<vs.length/\vs.length≤1000000 then some (.tup (vs.take i.toNat),h) else .none
 | .flist vs,.int i=>if 0≤i/\vs.length≤1000000 then dW h (vs.take i.toNat) else .none
 | .ref a,.int i=>match h[a]? with
   | some (.list vs)=>if 0≤i then dW h (vs.take i.toNat) else .none
   | _=>.none
 | _,_=>.none
noncomputable def sliceFrom (h:H) (x y:V):Option (V×H):=
 match x,y with
 | .tup vs,.int i=>if 1≤i/\i≤vs.length/\vs.length≤1000000 then some (.tup (vs.drop i.toNat),h) else .none
 | .ref a,.int i=>match h[a]? with
   | some (.list vs)=>if 0≤i then dW h (vs.drop i.toNat) else .none
   | _=>.none
 | _,_=>.none
noncomputable def kI:List V->Option (List Int)
 | []=>some []
 | .int i::r=>(kI r).map (i:: ·)
 | _=>.none
noncomputable def gc (vs:List V):Option (List UInt8):=match kI vs with
 | some is=>if is.all (fun i=>decide (0≤i/\i<256)) then some (is.map fun i=>i.toNat.toUInt8) else .none
 | .none=>.none
noncomputable def lz (x:Int) (vs:List V):Option Nat:=match kI vs with
 | some is=>if is.contains x then some (is.idxOf x) else .none
 | .none=>.none
noncomputable def dictFrom:List V->List (Int×V)->Option (List (Int×V))
 | [],kvs=>some kvs
 | .int i::v::r,kvs=>dictFrom r (put kvs i v)
 | _,_=>.none
noncomputable def dv (f:V->H->Option (List V×H)) (chk:H->Bool):List V->H->Option (List V×H)
 | [],h=>if chk h then some ([],h) else .none
 | v::r,h=>if chk h then match f v h with
    | some (xs,ak)=>match dv f chk r ak with
      | some (ys,aO)=>some (xs++ys,aO)
      | .none=>.none
    | .none=>.none
   else .none
mutual
noncomputable def ax (call:bV):Ex->En->H->Option (V×H)
 | .bad,_,_=>.none
 | .lit v,_,h=>some (v,h)
 | .var k,e,h=>match e[k]? with
   | some (some v)=>some (v,h)
   | _=>.none
 | .bin op a b,e,h=>match ax call a e h with
   | some (x,ak)=>match ax call b e ak with
     | some (y,aO)=>jE aO op x y
     | .none=>.none
   | .none=>.none
 | .neg a,e,h=>match ax call a e h with
   | some (.int i,ak)=>some (.int (-i),ak)
   | _=>.none
 | .not a,e,h=>match ax call a e h with
   | some (x,ak)=>(truthy ak x).map fun b=>(.bool (!b),ak)
   | .none=>.none
 | .and es,e,h=>gG call es e h
 | .or es,e,h=>jw call es e h
 | .cmp a cs,e,h=>match ax call a e h with
   | some (x,ak)=>(jx call x cs e ak).map fun(b,aO)=>(.bool b,aO)
   | .none=>.none
 | .ite c a b,e,h=>match ax call c e h with
   | some (x,ak)=>match truthy ak x with
     | some true=>ax call a e ak
     | some false=>ax call b e ak
     | .none=>.none
   | .none=>.none
 | .tup es,e,h=>match dg call es e h with
   | some (vs,ak)=>some (.tup vs,ak)
   | .none=>.none
 | .list es,e,h=>match dg call es e h with
   | some (vs,ak)=>dW ak vs
   | .none=>.none
 | .dict es,e,h=>match dg call es e h with
   | some (vs,ak)=>match dictFrom vs [] with
     | some kvs=>some (.ref ak.length,ak++[.idict kvs])
     | .none=>.none
   | .none=>.none
 | .sub a i,e,h=>match ax call a e h with
   | some (x,ak)=>match ax call i e ak with
     | some (y,aO)=>(cP aO x y).map fun v=>(v,aO)
     | .none=>.none
   | .none=>.none
 | .sliceTo a u,e,h=>match ax call a e h with
   | some (x,ak)=>match ax call u e ak with
     | some (y,aO)=>sliceTo aO x y
     | .none=>.none
   | .none=>.none
 | .sliceFrom a u,e,h=>match ax call a e h with
   | some (x,ak)=>match ax call u e ak with
     | some (y,aO)=>sliceFrom aO x y
     | .none=>.none
   | .none=>.none
 | .sliceRev a,e,h=>match ax call a e h with
   | some (.ref a,ak)=>match ak[a]? with
     | some (.list vs)=>dW ak vs.reverse
     | _=>.none
   | _=>.none
 | .attr a c f,e,h=>match ax call a e h with
   | some (x,ak)=>(gS ak x c f).map fun v=>(v,ak)
   | .none=>.none
 | .call f es,e,h=>match dg call es e h with
   | some (vs,ak)=>call f vs ak
   | .none=>.none
 | .new c es,e,h=>match dg call es e h with
   | some (vs,ak)=>match call c (.ref ak.length::vs) (ak++[.inst c []]) with
     | some (.none,aO)=>some (.ref ak.length,aO)
     | _=>.none
   | .none=>.none
 | .len a,e,h=>match ax call a e h with
   | some (.bytes bs,ak)=>if bs.length≤1000000 then some (.int bs.length,ak) else .none
   | some (.ref a,ak)=>match ak[a]? with
     | some (.list vs)=>some (.int vs.length,ak)
     | _=>.none
   | _=>.none
 | .bytesOf a,e,h=>match ax call a e h with
   | some (.ref a,ak)=>match ak[a]? with
     | some (.list vs)=>(gc vs).map fun bs=>(.bytes bs,ak)
     | _=>.none
   | _=>.none
 | .intOf a,e,h=>match ax call a e h with
   | some (.int i,ak)=>some (.int i,ak)
   | _=>.none
 | .listOf a,e,h=>match ax call a e h with
   | some (.ref a,ak)=>match ak[a]? with
     | some (.list vs)=>dW ak vs
     | some (.idict kvs)=>dW ak (kvs.map fun p=>V.int p.1)
     | _=>.none
   | _=>.none
 | .range a,e,h=>match ax call a e h with
   | some (.int i,ak)=>if i<1000000 then some (.range i,ak) else .none
   | _=>.none
 | .pop a,e,h=>match ax call a e h with
   | some (.ref a,ak)=>match ak[a]? with
     | some (.list vs)=>match vs.getLast? with
       | some v=>some (v,ak.set a (.list vs.dropLast))
       | .none=>.none
     | _=>.none
   | _=>.none
 | .index a b,e,h=>match ax call a e h with
   | some (.ref a,ak)=>match ax call b e ak with
     | some (.int i,aO)=>match aO[a]? with
       | some (.list vs)=>(lz i vs).map fun k=>(.int k,aO)
       | _=>.none
     | _=>.none
   | _=>.none
 | .getd d k x,e,h=>match ax call d e h with
   | some (.ref a,ak)=>match ax call k e ak with
     | some (.int i,aO)=>match ax call x e aO with
       | some (y,d5)=>match d5[a]? with
         | some (.idict kvs)=>some ((lookup kvs i).getD y,d5)
         | _=>.none
       | .none=>.none
     | _=>.none
   | _=>.none
 | .comp elt k it,e,h=>match ax call it e h with
   | some (x,ak)=>match items ak x with
     | some vs=>match dv (fun v h=>match ax call elt (e.set k (some v)) h with
      | some (y,h')=>some ([y],h')
      | .none=>.none) (fun h=>eK h x (fS ak x)) vs ak with
       | some (ys,aO)=>dW aO ys
       | .none=>.none
     | .none=>.none
   | .none=>.none
 | .compIf elt k it c,e,h=>match ax call it e h with
   | some (x,ak)=>match items ak x with
     | some vs=>match dv (fun v h=>match ax call c (e.set k (some v)) h with
      | some (t,h')=>match truthy h' t with
        | some true=>match ax call elt (e.set k (some v)) h' with
          | some (y,h'')=>some ([y],h'')
          | .none=>.none
        | some false=>some ([],h')
        | .none=>.none
      | .none=>.none) (fun h=>eK h x (fS ak x)) vs ak with
       | some (ys,aO)=>dW aO ys
       | .none=>.none
     | .none=>.none
   | .none=>.none
noncomputable def dg (call:bV):pU->En->H->Option (List V×H)
 | .nil,_,h=>some ([],h)
 | .cons a r,e,h=>match ax call a e h with
   | some (x,ak)=>match dg call r e ak with
     | some (xs,aO)=>some (x::xs,aO)
     | .none=>.none
   | .none=>.none
noncomputable def gG (call:bV):pU->En->H->Option (V×H)
 | .nil,_,_=>.none
 | .cons a .nil,e,h=>ax call a e h
 | .cons a r,e,h=>match ax call a e h with
   | some (x,ak)=>match truthy ak x with
     | some true=>gG call r e ak
     | some false=>some (x,ak)
     | .none=>.none
   | .none=>.none
noncomputable def jw (call:bV):pU->En->H->Option (V×H)
 | .nil,_,_=>.none
 | .cons a .nil,e,h=>ax call a e h
 | .cons a r,e,h=>match ax call a e h with
   | some (x,ak)=>match truthy ak x with
     | some true=>some (x,ak)
     | some false=>jw call r e ak
     | .none=>.none
   | .none=>.none
noncomputable def jx (call:bV) (x:V):Cs->En->H->Option (Bool×H)
 | .one op b,e,h=>match ax call b e h with
   | some (y,ak)=>(i7 ak op x y).map fun c=>(c,ak)
   | .none=>.none
 | .more op b r,e,h=>match ax call b e h with
   | some (y,ak)=>match i7 ak op x y with
     | some true=>jx call y r e ak
     | some false=>some (false,ak)
     | .none=>.none
   | .none=>.none
end
noncomputable def j_ (call:bV) (t:Tg) (v:V) (e:En) (h:H):Option (En×H):=
 match t with
 | .name k=>if k<e.length then some (e.set k (some v),h) else .none
 | .attr o c f=>match ax call o e h with
   | some (x,ak)=>(setAttr ak x c f v).map fun aO=>(e,aO)
   | .none=>.none
 | .sub o i=>match ax call o e h with
   | some (x,ak)=>match ax call i e ak with
     | some (y,aO)=>(cW aO x y v).map fun d5=>(e,d5)
     | .none=>.none
   | .none=>.none
noncomputable def stores (call:bV):List Tg->List V->En->H->Option (En×H)
 | [],[],e,h=>some (e,h)
 | t::ts,v::vs,e,h=>match j_ call t v e h with
   | some (bt,ak)=>stores call ts vs bt ak
   | .none=>.none
 | _,_,_,_=>.none
noncomputable def k8 (h:H):V->Option (List V)
 | .tup vs=>some vs
 | .ref a=>match h[a]? with
   | some (.list vs)=>some vs
   | _=>.none
 | _=>.none
noncomputable abbrev mx:=Option (Fl×En×H)
noncomputable def dB (cond:En->H->Option (Bool×H)) (body:En->H->mx):Nat->En->H->mx
 | 0,_,_=>.none
 | n+1,e,h=>match cond e h with
   | some (true,ak)=>match body e ak with
     | some (.next,cK,aO)=>dB cond body n cK aO
     | some (.cont,cK,aO)=>dB cond body n cK aO
     | some (.ret v,cK,aO)=>some (.ret v,cK,aO)
     | .none=>.none
   | some (false,ak)=>some (.next,e,ak)
   | .none=>.none
noncomputable def dR (k:Nat) (body:En->H->mx) (chk:H->Bool):List V->En->H->mx
 | [],e,h=>if chk h then some (.next,e,h) else .none
 | v::r,e,h=>if chk h then match body (e.set k (some v)) h with
    | some (.next,cK,aO)=>dR k body chk r cK aO
    | some (.cont,cK,aO)=>dR k body chk r cK aO
    | some (.ret v,cK,aO)=>some (.ret v,cK,aO)
    | .none=>.none
   else .none
mutual
noncomputable def exec (call:bV) (N:Nat):St->En->H->mx
 | .bad,_,_=>.none
 | .pass,e,h=>some (.next,e,h)
 | .assign t x,e,h=>match ax call x e h with
   | some (v,ak)=>(j_ call t v e ak).map fun(cK,aO)=>(.next,cK,aO)
   | .none=>.none
 | .assigns ts x,e,h=>match ax call x e h with
   | some (v,ak)=>match k8 ak v with
     | some vs=>(stores call ts vs e ak).map fun(cK,aO)=>(.next,cK,aO)
     | .none=>.none
   | .none=>.none
 | .augAdd o i x,e,h=>match ax call o e h with
   | some (.ref a,ak)=>match ax call i e ak with
     | some (.int j,aO)=>match aO[a]? with
       | some (.idict kvs)=>match lookup kvs j with
         | some (.int y)=>match ax call x e aO with
           | some (.int z,d5)=>(cW d5 (.ref a) (.int j) (.int (y+z))).map fun xF=>(.next,e,xF)
           | _=>.none
         | _=>.none
       | _=>.none
     | _=>.none
   | _=>.none
 | .append l x,e,h=>match ax call l e h with
   | some (.ref a,ak)=>match ak[a]? with
     | some (.list _)=>match ax call x e ak with
       | some (v,aO)=>match aO[a]? with
         | some (.list vs)=>if vs.length<1000000 then some (.next,e,aO.set a (.list (vs++[v]))) else .none
         | _=>.none
       | .none=>.none
     | _=>.none
   | _=>.none
 | .extend l x,e,h=>match ax call l e h with
   | some (.ref a,ak)=>match ak[a]? with
     | some (.list _)=>match ax call x e ak with
       | some (.ref b,aO)=>match aO[a]?,aO[b]? with
         | some (.list vs),some (.list us)=>if a≠b/\vs.length+us.length≤1000000 then some (.next,e,aO.set a (.list (vs++us))) else .none
         | _,_=>.none
       | _=>.none
     | _=>.none
   | _=>.none
 | .extendRev l x,e,h=>match ax call l e h with
   | some (.ref a,ak)=>match ak[a]? with
     | some (.list _)=>match ax call x e ak with
       | some (.tup us,aO)=>match aO[a]? with
         | some (.list vs)=>if vs.length+us.length≤1000000 then some (.next,e,aO.set a (.list (vs++us.reverse))) else .none
         | _=>.none
       | _=>.none
     | _=>.none
   | _=>.none
 | .if_ c a b,e,h=>match ax call c e h with
   | some (x,ak)=>match truthy ak x with
     | some true=>execs call N a e ak
     | some false=>execs call N b e ak
     | .none=>.none
   | .none=>.none
 | .while_ c b,e,h=>dB (fun e h=>match ax call c e h with
  | some (x,ak)=>(truthy ak x).map fun t=>(t,ak)
  | .none=>.none) (fun e h=>execs call N b e h) N e h
 | .for_ k it b,e,h=>match ax call it e h with
   | some (x,ak)=>match items ak x with
     | some vs=>if k<e.length then dR k (fun e h=>execs call N b e h) (fun h=>eK h x (fS ak x)) vs e ak else .none
     | .none=>.none
   | .none=>.none
 | .ret x,e,h=>match ax call x e h with
   | some (v,ak)=>some (.ret v,e,ak)
   | .none=>.none
 | .cont,e,h=>some (.cont,e,h)
 | .tryRefused k r,e,h=>match e[k]? with
   | some (some o)=>match gS h o 1 6 with
     | some (.bool true)=>if r<e.length then some (.next,e.set r (some (.bool true)),h) else .none
     | _=>.none
   | _=>.none
noncomputable def execs (call:bV) (N:Nat):dz->En->H->mx
 | .nil,e,h=>some (.next,e,h)
 | .cons s r,e,h=>match exec call N s e h with
   | some (.next,bt,ak)=>execs call N r bt ak
   | some (.cont,bt,ak)=>some (.cont,bt,ak)
   | some (.ret v,bt,ak)=>some (.ret v,bt,ak)
   | .none=>.none
end
noncomputable def bindArgs (fd:FD) (vs:List V):Option En:=
 if vs.length≤fd.np/\fd.np≤vs.length+fd.dflt.length then
  some (vs.map some++(fd.dflt.drop (vs.length+fd.dflt.length-fd.np)).map some++List.replicate (fd.ns-fd.np) .none)
 else .none
noncomputable def av (fs:List FD) (N:Nat):Nat->bV
 | 0,_,_,_=>.none
 | n+1,f,vs,h=>match fs[f]? with
   | some fd=>match bindArgs fd vs with
     | some e=>match execs (av fs N n) N fd.body e h with
       | some (.next,_,ak)=>some (.none,ak)
       | some (.ret v,_,ak)=>some (v,ak)
       | _=>.none
     | .none=>.none
   | .none=>.none
theorem bp.elim {α:Type}{P Q:α->Prop}{c:Prop}(h:bp P Q)(f:∀a,P a/\Q a->c):c:=h.casesOn fun a p q=>f a ⟨p,q⟩
theorem bp.imp {α:Type}{P Q R:α->Prop}(h:bp P Q)(f:∀a,P a/\Q a->R a):∃a,R a:=h.casesOn fun a p q=>⟨a,f a ⟨p,q⟩⟩
theorem bp.map {α:Type}{P Q R S:α->Prop}(h:bp P Q)(f:∀a,P a->R a)(g:∀a,Q a->S a):bp R S:=h.casesOn fun a p q=>⟨a,f a p,g a q⟩
theorem nn {α:Type}{r:α}{p:Prop}(h:(.none:Option α)=some r):p:=nomatch h
theorem sj {α:Type}{a b:α}(h:some a=some b):a=b:=Option.some.inj h
theorem EV {β:Type}{o:Option Bool}{g:Bool->Option β}{r:β}(h:(match o with | some x=>g x | .none=>.none)=some r):bp (fun x=>o=some x) (fun x=>g x=some r):=by
 cases o with
 | none=>exact nn h
 | some x=>exact⟨x,rfl,h⟩
theorem om {α β:Type}{o:Option α}{g:α->β}{r:β}(h:o.map g=some r):bp (fun x=>o=some x) (fun x=>g x=r):=(Option.map_eq_some_iff.mp h).elim fun x z=>⟨x,z.1,z.2⟩
theorem oi {α:Type}{c:Prop} [Decidable c] {a:Option α}{r:α}(h:(if c then a else .none)=some r):c/\a=some r:=
 if x:c then⟨x,(ap x).symm.trans h⟩ else nn ((au x).symm.trans h)
theorem tz {β:Type}{o:Option O}{g:List V->Option β}{r:β}(h:(match o with | some (.list vs)=>g vs | _=>.none)=some r):bp (fun vs=>o=some (.list vs)) (fun vs=>g vs=some r):=by
 cases o with
 | none=>exact nn h
 | some o=>cases o with
   | list vs=>exact⟨vs,rfl,h⟩
   | _=>exact nn h
theorem Bg {β:Type}{o u:Option O}{g:List V->List V->Option β}{r:β}(h:(match o,u with | some (.list xs),some (.list ys)=>g xs ys | _,_=>.none)=some r):dU (fun xs ys=>o=some (.list xs)) (fun xs ys=>u=some (.list ys)) (fun xs ys=>g xs ys=some r):=by
 cases o with
 | none=>exact nn h
 | some o=>cases o with
   | list xs=>cases u with
     | none=>exact nn h
     | some u=>cases u with
       | list ys=>exact⟨xs,ys,rfl,rfl,h⟩
       | _=>exact nn h
   | _=>exact nn h
theorem Bh {β:Type}{o:Option O}{g:List V->Option β}{f:List (Int×V)->Option β}{r:β}(h:(match o with | some (.list vs)=>g vs | some (.idict kvs)=>f kvs | _=>.none)=some r):
 (bp (fun vs=>o=some (.list vs)) (fun vs=>g vs=some r))\/bp (fun kvs=>o=some (.idict kvs)) (fun kvs=>f kvs=some r):=by
 cases o with
 | none=>exact nn h
 | some o=>cases o with
   | list vs=>exact .inl ⟨vs,rfl,h⟩
   | idict vs=>exact .inr ⟨vs,rfl,h⟩
   | _=>exact nn h
theorem Eb {β:Type}{o u:Option Bool}{g:Bool->Bool->Option β}{r:β}(h:(match o,u with | some b,some c=>g b c | _,_=>.none)=some r):dU (fun b c=>o=some b) (fun b c=>u=some c) (fun b c=>g b c=some r):=by
 cases o with
 | none=>exact nn h
 | some b=>cases u with
   | none=>exact nn h
   | some c=>exact⟨b,c,rfl,rfl,h⟩
theorem D6 {β:Type}{o:Option Int}{u:Option (List Int)}{g:Int->List Int->Option β}{r:β}(h:(match o,u with | some b,some c=>g b c | _,_=>.none)=some r):dU (fun b c=>o=some b) (fun b c=>u=some c) (fun b c=>g b c=some r):=by
 cases o with
 | none=>exact nn h
 | some b=>cases u with
   | none=>exact nn h
   | some c=>exact⟨b,c,rfl,rfl,h⟩
theorem C2 {β:Type}{o:Option O}{g:List V->Option β}{f:List (Int×V)->Option β}{k:List (List Int×V)->Option β}{r:β}(h:(match o with | some (.list vs)=>g vs | some (.idict kvs)=>f kvs | some (.tdict kvs)=>k kvs | _=>.none)=some r):
 (bp (fun vs=>o=some (.list vs)) (fun vs=>g vs=some r))\/(bp (fun kvs=>o=some (.idict kvs)) (fun kvs=>f kvs=some r))\/bp (fun kvs=>o=some (.tdict kvs)) (fun kvs=>k kvs=some r):=by
 cases o with
 | none=>exact nn h
 | some o=>cases o with
   | list vs=>exact .inl ⟨vs,rfl,h⟩
   | idict vs=>exact .inr (.inl ⟨vs,rfl,h⟩)
   | tdict vs=>exact .inr (.inr ⟨vs,rfl,h⟩)
   | inst=>exact nn h
theorem D5 {β:Type}{o:Option O}{f:List (Int×V)->Option β}{k:List (List Int×V)->Option β}{r:β}(h:(match o with | some (.idict kvs)=>f kvs | some (.tdict kvs)=>k kvs | _=>.none)=some r):
 (bp (fun kvs=>o=some (.idict kvs)) (fun kvs=>f kvs=some r))\/bp (fun kvs=>o=some (.tdict kvs)) (fun kvs=>k kvs=some r):=by
 cases o with
 | none=>exact nn h
 | some o=>cases o with
   | idict vs=>exact .inl ⟨vs,rfl,h⟩
   | tdict vs=>exact .inr ⟨vs,rfl,h⟩
   | _=>exact nn h
theorem ES {β:Type}{x:V}{f:Int->Option β}{g:List Int->Option β}{r:β}(h:(match x with | .int i=>f i | .tup vs=>(match V.nums vs with | some is=>g is | .none=>.none) | _=>.none)=some r):
 (bp (fun i=>x=.int i) (fun i=>f i=some r))\/dU (fun vs is=>x=.tup vs) (fun vs is=>V.nums vs=some is) (fun vs is=>g is=some r):=by
 cases x with
 | int i=>exact .inl ⟨i,rfl,h⟩
 | tup vs=>
   revert h
   show(match V.nums vs with | some is=>g is | .none=>.none)=some r->_
   cases hq:V.nums vs with
   | none=>exact fun h=>nn h
   | some is=>exact fun h=>.inr ⟨vs,is,rfl,hq,h⟩
 | _=>exact nn h
theorem ER {β:Type}{x:V}{g:List Int->Option β}{r:β}(h:(match x with | .tup vs=>(match V.nums vs with | some is=>g is | .none=>.none) | _=>.none)=some r):
 dU (fun vs is=>x=.tup vs) (fun vs is=>V.nums vs=some is) (fun vs is=>g is=some r):=by
 cases x with
 | tup vs=>
   revert h
   show(match V.nums vs with | some is=>g is | .none=>.none)=some r->_
   cases hq:V.nums vs with
   | none=>exact fun h=>nn h
   | some is=>exact fun h=>⟨vs,is,rfl,hq,h⟩
 | _=>exact nn h
theorem C3 {β:Type}{o:Option O}{g:Nat->List V->Option β}{r:β}(h:(match o with | some (.inst d fs)=>g d fs | _=>.none)=some r):cD (fun d fs=>o=some (.inst d fs)) (fun d fs=>g d fs=some r):=by
 cases o with
 | none=>exact nn h
 | some o=>cases o with
   | inst d fs=>exact⟨d,fs,rfl,h⟩
   | _=>exact nn h
theorem ET {β:Type}{o:Option (List Int)}{g:List Int->Option β}{r:β}(h:(match o with | some x=>g x | .none=>.none)=some r):bp (fun x=>o=some x) (fun x=>g x=some r):=by
 cases o with
 | none=>exact nn h
 | some x=>exact⟨x,rfl,h⟩
theorem ip {β:Type}{o:Option (V×H)}{g:V->H->Option β}{r:β}(h:(match o with | some (x,ak)=>g x ak | .none=>.none)=some r):cD (fun x ak=>o=some (x,ak)) (fun x ak=>g x ak=some r):=by
 cases o with
 | none=>exact nn h
 | some p=>exact⟨p.1,p.2,rfl,h⟩
theorem vw {β:Type}{o:Option Bool}{f g:Option β}{r:β}(h:(match o with | some true=>f | some false=>g | .none=>.none)=some r):(o=some true/\f=some r)\/(o=some false/\g=some r):=by
 cases o with
 | none=>exact nn h
 | some b=>cases b with
   | true=>exact .inl ⟨rfl,h⟩
   | false=>exact .inr ⟨rfl,h⟩
theorem As {o:Option (Option V)}{h:H}{r:V×H}(e:(match o with | some (some v)=>some (v,h) | _=>.none)=some r):bp (fun v=>o=some (some v)) (fun v=>(v,h)=r):=by
 cases o with
 | none=>exact nn e
 | some o=>cases o with
   | none=>exact nn e
   | some v=>exact⟨v,rfl,sj e⟩
theorem mY {β:Type}{o:Option (List V×H)}{g:List V->H->Option β}{r:β}(h:(match o with | some (x,ak)=>g x ak | .none=>.none)=some r):cD (fun x ak=>o=some (x,ak)) (fun x ak=>g x ak=some r):=by
 cases o with
 | none=>exact nn h
 | some p=>exact⟨p.1,p.2,rfl,h⟩
theorem n6 {β:Type}{o:Option (V×H)}{g:Nat->H->Option β}{r:β}(h:(match o with | some (.ref a,ak)=>g a ak | _=>.none)=some r):cD (fun a ak=>o=some (.ref a,ak)) (fun a ak=>g a ak=some r):=by
 cases o with
 | none=>exact nn h
 | some p=>
   obtain⟨v,ak⟩:=p;cases v with
   | ref a=>exact⟨a,ak,rfl,h⟩
   | _=>exact nn h
theorem vz {β:Type}{o:Option (V×H)}{g:Int->H->Option β}{r:β}(h:(match o with | some (.int a,ak)=>g a ak | _=>.none)=some r):cD (fun a ak=>o=some (.int a,ak)) (fun a ak=>g a ak=some r):=by
 cases o with
 | none=>exact nn h
 | some p=>
   obtain⟨v,ak⟩:=p;cases v with
   | int a=>exact⟨a,ak,rfl,h⟩
   | _=>exact nn h
theorem D9 {β:Type}{o:Option (V×H)}{g:List V->H->Option β}{r:β}(h:(match o with | some (.tup a,ak)=>g a ak | _=>.none)=some r):cD (fun a ak=>o=some (.tup a,ak)) (fun a ak=>g a ak=some r):=by
 cases o with
 | none=>exact nn h
 | some p=>
   obtain⟨v,ak⟩:=p;cases v with
   | tup a=>exact⟨a,ak,rfl,h⟩
   | _=>exact nn h
theorem Fj {β:Type}{o:Option (V×H)}{g:H->Option β}{r:β}(h:(match o with | some (.none,ak)=>g ak | _=>.none)=some r):bp (fun ak=>o=some (.none,ak)) (fun ak=>g ak=some r):=by
 cases o with
 | none=>exact nn h
 | some p=>
   obtain⟨v,ak⟩:=p;cases v with
   | none=>exact⟨ak,rfl,h⟩
   | _=>exact nn h
theorem C1 {β:Type}{o:Option (V×H)}{f:List UInt8->H->Option β}{g:Nat->H->Option β}{r:β}(h:(match o with | some (.bytes bs,ak)=>f bs ak | some (.ref a,ak)=>g a ak | _=>.none)=some r):
 (cD (fun bs ak=>o=some (.bytes bs,ak)) (fun bs ak=>f bs ak=some r))\/cD (fun a ak=>o=some (.ref a,ak)) (fun a ak=>g a ak=some r):=by
 cases o with
 | none=>exact nn h
 | some p=>
   obtain⟨v,ak⟩:=p;cases v with
   | bytes bs=>exact .inl ⟨bs,ak,rfl,h⟩
   | ref a=>exact .inr ⟨a,ak,rfl,h⟩
   | _=>exact nn h
theorem Fi {β:Type}{o:Option V}{g:V->Option β}{r:β}(h:(match o with | some x=>g x | .none=>.none)=some r):bp (fun x=>o=some x) (fun x=>g x=some r):=by
 cases o with
 | none=>exact nn h
 | some x=>exact⟨x,rfl,h⟩
theorem xe {β:Type}{o:Option (List V)}{g:List V->Option β}{r:β}(h:(match o with | some x=>g x | .none=>.none)=some r):bp (fun x=>o=some x) (fun x=>g x=some r):=by
 cases o with
 | none=>exact nn h
 | some x=>exact⟨x,rfl,h⟩
theorem EU {β:Type}{o:Option O}{g:List (Int×V)->Option β}{r:β}(h:(match o with | some (.idict kvs)=>g kvs | _=>.none)=some r):bp (fun kvs=>o=some (.idict kvs)) (fun kvs=>g kvs=some r):=by
 cases o with
 | none=>exact nn h
 | some o=>cases o with
   | idict vs=>exact⟨vs,rfl,h⟩
   | _=>exact nn h
theorem D4 {β:Type}{o:Option (List (Int×V))}{g:List (Int×V)->Option β}{r:β}(h:(match o with | some x=>g x | .none=>.none)=some r):bp (fun x=>o=some x) (fun x=>g x=some r):=by
 cases o with
 | none=>exact nn h
 | some x=>exact⟨x,rfl,h⟩
end
section
open PySem PySem.W PyProof.Rows
variable {v:Value}{prog:Program}{w:World}{A:Around}{E:Value->Shared->Prop}{s:Shared}
section
noncomputable def sy (i:Int):Value->Bool
 | .int j _=>decide (j=i)
 | .bool b=>decide ((if b then 1 else 0)=i)
 | _=>false
theorem fE {i:Int}(h:sy i v=true):(∃t,v=.int i t)\/bp (fun(b:Bool)=>v=.bool b) (fun(b:Bool)=>(if b then(1:Int) else 0)=i):=by
 cases v with
 | int j t=>exact .inl ⟨t,by rw[of_decide_eq_true h]⟩
 | bool b=>exact .inr ⟨b,rfl,of_decide_eq_true h⟩
 | _=>exact absurd h Bool.false_ne_true
theorem vQ {b:Bool}{Q:Int->Shared->Prop}
 (h:Q (hashInt (if b then 1 else 0)) {s with toks:=s.toks+1}):wpAny (model prog w) A (pyHash (.bool b)) Q E s:=by
 refine pyHash_slot (T:= "bool") rfl F.slot_bool_hash entry_int_hash (args_int_hash _) (beq_builtin_none _) (.inl rfl) ?_;cases b
 ·exact(show wpAny _ _ (do ret (<-mkInt 0)) _ _ s from aq (wpAny_mkInt (aL ⟨_,_,rfl,h⟩)))
 ·exact(show wpAny _ _ (do ret (<-mkInt 1)) _ _ s from aq (wpAny_mkInt (aL ⟨_,_,rfl,h⟩)))
theorem Bl {a b:Int}{u:Value}{Q:Bool->Shared->Prop}
 (hu:sy a u=true) (hv:sy b v=true) (h:Q (decide (a=b)) s):wpAny (model prog w) A (PySem.eqBool u v) Q E s:=by
 have key:∀k:Bool,SeqAt.EqAt A s u v k->k=decide (a=b)->wpAny (model prog w) A (PySem.eqBool u v) Q E s:=fun k e q=>e prog w E Q (by rw[q];exact h)
 rcases fE hu with⟨t,rfl⟩ | ⟨x,rfl,hx⟩<;>rcases fE hv with⟨t',rfl⟩ | ⟨y,rfl,hy⟩
 ·exact key _ (SeqAt.EqAt.int_int a t b t') rfl
 ·exact key _ (SeqAt.EqAt.int_bool a t y) (by rw[hy];rfl)
 ·exact key _ (SeqAt.EqAt.bool_int x b t') (by rw[hx];rfl)
 ·exact key _ (SeqAt.EqAt.bool_bool x y) (by subst hx hy;cases x<;>cases y<;>rfl)
noncomputable def fz (prog:Program) (w:World):KeyKind prog w Int where
 is:=sy
 hash:=hashInt
 inj:=fun v a b ha hb=>by
  rcases fE ha with⟨t,rfl⟩ | ⟨x,rfl,hx⟩
  ·exact of_decide_eq_true hb
  ·exact hx.symm.trans (of_decide_eq_true hb)
 byValue:=fun k v h=>by rcases fE h with⟨t,rfl⟩ | ⟨x,rfl,_⟩<;>rfl
 pyHash:=fun hv h=>by
  rcases fE hv with⟨t,rfl⟩ | ⟨x,rfl,hx⟩
  ·exact wpAny_pyHash_int h
  ·subst hx;exact vQ h
 eqBool:=Bl
 «strs» :=fun k x t v h=>absurd h Bool.false_ne_true
structure Cx where
 prog:Program
 w:World
 B:Heap
 cls:Nat->Addr
 fn:Nat->Addr
 K:Frag
 mg:Str->Option Value
 mb:Str->Option Value
 loose:List Str
 low:cD (fun a o=>sysModules<a) (fun a o=>B.get? a=some o)
noncomputable def cO:Nat->List Str
 | 0=>["op", "out", "arg", "low", "high", "is_folded", "is_last"]
 | 1=>["insts", "start", "start_loose", "is_reversed", "is_anchored_start", "is_anchored_end", "is_flat", "heads", "prefix", "is_prefix_folded", "byte_cuts"]
 | _=>[]
noncomputable abbrev dM:=List (Addr×Addr)
mutual
inductive VR (X:Cx) (ρ:dM) (h:Heap):V->Value->Prop
 | none:VR X ρ h .none .none
 | bool (b:Bool):VR X ρ h (.bool b) (.bool b)
 | int (i:Int) (t:Tok):VR X ρ h (.int i) (.int i t)
 | bytes (b:List UInt8) (t:Tok):VR X ρ h (.bytes b) (.bytes b.toArray t)
 | tup {a:Addr} {vs:List V} {cs:Array Value}:IsTup h a cs->cp X ρ h vs cs.toList->VR X ρ h (.tup vs) (.ref a)
 | flist {a:Addr} {vs:List V} {cs:Array Value}:X.B.IsList a cs->cp X ρ h vs cs.toList->VR X ρ h (.flist vs) (.ref a)
 | range {a:Addr} {n:Int} {t u v:Tok}:IsRange h a 0 n 1 t u v->VR X ρ h (.range n) (.ref a)
 | ref {i:Nat} {p:Addr×Addr}:ρ[i]?=some p->VR X ρ h (.ref i) (.ref p.1)
inductive cp (X:Cx) (ρ:dM) (h:Heap):List V->List Value->Prop
 | nil:cp X ρ h [] []
 | cons {v:V} {c:Value} {vs:List V} {cs:List Value}:VR X ρ h v c->cp X ρ h vs cs->cp X ρ h (v::vs) (c::cs)
end
variable {ρ ρ' aT r:dM}{h h' ak aO:Heap}{X:Cx}{vs us:List V}{cs:List Value}{p:Addr×Addr}{σ:H}{E E':List Addr}{o:O}{v:V}{i:Nat}{c:Value}{a:Addr}{items:Array Value}{ns:List Str}{es:List DictEntry}
inductive je (X:Cx) (ρ:dM) (h:Heap):List Str->List DictEntry->List V->Prop
 | nil {ns:List Str}:je X ρ h ns [] []
 | cons {n:Str} {ns:List Str} {e:DictEntry} {es:List DictEntry} {v:V} {vs:List V} {tk:Tok}:e.key=.str n tk->VR X ρ h v e.val->je X ρ h ns es vs->je X ρ h (n::ns) (e::es) (v::vs)
noncomputable def OR (X:Cx) (ρ:dM) (h:Heap):O->Addr×Addr->Prop
 | .list vs,p=>p.1=p.2/\vs.length≤1000000/\cD (fun cs n=>h.get? p.2=some (listOf cs n)) (fun cs n=>cp X ρ h vs cs.toList)
 | .idict kvs,p=>p.1=p.2/\ta (fun ks=>h.DictAt (intKind X.prog X.w) p.2 ks ks.length) (fun ks=>ks.map (·.1)=kvs.map (·.1)) (fun ks=>cp X ρ h (kvs.map (·.2)) (ks.map (·.2)))
 | .tdict kvs,p=>p.1=p.2/\ta (fun ks=>h.DictOfH (tupleKind (fz X.prog X.w)) p.2 ks) (fun ks=>ks.map (·.1)=kvs.map (·.1)) (fun ks=>cp X ρ h (kvs.map (·.2)) (ks.map (·.2.2)))
 | .inst c fs,p=>h.get? p.1=some (instObj (X.cls c) p.2)/\cD (fun es n=>h.get? p.2=some (dictOf es n)) (fun es n=>je X ρ h (cO c) es fs)
structure Inv (X:Cx) (ρ:dM) (σ:H) (h:Heap):Prop where
 len:ρ.length=σ.length
 obj:∀ (i:Nat) (o:O) (p:Addr×Addr),σ[i]?=some o->ρ[i]?=some p->OR X ρ h o p
 nd:(ρ.map (·.2)).Nodup
 nbn:∀p∈ρ,X.B.get? p.2=none
 sys:∀p∈ρ,p.2≠sysModules
 base:∀a o,X.B.get? a=some o->h.get? a=some o
noncomputable def rJ (o:Obj):Prop:=(o.cls=.type "tuple" \/o.cls=.type "range" \/∃c,o.cls=.ref c)/\(∀es ep,o.data≠ .dict es ep)/\∀v,o.data≠ .cell v
theorem uE {o:Obj}{n:Nat}(hc:o.cls=.type "tuple")(hd:o.data=.seq items n):rJ o:=
 ⟨.inl hc,fun y y e=>(by rw[hd] at e;cases e),fun y e=>(by rw[hd] at e;cases e)⟩
theorem xE {o:Obj}(hc:o.cls=.type "tuple")(hd:∃n,o.data=.seq items n):rJ o:=uE hc hd.choose_spec
theorem vO {fs:Array Value}:rJ {cls:=.type "range",data:=.fields fs}:=⟨.inr (.inl rfl),fun y y e=>(by cases e),fun y e=>(by cases e)⟩
theorem sB (c d:Addr):rJ (instObj c d):=⟨.inr (.inr ⟨_,rfl⟩),fun y y e=>(by cases e),fun y e=>(by cases e)⟩
structure dY (E:List Addr) (ρ ρ':dM) (h h':Heap):Prop where
 pre:ρ<+:ρ'
 alive:∀a o,h.get? a=some o->∃o',h'.get? a=some o'
 keep:∀a o,h.get? a=some o->(∀p∈ρ,p.2≠a)->a∉E->h'.get? a=some o
 imm:∀a o,h.get? a=some o->rJ o->h'.get? a=some o
 new:∀p∈ρ',p∈ρ\/h.get? p.2=none
theorem dY.refl (E:List Addr)(ρ:dM)(h:Heap):dY E ρ ρ h h:=⟨List.prefix_rfl,fun y o e=>⟨o,e⟩,fun y y e y y=>e,fun y y e y=>e,fun y hp=>.inl hp⟩
theorem dY.trans {dA:dM}(x:dY E ρ aT h ak)(y:dY E aT dA ak aO):dY E ρ dA h aO where
 pre:=x.pre.trans y.pre
 alive:=fun a o e=>let ⟨ja,bt⟩:=x.alive a o e;y.alive a ja bt
 keep:=fun a o e hp hE=>y.keep a o (x.keep a o e hp hE) (fun p hp' q=>by
  rcases x.new p hp' with h1 | h1
  ·exact hp p h1 q
  ·rw[q,e] at h1;cases h1) hE
 imm:=fun a o e hi=>y.imm a o (x.imm a o e hi) hi
 new:=fun p hp=>by
  rcases y.new p hp with h1 | h1
  ·exact x.new p h1
  ·right
   cases q:h.get? p.2 with
   | none=>rfl
   | some o=>obtain⟨o',e'⟩:=x.alive _ _ q;rw[h1] at e';cases e'
theorem dY.mono (x:dY E ρ aT h ak)(hE:∀a∈E,a∈E'):dY E' ρ aT h ak:=
 ⟨x.pre,x.alive,fun a o e hp q=>x.keep a o e hp fun z=>q (hE a z),x.imm,x.new⟩
theorem dY.drop (x:dY E' ρ aT h ak)(hE:∀a∈E',a∈E\/h.get? a=none):dY E ρ aT h ak:=
 ⟨x.pre,x.alive,fun a o e hp q=>x.keep a o e hp fun z=>(hE a z).elim q (fun h1=>by rw[e] at h1;exact absurd h1 (by simp)),x.imm,x.new⟩
theorem dY.thenBut {it:Addr}(x:dY E ρ aT h ak)(hk:∀b o,b≠it->ak.get? b=some o->aO.get? b=some o)(hn:h.get? it=none):dY E ρ aT h aO:=by
 have ne:∀a o,h.get? a=some o->a≠it:=fun a o e z=>by rw[z,hn] at e;cases e
 exact⟨x.pre,fun a o e=>let ⟨ja,bt⟩:=x.alive a o e;⟨ja,hk a ja (ne a o e) bt⟩,fun a o e hp q=>hk a o (ne a o e) (x.keep a o e hp q),fun a o e hi=>hk a o (ne a o e) (x.imm a o e hi),x.new⟩
theorem cJ (ha:h.objs.size≤a):h.get? a=none:=by
 cases q:h.get? a with
 | none=>rfl
 | some o=>exact absurd (Heap.lt_size q) (Nat.not_lt.mpr ha)
theorem cp.ind {M:List V->List Value->Prop}(hn:M [] [])(hc:∀ {v c vs cs},VR X ρ h v c->cp X ρ h vs cs->M vs cs->M (v::vs) (c::cs))(r:cp X ρ h vs cs):M vs cs:=
 cp.rec (motive_1:=fun y y y=>True) (motive_2:=fun vs cs y=>M vs cs) trivial (fun y=>trivial) (fun y y=>trivial) (fun y y=>trivial) (fun y y y=>trivial) (fun y y y=>trivial) (fun y=>trivial) (fun y=>trivial) hn (fun a b y x=>hc a b x) r
theorem VR.map (hp:ρ<+:ρ')(hi:∀a o,h.get? a=some o->rJ o->h'.get? a=some o)(r:VR X ρ h v c):VR X ρ' h' v c:=
 VR.rec (motive_1:=fun v c y=>VR X ρ' h' v c) (motive_2:=fun vs cs y=>cp X ρ' h' vs cs) .none .bool .int .bytes
  (fun t y q=>.tup (t.elim fun o z=>⟨o,hi _ o z.1 (xE z.2.1 z.2.2),z.2⟩) q) (fun hl y q=>.flist hl q) (fun hr=>.range (hi _ _ hr vO))
  (fun q=>.ref (hp.elim fun y z=>z▸(List.getElem?_append_left (bP q).1).trans q)) .nil (fun y y a b=>.cons a b) r
theorem cp.map (hp:ρ<+:ρ')(hi:∀a o,h.get? a=some o->rJ o->h'.get? a=some o)(r:cp X ρ h vs cs):cp X ρ' h' vs cs:=
 r.ind .nil fun a y q=>.cons (a.map hp hi) q
theorem je.map (hp:ρ<+:ρ')(hi:∀a o,h.get? a=some o->rJ o->h'.get? a=some o)(r:je X ρ h ns es vs):je X ρ' h' ns es vs:=
 r.rec .nil fun a b y q=>.cons a (b.map hp hi) q
theorem VR.ext (x:dY E ρ ρ' h h')(r:VR X ρ h v c):VR X ρ' h' v c:=r.map x.pre x.imm
theorem cp.ext (x:dY E ρ ρ' h h')(r:cp X ρ h vs cs):cp X ρ' h' vs cs:=r.map x.pre x.imm
theorem je.ext (x:dY E ρ ρ' h h')(r:je X ρ h ns es vs):je X ρ' h' ns es vs:=r.map x.pre x.imm
theorem cp.length (r:cp X ρ h vs cs):vs.length=cs.length:=
 r.ind (M:=fun vs cs=>vs.length=cs.length) rfl fun y y q=>ag (· +1) q
theorem cp.get (r:cp X ρ h vs cs):∀ {i:Nat} {v:V},vs[i]?=some v->bp (fun c=>cs[i]?=some c) (fun c=>VR X ρ h v c):=
 fun{i v}=>r.ind (M:=fun vs cs=>∀ (i:Nat) (v:V),vs[i]?=some v->bp (fun c=>cs[i]?=some c) (fun c=>VR X ρ h v c)) (fun y y e=>nn e) (fun a y q i v e=>by
  cases i with
  | zero=>cases sj e;exact⟨_,rfl,a⟩
  | succ i=>exact q i v e) i v
theorem cp.append {ds:List Value}(r:cp X ρ h vs cs)(q:cp X ρ h us ds):cp X ρ h (vs++us) (cs++ds):=
 r.ind (M:=fun vs cs=>cp X ρ h (vs++us) (cs++ds)) q fun a y x=>.cons a x
theorem cp.take (n:Nat)(r:cp X ρ h vs cs):cp X ρ h (vs.take n) (cs.take n):=
 r.ind (M:=fun vs cs=>∀n,cp X ρ h (vs.take n) (cs.take n)) (fun n=>by cases n<;>exact .nil) (fun a y x n=>by cases n with | zero=>exact .nil | succ n=>exact .cons a (x n)) n
theorem cp.drop (n:Nat)(r:cp X ρ h vs cs):cp X ρ h (vs.drop n) (cs.drop n):=
 r.ind (M:=fun vs cs=>∀n,cp X ρ h (vs.drop n) (cs.drop n)) (fun n=>by cases n<;>exact .nil) (fun a b x n=>by cases n with | zero=>exact .cons a b | succ n=>exact x n) n
theorem cp.reverse (r:cp X ρ h vs cs):cp X ρ h vs.reverse cs.reverse:=
 r.ind (M:=fun vs cs=>cp X ρ h vs.reverse cs.reverse) .nil fun a y x=>by rw[List.reverse_cons,List.reverse_cons];exact x.append (.cons a .nil)
theorem cp.dropLast (r:cp X ρ h vs cs):cp X ρ h vs.dropLast cs.dropLast:=by rw[List.dropLast_eq_take,List.dropLast_eq_take,<-r.length];exact r.take _
theorem cp.replicate (x:VR X ρ h v c)(n:Nat):cp X ρ h (List.replicate n v) (List.replicate n c):=by
 induction n with
 | zero=>exact .nil
 | succ n ih=>exact .cons x ih
theorem cp.nil_inv (r:cp X ρ h [] cs):cs=[]:=by cases r;rfl
theorem cp.cons_inv (r:cp X ρ h (v::vs) cs):dU (fun d ds=>cs=d::ds) (fun d ds=>VR X ρ h v d) (fun d ds=>cp X ρ h vs ds):=by cases r with | cons a b=>exact⟨_,_,rfl,a,b⟩
theorem cp.cons2 (r:cp X ρ h (v::vs) (c::cs)):VR X ρ h v c/\cp X ρ h vs cs:=by cases r with | cons a b=>exact⟨a,b⟩
theorem cp.split:∀ {cs:List Value},cp X ρ h (vs++us) cs->dU (fun as bs=>cs=as++bs) (fun as bs=>cp X ρ h vs as) (fun as bs=>cp X ρ h us bs):=by
 induction vs with
 | nil=>exact fun{cs} r=>⟨[],cs,rfl,.nil,r⟩
 | cons v vs ih=>
   intro cs r;obtain⟨d,ds,rfl,a,b⟩:=cp.cons_inv r;obtain⟨as,bs,rfl,h1,h2⟩:=ih b;exact⟨_::as,bs,rfl,.cons a h1,h2⟩
theorem OR.map (hp:ρ<+:ρ')(hi:∀a o,h.get? a=some o->rJ o->h'.get? a=some o)(hb:h'.get? p.2=h.get? p.2)(r:OR X ρ h o p):OR X ρ' h' o p:=by
 cases o with
 | list vs=>
   obtain⟨e,hz,cs,n,h1,h2⟩:=r;exact⟨e,hz,cs,n,hb.trans h1,h2.map hp hi⟩
 | idict kvs=>
   obtain⟨e,ks,⟨o,es,h1,h2⟩,h3,h4⟩:=r;exact⟨e,ks,⟨o,es,hb.trans h1,h2⟩,h3,h4.map hp hi⟩
 | tdict kvs=>
   obtain⟨e,ks,⟨o,es,ep,h1,h2,h3,h4,h5,h6⟩,h7,h8⟩:=r;exact⟨e,ks,⟨o,es,ep,hb.trans h1,h2,h3,h4,fun k hk=>(h5 k hk).elim fun o' z=>z.elim fun items z=>z.elim fun n z=>⟨o',items,n,hi _ _ z.1 (uE z.2.1 z.2.2.1),z.2⟩,h6⟩,h7,h8.map hp hi⟩
 | inst c fs=>
   obtain⟨h1,es,n,h2,h3⟩:=r;exact⟨hi _ _ h1 (sB _ _),es,n,hb.trans h2,h3.map hp hi⟩
theorem OR.ext (x:dY E ρ ρ' h h')(hb:h'.get? p.2=h.get? p.2)(r:OR X ρ h o p):OR X ρ' h' o p:=r.map x.pre x.imm hb
theorem cp.more (x:cp X ρ h vs cs):cp X (ρ++r) h vs cs:=x.map (List.prefix_append _ _) fun y y e y=>e
theorem OR.more (x:OR X ρ h o p):OR X (ρ++r) h o p:=x.map (List.prefix_append _ _) (fun y y e y=>e) rfl
theorem OR.body (r:OR X ρ h o p):bp (fun b=>h.get? p.2=some b) (fun b=>(b.cls=.type "list" \/b.cls=.type "dict")):=by
 cases o with
 | list vs=>obtain⟨e,_,cs,n,h1,h2⟩:=r;exact⟨_,h1,.inl rfl⟩
 | idict kvs=>obtain⟨e,ks,⟨o,es,h1,h2,_⟩,h3,h4⟩:=r;exact⟨_,h1,.inr h2.1⟩
 | tdict kvs=>obtain⟨e,ks,⟨o,es,ep,h1,h2,_⟩,h7,h8⟩:=r;exact⟨_,h1,.inr h2.1⟩
 | inst c fs=>obtain⟨h1,es,n,h2,h3⟩:=r;exact⟨_,h2,.inr rfl⟩
theorem Inv.at (I:Inv X ρ σ h)(e:σ[i]?=some o):bp (fun p=>ρ[i]?=some p) (fun p=>OR X ρ h o p):=by have hi:=(bP e).1;rw[<-I.len] at hi;exact⟨ρ[i],by simp[hi],I.obj i o _ e (by simp[hi])⟩
theorem Inv.atρ (I:Inv X ρ σ h)(hp:p∈ρ):dU (fun(i:Nat) (o:O)=>ρ[i]?=some p) (fun(i:Nat) (o:O)=>σ[i]?=some o) (fun(i:Nat) (o:O)=>OR X ρ h o p):=by obtain⟨i,hi⟩:=List.mem_iff_getElem?.mp hp;have hl:=(bP hi).1;rw[I.len] at hl;exact⟨i,σ[i],hi,by simp[hl],I.obj i _ p (by simp[hl]) hi⟩
theorem Inv.lt (I:Inv X ρ σ h)(hp:p∈ρ):p.2<h.objs.size:=by obtain⟨i,o,_,_,r⟩:=I.atρ hp;obtain⟨b,hb,_⟩:=r.body;exact Heap.lt_size hb
theorem Inv.ext (I:Inv X ρ σ h)(x:dY E ρ ρ h h')(hb:∀p∈ρ,h'.get? p.2=h.get? p.2)
 (hB:∀a o,X.B.get? a=some o->h'.get? a=some o):Inv X ρ σ h':=
 ⟨I.len,fun i o p e q=>(I.obj i o p e q).ext x (hb p (List.mem_of_getElem? q)),I.nd,I.nbn,I.sys,hB⟩
theorem iA (nd:(ρ.map (·.2)).Nodup){j:Nat}{q:Addr×Addr}(hi:ρ[i]?=some p)(hj:ρ[j]?=some q)(hij:i≠j):p.2≠q.2:=fun e=>by
 have h1:(ρ.map (·.2))[i]?=some p.2:=by rw[List.getElem?_map,hi];rfl
 have h2:(ρ.map (·.2))[j]?=some q.2:=by rw[List.getElem?_map,hj];rfl
 rw[e] at h1;exact hij ((List.getElem?_inj (bP h1).1 nd).mp (h1.trans h2.symm))
theorem dY.put (kp:∀b o,b≠a->h.get? b=some o->h'.get? b=some o)(hl:∃o',h'.get? a=some o')(hn:∀o,h.get? a=some o->¬rJ o)(out:(∀p∈ρ,p.2≠a)->a∉E->False):dY E ρ ρ h h':=
 ⟨List.prefix_rfl,fun b o e=>if z:b=a then z▸hl else⟨o,kp b o z e⟩,fun b o e hp hE=>kp b o (fun z=>out (z▸hp) (z▸hE)) e,fun b o e hi=>kp b o (fun z=>hn o (z▸e) hi) e,fun y hp=>.inl hp⟩
theorem qT {b:Obj}(hc:b.cls=.type "list" \/b.cls=.type "dict")(hi:rJ b):False:=
 have ne:∀ {s t:String},b.cls=.type s->b.cls=.type t->s≠t->False:=fun p q r=>r (Value.type.inj (p.symm.trans q))
 hc.elim (fun z=>hi.1.elim (fun q=>ne z q (by decide)) fun q=>q.elim (fun q=>ne z q (by decide)) fun q=>q.elim fun y q=>Value.noConfusion (z.symm.trans q))
  fun z=>hi.1.elim (fun q=>ne z q (by decide)) fun q=>q.elim (fun q=>ne z q (by decide)) fun q=>q.elim fun y q=>Value.noConfusion (z.symm.trans q)
theorem Inv.writeX (I:Inv X ρ σ h)(hi:ρ[i]?=some p)(hs:∀b o,b≠p.2->h.get? b=some o->h'.get? b=some o)(hl:∃o',h'.get? p.2=some o')
 (r:dY [] ρ ρ h h'->OR X ρ h' o p):Inv X ρ (σ.set i o) h'/\dY [] ρ ρ h h':=by
 have hp:=List.mem_of_getElem? hi;obtain⟨j,Fg,hj,_,DX⟩:=I.atρ hp;have x:dY [] ρ ρ h h':=dY.put hs hl (fun o e=>DX.body.elim fun b z=>qT (sj (z.1.symm.trans e)▸z.2)) fun q y=>q p hp rfl;refine⟨⟨I.len.trans List.length_set.symm,fun k o' q e hq=> ?_,I.nd,I.nbn,I.sys,fun a o' e=>hs a o' (fun z=>nn ((I.nbn p hp).symm.trans (z▸e))) (I.base a o' e)⟩,x⟩
 by_cases hk:k=i
 ·subst hk
  cases sj (hi.symm.trans hq);exact sj ((List.getElem?_set_self (I.len▸(bP hi).1)).symm.trans e)▸r x
 ·have r1:=I.obj k o' q ((List.getElem?_set_ne (Ne.symm hk)).symm.trans e) hq
  exact r1.ext x (r1.body.elim fun b z=>(hs _ _ (iA I.nd hq hi hk) z.1).trans z.1.symm)
theorem Inv.write (I:Inv X ρ σ h)(hi:ρ[i]?=some p)(hs:Heap.SameBut p.2 h h')(hl:∃o',h'.get? p.2=some o')
 (r:dY [] ρ ρ h h'->OR X ρ h' o p):Inv X ρ (σ.set i o) h'/\dY [] ρ ρ h h':=I.writeX hi (fun b o hb e=>(hs.2 b hb).trans e) hl r
theorem sb {α:Type}{l:List α}{x y:α}(h:(l++[x])[i]?=some y):(i<l.length/\l[i]?=some y)\/(i=l.length/\y=x):=by
 by_cases hi:i<l.length
 ·exact .inl ⟨hi,(List.getElem?_append_left hi).symm.trans h⟩
 ·have h1:=bP h
  have hl:i=l.length:=Nat.le_antisymm (Nat.le_of_lt_succ (Nat.lt_of_lt_of_eq h1.1 bd)) (Nat.not_lt.mp hi);subst hl;exact .inr ⟨rfl,(sj (List.getElem?_concat_length.symm.trans h)).symm⟩
theorem Inv.snoc (I:Inv X ρ σ h)(hp:∀q∈ρ,q.2≠p.2)(hB:X.B.get? p.2=none)(hs:p.2≠sysModules)
 (hb:∀a o,X.B.get? a=some o->h'.get? a=some o) (old:∀o q,q∈ρ->OR X ρ h o q->OR X (ρ++[p]) h' o q) (r:OR X (ρ++[p]) h' o p):Inv X (ρ++[p]) (σ++[o]) h':=by
 have all:∀ {P:Addr×Addr->Prop},(∀q∈ρ,P q)->P p->∀q∈ρ++[p],P q:=fun a b q hq=>(ba hq).elim (a q) fun z=>aB z▸b;refine⟨by rw[bd,bd,I.len];rfl,fun i o' q e hq=> ?_,?_,all I.nbn hB,all I.sys hs,hb⟩
 ·rcases sb e with⟨l1,e⟩ | ⟨l1,rfl⟩<;>rcases sb hq with⟨l2,hq⟩ | ⟨l2,rfl⟩
  ·exact old _ _ (List.mem_of_getElem? hq) (I.obj i o' q e hq)
  ·exact absurd l1 (I.len▸l2▸Nat.lt_irrefl _)
  ·exact absurd l2 (I.len▸l1▸Nat.lt_irrefl _)
  ·exact r
 ·rw[List.map_append,List.nodup_append]
  refine⟨I.nd,by simp,fun a ha b hb=> ?_⟩
  cases aB hb;obtain⟨q,hq,rfl⟩:=List.mem_map.mp ha;exact hp q hq
theorem Inv.fresh (I:Inv X ρ σ h)(hsz:h.objs.size≤a):(∀q∈ρ,q.2≠a)/\X.B.get? a=none/\a≠sysModules:=by
 refine⟨fun q hq z=>absurd (I.lt hq) (Nat.not_lt.mpr (z▸hsz)),?_,fun z=> ?_⟩
 ·cases q:X.B.get? a with
  | none=>rfl
  | some o=>exact absurd (Heap.lt_size (I.base _ _ q)) (Nat.not_lt.mpr hsz)
 ·obtain⟨b,o,ha,hb⟩:=X.low
  exact absurd (Nat.lt_of_lt_of_le (Nat.lt_trans ha (Heap.lt_size (I.base _ _ hb))) (z▸hsz)) (Nat.lt_irrefl _)
theorem Inv.adopt (I:Inv X ρ σ h)(hp:∀q∈ρ,q.2≠p.2)(hB:X.B.get? p.2=none)(hs:p.2≠sysModules)(r:OR X (ρ++[p]) h o p):Inv X (ρ++[p]) (σ++[o]) h:=
 I.snoc hp hB hs I.base (fun y y y x=>x.more) r
theorem Inv.alloc (I:Inv X ρ σ h)(hk:∀a o,h.get? a=some o->h'.get? a=some o)(hsz:h.objs.size≤p.2)
 (r:dY [] ρ (ρ++[p]) h h'->OR X (ρ++[p]) h' o p):Inv X (ρ++[p]) (σ++[o]) h'/\dY [] ρ (ρ++[p]) h h':=by
 have y:dY [] ρ (ρ++[p]) h h':=⟨List.prefix_append _ _,fun a o e=>⟨o,hk a o e⟩,fun a o e w w=>hk a o e,fun a o e w=>hk a o e,fun q hq=>
  (ba hq).imp_right fun z=>by cases aB z;exact cJ hsz⟩
 obtain⟨f1,f2,f3⟩:=I.fresh hsz;exact⟨I.snoc f1 f2 f3 (fun a o e=>hk a o (I.base a o e)) (fun o q w x=>x.ext y (by obtain⟨b,hb,_⟩:=x.body;rw[hb,hk _ _ hb])) (r y),y⟩
theorem dY.grew (E:List Addr)(hk:∀a o,h.get? a=some o->h'.get? a=some o):dY E ρ ρ h h':=
 ⟨List.prefix_rfl,fun a o e=>⟨o,hk a o e⟩,fun a o e y y=>hk a o e,fun a o e y=>hk a o e,fun y hp=>.inl hp⟩
theorem Inv.grew (I:Inv X ρ σ h)(hk:∀a o,h.get? a=some o->h'.get? a=some o):Inv X ρ σ h':=
 I.ext (dY.grew [] hk) (fun p hp=>by obtain⟨i,o,_,_,r⟩:=I.atρ hp;obtain⟨b,hb,_⟩:=r.body;rw[hb,hk _ _ hb]) fun a o e=>hk a o (I.base a o e)
end
end
section
open PySem PySem.W PyProof.Rows
variable {h:Heap}{ρ:dM}{X:Cx}{c:Value}{σ:H}{a:Addr}{vs xs:List V}{cs:Array Value}{A:Around}{s:Shared}{n i j:Nat}{p:Addr×Addr}{o:Obj}{v u:V}{f:V->V->Option Bool}{b r:Bool}
theorem bN (e:h.get? a=some (listOf cs n)):h.IsList a cs:=⟨_,e,rfl,n,rfl⟩
theorem f9 (x:IsTup h a cs):h.IsTuple a cs:=x
theorem zT (I:Inv X ρ σ h)(hp:p∈ρ):bp (fun o=>h.get? p.1=some o) (fun o=>(o.cls=.type "list" \/o.cls=.type "dict" \/∃c,o.cls=.ref c)):=by
 obtain⟨i,o,_,_,r⟩:=I.atρ hp;cases o with
 | list vs=>obtain⟨e,_,cs,n,h1,h2⟩:=r;exact⟨_,e▸h1,.inl rfl⟩
 | idict kvs=>obtain⟨e,ks,⟨o,es,h1,h2,_⟩,h3,h4⟩:=r;exact⟨_,e▸h1,.inr (.inl h2.1)⟩
 | tdict kvs=>obtain⟨e,ks,⟨o,es,ep,h1,h2,_⟩,h7,h8⟩:=r;exact⟨_,e▸h1,.inr (.inl h2.1)⟩
 | inst c fs=>obtain⟨h1,es,n,h2,h3⟩:=r;exact⟨_,h1,.inr (.inr ⟨_,rfl⟩)⟩
theorem OR.hd {o:O}(r:OR X ρ h o p):(p.1=p.2/\bp (fun b=>h.get? p.1=some b) (fun b=>∀c,b.cls≠ .ref c))\/∃c,h.get? p.1=some (instObj c p.2):=by
 cases o with
 | list vs=>obtain⟨e,_,cs,n,h1,h2⟩:=r;exact .inl ⟨e,_,e▸h1,fun c z=>by cases z⟩
 | idict kvs=>obtain⟨e,ks,⟨o,es,h1,h2,_⟩,h3,h4⟩:=r;exact .inl ⟨e,_,e▸h1,fun c z=>nomatch h2.1.symm.trans z⟩
 | tdict kvs=>obtain⟨e,ks,⟨o,es,ep,h1,h2,_⟩,h7,h8⟩:=r;exact .inl ⟨e,_,e▸h1,fun c z=>nomatch h2.1.symm.trans z⟩
 | inst c fs=>exact .inr ⟨_,r.1⟩
theorem xH (I:Inv X ρ σ h){q:Addr×Addr}(hi:ρ[i]?=some p)(hj:ρ[j]?=some q)(e:p.1=q.1):i=j:=by
 have key:p.2=q.2:=by
  obtain⟨_,o,_,_,r⟩:=I.atρ (List.mem_of_getElem? hi);obtain⟨_,o',_,_,r'⟩:=I.atρ (List.mem_of_getElem? hj);rcases r.hd with⟨a1,b1,a2,a3⟩ | ⟨c,a2⟩<;>rcases r'.hd with⟨d1,b2,d2,d3⟩ | ⟨c',d2⟩
  ·rw[<-a1,<-d1,e]
  ·rw[e,d2] at a2;exact absurd (ag Obj.cls (sj a2)).symm (a3 c')
  ·rw[<-e,a2] at d2;exact absurd (ag Obj.cls (sj d2)).symm (d3 c)
  ·rw[<-e,a2] at d2;injection d2 with d2;injection d2 with _ d2;injection d2
 exact Classical.byContradiction fun hij=>iA I.nd hi hj hij key
noncomputable def V.tg:V->Nat
 | .none=>0 | .bool _=>1 | .int _=>2 | .bytes _=>3 | .tup _=>4 | .flist _=>5 | .range _=>6 | .ref _=>7
open Classical in
noncomputable def Cw (ρ:dM) (h:Heap):Value->Nat
 | .none=>0 | .bool _=>1 | .int _ _=>2 | .bytes _ _=>3
 | .ref a=>if cD (fun(i:Nat) (p:Addr×Addr)=>ρ[i]?=some p) (fun(i:Nat) (p:Addr×Addr)=>p.1=a) then 7 else match h.get? a with
   | some o=>if o.cls=.type "tuple" then 4 else if o.cls=.type "list" then 5 else 6
   | .none=>0
 | _=>0
open Classical in
theorem Cw.of (hn:¬cD (fun(i:Nat) (p:Addr×Addr)=>ρ[i]?=some p) (fun(i:Nat) (p:Addr×Addr)=>p.1=a))(e:h.get? a=some o):Cw ρ h (.ref a)=if o.cls=.type "tuple" then 4 else if o.cls=.type "list" then 5 else 6:=by refine(au hn).trans ?_;rw[e]
theorem uo (I:Inv X ρ σ h)(e:h.get? a=some o)(hc:o.cls≠ .type "list")(hd:o.cls≠ .type "dict")(hr:∀c,o.cls≠ .ref c):¬cD (fun(i:Nat) (p:Addr×Addr)=>ρ[i]?=some p) (fun(i:Nat) (p:Addr×Addr)=>p.1=a):=by
 rintro⟨i,p,hi,rfl⟩
 obtain⟨o',ho',hc'⟩:=zT I (List.mem_of_getElem? hi);cases sj (e.symm.trans ho');exact hc'.elim hc fun x=>x.elim hd fun⟨c,x⟩=>hr c x
theorem VR.tg (I:Inv X ρ σ h)(r:VR X ρ h v c):Cw ρ h c=v.tg:=by
 cases r with
 | tup ht hs=>
   obtain⟨o,ho,hc,n,hd⟩:=ht;have ne:∀ {x:Value},Value.type "tuple" ≠x->o.cls≠x:=fun k z=>k (hc.symm.trans z);exact(Cw.of (uo I ho (ne (by decide)) (ne (by decide)) fun c=>ne nofun) ho).trans (ap hc)
 | flist hl hs=>
   obtain⟨o,ho,hc,n,hd⟩:=hl;refine(Cw.of (fun⟨i,p,hi,e⟩=> ?_) (I.base _ _ ho)).trans ((au fun z=>absurd (hc.symm.trans z) (by decide)).trans (ap hc))
   subst e;obtain⟨_,_,_,_,r⟩:=I.atρ (List.mem_of_getElem? hi);rcases r.hd with⟨e,_⟩ | ⟨c,e⟩
   ·have:=I.nbn p (List.mem_of_getElem? hi);rw[<-e,ho] at this;cases this
   ·cases sj ((I.base _ _ ho).symm.trans e);cases hc
 | range hr=>exact(Cw.of (uo I hr (fun z=>absurd (show Value.type "range" =Value.type "list" from z) (by decide)) (fun z=>absurd (show Value.type "range" =Value.type "dict" from z) (by decide)) nofun) hr).trans rfl
 | ref hi=>exact ap ⟨_,_,hi,rfl⟩
 | _=>rfl
theorem VR.tg2 (I:Inv X ρ σ h)(r:VR X ρ h v c)(q:VR X ρ h u c):v.tg=u.tg:=(r.tg I).symm.trans (q.tg I)
theorem wP {xs ys:Array Value}{P:Obj->Prop}(e1:h.get? a=some o)(d1:∃n,o.data=.seq xs n)(x:∃o,h.get? a=some o/\P o/\∃n,o.data=.seq ys n):xs=ys:=by obtain⟨o',e2,_,n,d2⟩:=x;obtain⟨m,d1⟩:=d1;cases sj (e1.symm.trans e2);rw[d1] at d2;injection d2
theorem VR.tup_inv (r:VR X ρ h (.tup vs) c):dU (fun a cs=>c=.ref a) (fun a cs=>IsTup h a cs) (fun a cs=>cp X ρ h vs cs.toList):=by cases r with | tup h1 h2=>exact⟨_,_,rfl,h1,h2⟩
theorem VR.flist_inv (r:VR X ρ h (.flist vs) c):dU (fun a cs=>c=.ref a) (fun a cs=>X.B.IsList a cs) (fun a cs=>cp X ρ h vs cs.toList):=by cases r with | flist h1 h2=>exact⟨_,_,rfl,h1,h2⟩
theorem VR.ref_inv (r:VR X ρ h (.ref i) c):bp (fun p=>ρ[i]?=some p) (fun p=>c=.ref p.1):=by cases r with | ref h1=>exact⟨_,h1,rfl⟩
theorem VR.int_inv {i:Int}(r:VR X ρ h (.int i) c):∃t,c=.int i t:=by cases r with | int i t=>exact⟨_,rfl⟩
theorem VR.bool_inv (r:VR X ρ h (.bool b) c):c=.bool b:=by cases r with | bool b=>rfl
theorem VR.none_inv (r:VR X ρ h .none c):c=.none:=by cases r with | none=>rfl
theorem VR.bytes_inv {b:List UInt8}(r:VR X ρ h (.bytes b) c):∃t,c=.bytes b.toArray t:=by cases r with | bytes b t=>exact⟨_,rfl⟩
theorem VR.range_inv {n:Int}(r:VR X ρ h (.range n) c):s_ (fun a t u v=>c=.ref a) (fun a t u v=>IsRange h a 0 n 1 t u v):=by cases r with | range h1=>exact⟨_,_,_,_,rfl,h1⟩
theorem Aj {a b:Nat}{p:Prop}(k:a=b)(h:Nat.beq a b=false):p:=absurd k (Nat.ne_of_beq_eq_false h)
inductive Fa (i:Int):Value->Prop | mk (t:Tok):Fa i (.int i t)
theorem VR.isI {i:Int}(r:VR X ρ h (.int i) c):Fa i c:=by obtain⟨t,rfl⟩:=r.int_inv;exact .mk t
set_option tactic.hygienic true in
theorem VR.inj (I:Inv X ρ σ h)(r:VR X ρ h v c):VR X ρ h u c->v=u:=by
 induction r using VR.rec (motive_2:=fun vs cs y=>∀us,cp X ρ h us cs->vs=us) generalizing u with
 | none=>intro q;cases u with | none=>rfl | _=>exact Aj (VR.none.tg2 I q) rfl
 | bool b=>intro q;cases u with | bool x=>cases q.bool_inv;rfl | _=>exact Aj ((VR.bool b).tg2 I q) rfl
 | int i t=>intro q;cases u with | int x=>obtain⟨_,e⟩:=q.int_inv;cases e;rfl | _=>exact Aj ((VR.int i t).tg2 I q) rfl
 | bytes b t=>
   intro q;cases u with
   | bytes x=>obtain⟨_,e⟩:=q.bytes_inv;injection e with h1 _;injection h1 with h1;rw[h1]
   | _=>exact Aj ((VR.bytes b t).tg2 I q) rfl
 | tup ht hs ih=>
   intro q;have k:=(VR.tup ht hs).tg2 I q;cases u with
   | tup us=>
     obtain⟨_,_,e,ht',hs'⟩:=q.tup_inv;cases e;obtain⟨o,ho,_,hd⟩:=ht;cases wP ho hd ht';exact ag V.tup (ih _ hs')
   | _=>exact Aj k rfl
 | flist ht hs ih=>
   intro q;have k:=(VR.flist ht hs).tg2 I q;cases u with
   | flist us=>
     obtain⟨_,_,e,ht',hs'⟩:=q.flist_inv;cases e;obtain⟨o,ho,_,hd⟩:=ht;cases wP ho hd ht';exact ag V.flist (ih _ hs')
   | _=>exact Aj k rfl
 | range hr=>
   intro q;have k:=(VR.range hr).tg2 I q;cases u with
   | range m=>
     obtain⟨_,_,_,_,e,hr'⟩:=q.range_inv;cases e;cases sj (hr.symm.trans hr');rfl
   | _=>exact Aj k rfl
 | @ref i p hi=>
   intro q;have k:=(VR.ref hi).tg2 I q;cases u with
   | ref j=>
     obtain⟨p',hj,e⟩:=q.ref_inv;rw[xH I hi hj (Value.ref.inj e)]
   | _=>exact Aj k rfl
 | nil=>rename_i q;cases q;rfl
 | cons _ _ ih1 ih2=>rename_i q;cases q with | cons a b=>rw[ih1 a,ih2 _ b]
theorem po {a b:V}{ys:List V}(h:fm f (a::xs) (b::ys)=some r):dU (fun x y=>f a b=some x) (fun x y=>fm f xs ys=some y) (fun x y=>r=(x&&y)):=by obtain⟨x,h1,h⟩:=EV h;obtain⟨y,h2,h⟩:=EV h;exact⟨x,y,h1,h2,(sj h).symm⟩
theorem tY:∀ {ys:List V} {r:Bool},fm f xs ys=some r->xs.length=ys.length->
 bp (fun(e:Nat->Bool)=>(∀j x y,xs[j]?=some x->ys[j]?=some y->f x y=some (e j))) (fun(e:Nat->Bool)=>r=(List.range xs.length).all e):=by
 induction xs with
 | nil=>
   intro ys r h hl;cases ys with
   | nil=>exact⟨fun z=>true,fun j x y h=>nn h,(sj h).symm⟩
   | cons=>cases hl
 | cons a xs ih=>
   intro ys r h hl;cases ys with
   | nil=>cases hl
   | cons b ys=>
     obtain⟨x,y,hx,hy,rfl⟩:=po h;obtain⟨e,h1,h2⟩:=ih hy (Nat.succ.inj hl);refine⟨fun j=>j.casesOn x e,fun j u v hu hv=> ?_,?_⟩
     ·cases j with
      | zero=>cases sj hu;cases sj hv;exact hx
      | succ j=>exact h1 j u v hu hv
     ·rw[List.length_cons,List.range_succ_eq_map,List.all_cons,List.all_map,h2];rfl
theorem iK (hf:∀v b,f v v=some b->b=true):∀ {r:Bool},fm f xs xs=some r->r=true:=by
 induction xs with
 | nil=>exact fun h=>(sj h).symm
 | cons a xs ih=>
   intro r h;obtain⟨x,y,hx,hy,rfl⟩:=po h;rw[hf _ _ hx,ih hy];rfl
theorem BQ {α:Type} [BEq α] [ReflBEq α] {x:α}(h:some (x==x)=some b):b=true:=(sj h).symm.trans (beq_self_eq_true x)
theorem sr {x y:Nat}(h:f6 σ (n+1) (.ref x) (.ref y)=some r):dU (fun xs ys=>σ[x]?=some (.list xs)) (fun xs ys=>σ[y]?=some (.list ys)) (fun xs ys=>(if xs.length=ys.length then fm (f6 σ n) xs ys else some false)=some r):=
 Bg h
theorem sq (n:Nat):∀ (v:V) (b:Bool),f6 σ n v v=some b->b=true:=by
 induction n with
 | zero=>exact fun y y h=>nn h
 | succ n ih=>
   intro v b h;cases v with
   | tup xs=>exact iK ih (oi h).2
   | ref x=>
     obtain⟨xs,ys,h1,h2,h⟩:=sr h;cases sj (h1.symm.trans h2);rw[ap rfl] at h;exact iK ih h
   | none=>exact(sj h).symm
   | bool x=>exact BQ h
   | int x=>exact BQ h
   | bytes x=>exact BQ h
   | _=>exact nn h
theorem RcAt.bytes (b c:Array UInt8)(t u:Tok):SeqAt.RcAt A s (.bytes b t) (.bytes c u) (b.toList==c.toList):=fun prog w E Q h=>
 eq_bytes (prog:=prog) (w:=w) h
theorem RcNeAt.bytes (b c:Array UInt8)(t u:Tok):SeqAt.RcNeAt A s (.bytes b t) (.bytes c u) (!(b.toList==c.toList)):=fun prog w E Q h=>
 ne_bytes (prog:=prog) (w:=w) h
theorem EqAt.bytes (b c:Array UInt8)(t u:Tok):SeqAt.EqAt A s (.bytes b t) (.bytes c u) (b.toList==c.toList):=fun prog w E Q h=>
 eqBool_bytes (prog:=prog) (w:=w) (by rw[show decide (b.toList=c.toList)=(b.toList==c.toList) by rw[Bool.eq_iff_iff];simp];exact h)
theorem VR.list_at (I:Inv X ρ σ h)(r:VR X ρ h (.ref i) c)(e:σ[i]?=some (.list vs)):
 AN (fun p cs n=>ρ[i]?=some p) (fun p cs n=>c=.ref p.2) (fun p cs n=>p.1=p.2) (fun p cs n=>h.get? p.2=some (listOf cs n)) (fun p cs n=>cp X ρ h vs cs.toList) (fun p cs n=>vs.length≤1000000):=by
 obtain⟨p,hp,rfl⟩:=r.ref_inv;obtain⟨e1,hz,cs,n,h1,h2⟩:=I.obj i _ p e hp;exact⟨p,cs,n,hp,by rw[e1],e1,h1,h2,hz⟩
theorem Room.next (h:A.units+(n+1)<cLine):A.in1.units+n<cLine:=by show A.units+1+n<cLine;lia
structure FA (A:Around) (s:Shared) (a b:Value) (r:Bool):Prop where
 e:SeqAt.EqAt A s a b r
 rc:SeqAt.RcAt A s a b r
 ne:SeqAt.RcNeAt A s a b (!r)
theorem cp.size (r:cp X ρ h vs cs.toList):vs.length=cs.size:=r.length.trans Array.length_toList
theorem cp.at (r:cp X ρ h vs cs.toList)(hj:j<cs.size):bp (fun v=>vs[j]?=some v) (fun v=>VR X ρ h v cs[j]):=by
 have hl:=r.size;have hv:vs[j]?=some (vs[j]'(by lia)):=by simp
 obtain⟨c,h1,h2⟩:=r.get hv;refine⟨_,hv,?_⟩;rw[Array.getElem?_toList,Array.getElem?_eq_getElem hj] at h1;cases h1;exact h2
theorem tv (I:Inv X ρ σ s.heap):∀ (n:Nat) (A:Around) (a b:V) (ca cb:Value) (r:Bool),f6 σ n a b=some r->VR X ρ s.heap a ca->VR X ρ s.heap b cb->
 A.units+n<cLine->FA A s ca cb r:=by
 intro n
 induction n with
 | zero=>exact fun w w w w w w h=>nn h
 | succ n ih=>
   intro A a b ca cb r h ra rb hu;have hu0:A.units<cLine:=Nat.lt_of_le_of_lt (Nat.le_add_right _ _) hu
   have elems:∀ (xs ys:List V) (cs ds:Array Value) (q:Bool),fm (f6 σ n) xs ys=some q->xs.length=ys.length->cp X ρ s.heap xs cs.toList->cp X ρ s.heap ys ds.toList->
    cs.size=ds.size/\bp (fun(e:Nat->Bool)=>(∀j (h1:j<cs.size) (h2:j<ds.size),SeqAt.EqAt A.in1 s cs[j] ds[j] (e j))) (fun(e:Nat->Bool)=>q=(List.range cs.size).all e):=by
    intro xs ys cs ds q hq hl r1 r2;obtain⟨e,he,hr⟩:=tY hq hl;have l1:=r1.size;have l2:=r2.size;refine⟨l1.symm.trans (hl.trans l2),e,fun j h1 h2=> ?_,l1▸hr⟩;obtain⟨x,hx,vx⟩:=r1.at h1;obtain⟨y,hy,vy⟩:=r2.at h2;exact(ih A.in1 x y _ _ _ (he j x y hx hy) vx vy (Room.next hu)).e
   cases a with
   | none=>
     cases b with
     | none=>rw[ra.none_inv,rb.none_inv];cases sj h;exact⟨SeqAt.EqAt.same _,SeqAt.RcAt.none_none,SeqAt.RcNeAt.none_none⟩
     | _=>exact nn h
   | bool x=>
     cases b with
     | bool y=>rw[ra.bool_inv,rb.bool_inv];cases sj h;exact⟨SeqAt.EqAt.bool_bool _ _,SeqAt.RcAt.bool_bool _ _,SeqAt.RcNeAt.bool_bool _ _⟩
     | _=>exact nn h
   | int x=>
     cases b with
     | int y=>
       obtain⟨t,rfl⟩:=ra.int_inv;obtain⟨u,rfl⟩:=rb.int_inv;cases sj h;exact⟨SeqAt.EqAt.int_int _ _ _ _,SeqAt.RcAt.int_int _ _ _ _,SeqAt.RcNeAt.int_int _ _ _ _⟩
     | _=>exact nn h
   | bytes x=>
     cases b with
     | bytes y=>
       obtain⟨t,rfl⟩:=ra.bytes_inv;obtain⟨u,rfl⟩:=rb.bytes_inv;cases sj h;exact⟨EqAt.bytes x.toArray _ _ _,RcAt.bytes x.toArray _ _ _,RcNeAt.bytes x.toArray _ _ _⟩
     | _=>exact nn h
   | tup xs=>
     cases b with
     | tup ys=>
       obtain⟨hl,h⟩:=oi h;obtain⟨la,cs,rfl,t1,r1⟩:=ra.tup_inv;obtain⟨lb,ds,rfl,t2,r2⟩:=rb.tup_inv;obtain⟨hsz,e,he,hr⟩:=elems xs ys cs ds r h hl r1 r2;have hv:((List.range (min cs.size ds.size)).all e&&cs.size==ds.size)=r:=by rw[<-hsz,Nat.min_self,hr,beq_self_eq_true,Bool.and_true]
       have rc:=hv▸SeqAt.RcAt.tuples (f9 t1) (f9 t2) hu0 he;have ne:=hv▸SeqAt.RcNeAt.tuples (f9 t1) (f9 t2) hu0 he
       by_cases hab:la=lb
       ·subst hab
        cases VR.inj I ra rb;cases iK (sq n) h;exact⟨SeqAt.EqAt.same _,rc,ne⟩
       ·exact⟨SeqAt.EqAt.of_refs hab rc,rc,ne⟩
     | _=>exact nn h
   | ref x=>
     cases b with
     | ref y=>
       obtain⟨xs,ys,ex,ey,h⟩:=sr h;obtain⟨p,cs,n1,hp,rfl,_,h1,r1,_⟩:=ra.list_at I ex;obtain⟨q,ds,n2,hq,rfl,_,h2,r2,_⟩:=rb.list_at I ey
       by_cases hl:xs.length=ys.length
       ·rw[ap hl] at h
        obtain⟨hsz,e,he,hr⟩:=elems xs ys cs ds r h hl r1 r2;have rc:=hr▸SeqAt.RcAt.lists (bN h1) (bN h2) hsz hu0 he;have ne:=hr▸SeqAt.RcNeAt.lists (bN h1) (bN h2) hsz hu0 he
        by_cases hab:p.2=q.2
        ·cases Classical.byContradiction fun hxy=>iA I.nd hp hq hxy hab
         cases sj (ex.symm.trans ey);cases iK (sq n) h;rw[hab] at rc ne⊢;exact⟨SeqAt.EqAt.same _,rc,ne⟩
        ·exact⟨SeqAt.EqAt.of_refs hab rc,rc,ne⟩
       ·rw[au hl] at h
        cases sj h;have hne:cs.size≠ds.size:=fun z=>hl (r1.size.trans (z.trans r2.size.symm));have hsz:(cs.size != ds.size)=true:=bne_iff_ne.mpr hne;have rc:=SeqAt.RcAt.lists_lengths (bN h1) (bN h2) hsz hu0;have ne:=SeqAt.RcNeAt.lists_lengths (bN h1) (bN h2) hsz hu0
        have hab:p.2≠q.2:=fun z=>by rw[z,h2] at h1;injection h1 with h1;injection h1 with _ _ h1;injection h1 with h1;exact hne (ag Array.size h1).symm
        exact⟨SeqAt.EqAt.of_refs hab rc,rc,ne⟩
     | _=>exact nn h
   | _=>exact nn h
end
section
open PySem PySem.W PyProof.Rows
variable {aT:dM}{aQ:H}{aR:Shared}
structure Go (X:Cx) (E:List Addr) (ρ:dM) (s:Shared) (ρ':dM) (σ':H) (s':Shared):Prop where
 inv:Inv X ρ' σ' s'.heap
 ext:dY E ρ ρ' s.heap s'.heap
 gens:s'.gens=s.gens
 os:s'.os=s.os
theorem Go.toks {X:Cx}{E:List Addr}{ρ:dM}{σ:H}{s:Shared}(I:Inv X ρ σ s.heap)(k:Nat):Go X E ρ s ρ σ {s with toks:=k}:=⟨I,dY.refl _ _ _,rfl,rfl⟩
theorem Go.refl {X:Cx}{E:List Addr}{ρ:dM}{σ:H}{s:Shared}(I:Inv X ρ σ s.heap):Go X E ρ s ρ σ s:=⟨I,dY.refl _ _ _,rfl,rfl⟩
theorem Go.trans {X:Cx}{E:List Addr}{ρ dA:dM}{σ₂:H}{s dw:Shared}(x:Go X E ρ s aT aQ aR)(y:Go X E aT aR dA σ₂ dw):Go X E ρ s dA σ₂ dw:=
 ⟨y.inv,x.ext.trans y.ext,y.gens.trans x.gens,y.os.trans x.os⟩
theorem Go.mono {X:Cx}{E E':List Addr}{ρ:dM}{s:Shared}(x:Go X E ρ s aT aQ aR)(h:∀a∈E,a∈E'):Go X E' ρ s aT aQ aR:=⟨x.inv,x.ext.mono h,x.gens,x.os⟩
theorem Go.of_nil {X:Cx}{E:List Addr}{ρ:dM}{s:Shared}(x:Go X [] ρ s aT aQ aR):Go X E ρ s aT aQ aR:=x.mono fun a h=>nomatch h
theorem Go.grow {X:Cx}{E:List Addr}{ρ:dM}{σ:H}{s s':Shared}(I:Inv X ρ σ s.heap)(hk:∀a o,s.heap.get? a=some o->s'.heap.get? a=some o)
 (hg:s'.gens=s.gens:=by rfl) (ho:s'.os=s.os:=by rfl):Go X E ρ s ρ σ s':=⟨I.grew hk,dY.grew E hk,hg,ho⟩
theorem bT {h:Heap}{o:Obj}:∀a o',h.get? a=some o'->(h.push o).get? a=some o':=fun a o' e=>Heap.get?_push_of_some o e
section
variable {c cx:Value}{v x:V}{b:Bool}{vs:List V}{is:List Int}
variable {X:Cx}{ρ:dM}{σ:H}{s:Shared}{A:Around}{E:Value->Shared->Prop}
theorem dH {Q:Bool->Shared->Prop}(I:Inv X ρ σ s.heap)(r:VR X ρ s.heap v c)(e:truthy σ v=some b)(h:∀s',Go X [] ρ s ρ σ s'->Q b s'):
 wpAny (model X.prog X.w) A (PySem.truthy c) Q E s:=by
 cases v with
 | bool x=>cases sj e;cases r.bool_inv;exact wpAny_truthy_bool (h _ (Go.refl I))
 | ref a=>
   obtain⟨vs,q,e⟩:=tz e;obtain⟨p,cs,n,hp,rfl,_,h1,r1,hz⟩:=r.list_at I q;refine wpAny_truthy_list (bN h1) (by have:=r1.size;lia) ?_
   have:cs.isEmpty=vs.isEmpty:=by rw[Bool.eq_iff_iff,Array.isEmpty_iff_size_eq_zero,List.isEmpty_iff_length_eq_zero,r1.size]
   rw[this,sj e];exact h _ (Go.toks I _)
 | _=>exact nn e
theorem yd {A:Around}(I:Inv X ρ σ s.heap)(rx:VR X ρ s.heap x cx)(hu:A.units+5<cLine):∀ {vs:List V} {cs:List Value} {b:Bool},cp X ρ s.heap vs cs->kA (f6 σ 4) x vs=some b->
 bp (fun(e:Value->Bool)=>(∀y∈cs,SeqAt.EqAt A.in1 s y cx (e y))) (fun(e:Value->Bool)=>cs.any e=b):=by
 classical
 let e:Value->Bool:=fun y=>decide (bp (fun v=>VR X ρ s.heap v y) (fun v=>f6 σ 4 v x=some true))
 have ec:∀ {v:V} {c:Value} {b:Bool},VR X ρ s.heap v c->f6 σ 4 v x=some b->e c=b:=fun{v c b} rv h1=>by
  cases b with
  | true=>exact aW ⟨v,rv,h1⟩
  | false=>exact aJ fun z=>by obtain⟨u,hu',hq⟩:=z;rw[VR.inj I hu' rv,h1] at hq;cases hq
 intro vs cs b r h
 obtain⟨k1,k2⟩:=cp.ind (M:=fun vs cs=>∀b,kA (f6 σ 4) x vs=some b->(∀y∈cs,SeqAt.EqAt A.in1 s y cx (e y))/\cs.any e=b) (fun b h=>⟨List.forall_mem_nil _,sj h⟩) (fun{v c vs cs} rv w ih b h=>by obtain⟨b1,b2,h1,h2,h⟩:=Eb h;obtain⟨g1,g2⟩:=ih b2 h2;have he:=ec rv h1;exact⟨List.forall_mem_cons.mpr ⟨he▸(tv I 4 A.in1 v x _ _ _ h1 rv rx (Nat.lt_of_le_of_lt (Nat.le_of_eq (Nat.succ_add _ _)) hu)).e,g1⟩,by rw[List.any_cons,he,g2];exact sj h⟩) r b h
 exact⟨e,k1,k2⟩
theorem fq (i:Int)(t:Tok):Value.isInt i (.int i t)=true:=by simp[Value.isInt]
theorem Bk {i:Int}(r:VR X ρ s.heap v c)(e:v.num=some i):sy i c=true:=by
 cases v with
 | bool b=>cases r.bool_inv;exact aW (sj e)
 | int j=>cases r.isI;exact aW (sj e)
 | _=>exact nn e
theorem xj {cs:List Value}(r:cp X ρ s.heap vs cs)(e:V.nums vs=some is):ItemsAre (fz X.prog X.w) is cs:=
 cp.ind (M:=fun vs cs=>∀is,V.nums vs=some is->ItemsAre (fz X.prog X.w) is cs) (fun is e=>by cases sj e;exact .nil) (fun a y ih is e=>by obtain⟨i,js,h1,h2,e⟩:=D6 e;cases sj e;exact .cons (Bk a h1) (ih js h2)) r is e
theorem qZ (r:VR X ρ s.heap (.tup vs) c)(e:V.nums vs=some is):bp (fun a=>c=.ref a) (fun a=>(tupleKind (fz X.prog X.w)).is s.heap is a):=by obtain⟨a,cs,rfl,⟨o,ho,hc,n,hd⟩,hs⟩:=r.tup_inv;exact⟨a,rfl,o,cs,n,ho,hc,hd,xj hs e⟩
theorem jQ {α:Type}(p:α->Bool):∀l:List α,(l.find? p).isSome=l.any p
 | []=>rfl
 | x::l=>by
   rw[List.find?_cons,List.any_cons];cases h:p x with
   | true=>rfl
   | false=>simp[jQ p l]
theorem ph {K α β:Type} [DecidableEq K] {xs:List (K×α)}{ys:List (K×β)}(e:xs.map (·.1)=ys.map (·.1))(k:K):(xs.any fun p=>decide (p.1=k))=ys.any fun p=>decide (p.1=k):=by
 have h1:(xs.any fun p=>decide (p.1=k))=(xs.map (·.1)).any fun y=>decide (y=k):=by rw[List.any_map];rfl
 have h2:(ys.any fun p=>decide (p.1=k))=(ys.map (·.1)).any fun y=>decide (y=k):=by rw[List.any_map];rfl
 rw[h1,h2,e]
theorem qt {K:Type} [DecidableEq K] {ks:List (K×Addr×Value)}{kvs:List (K×V)}(e:ks.map (·.1)=kvs.map (·.1))(k:K):(atKey ks k).isSome=kvs.any fun p=>decide (p.1=k):=by rw[<-ph e,<-jQ];simp[atKey]
theorem mA {K:Type} [DecidableEq K] {ks:List (K×Value)}{kvs:List (K×V)}(e:ks.map (·.1)=kvs.map (·.1))(k:K):(valueAt ks k).isSome=kvs.any fun p=>decide (p.1=k):=by rw[<-ph e,<-jQ];simp[valueAt]
theorem gr (I:Inv X ρ σ s.heap){p:Addr×Addr}(hp:p∈ρ):(p.2==sysModules)=false:=beq_eq_false_iff_ne.mpr (I.sys p hp)
theorem uJ {d:Addr}{n:Nat}(hd:s.heap.DictAt (intKind X.prog X.w) d [] n):s.heap.DictOfH (tupleKind (fz X.prog X.w)) d []:=by
 obtain⟨o,es,g1,g2,g3,g4,g5,g6⟩:=hd;have hes:es.toList=[]:=by cases hq:es.toList with | nil=>rfl | cons y ys=>rw[hq] at g5;cases g5
 exact⟨o,es,_,g1,g2,g3,by rw[hes];rfl,⟨fun x hx=>(List.not_mem_nil hx).elim,List.nodup_nil⟩⟩
theorem CK {c:V}{cc:Value}{Q:Value->Shared->Prop}(I:Inv X ρ σ s.heap)(hu:A.units+9<cLine)(rx:VR X ρ s.heap x cx)(rc:VR X ρ s.heap c cc)(e:jm σ x c=some b):
 ((∀s',Go X [] ρ s ρ σ s'->Q (.bool b) s')->wpAny (model X.prog X.w) A (compareOp .In cx cc) Q E s)/\
 ((∀s',Go X [] ρ s ρ σ s'->Q (.bool (!b)) s')->wpAny (model X.prog X.w) A (compareOp .NotIn cx cc) Q E s):=by
 cases c with
 | tup vs=>
   obtain⟨a,cs,rfl,t1,r1⟩:=rc.tup_inv;obtain⟨f,hf,hb⟩:=yd (A:=A) I rx (Nat.lt_of_le_of_lt (Nat.add_le_add_left (by decide) _) hu) r1 e
   rw[Array.any_toList] at hb;subst hb;have hf':∀y,y∈cs->SeqAt.EqAt A.in1 s y cx (f y):=fun y hy=>hf y (Array.mem_toList_iff.mpr hy);exact⟨fun h=>SeqAt.in_tupleAt f (f9 t1) hf' (h _ (Go.refl I)),fun h=>SeqAt.notIn_tupleAt f (f9 t1) hf' (h _ (Go.refl I))⟩
 | ref a=>
   rcases C2 e with⟨vs,q,e⟩ | ⟨kvs,q,e⟩ | ⟨kvs,q,e⟩
   ·obtain⟨p,cs,n,hp,rfl,_,h1,r1,hz⟩:=rc.list_at I q
    obtain⟨f,hf,hb⟩:=yd (A:=A) I rx (Nat.lt_of_le_of_lt (Nat.add_le_add_left (by decide) _) hu) r1 e
    rw[Array.any_toList] at hb;subst hb;have hf':∀y,y∈cs->SeqAt.EqAt A.in1 s y cx (f y):=fun y hy=>hf y (Array.mem_toList_iff.mpr hy);exact⟨fun h=>SeqAt.in_listAt f (bN h1) hf' (h _ (Go.refl I)),fun h=>SeqAt.notIn_listAt f (bN h1) hf' (h _ (Go.refl I))⟩
   ·obtain⟨p,hp,rfl⟩:=rc.ref_inv
    obtain⟨e1,ks,hd,hk,hv⟩:=I.obj a _ p q hp;have hns:=gr I (List.mem_of_getElem? hp);rw[e1];rcases ES e with⟨i,rfl,e1'⟩ | ⟨vs,is,rfl,q1,e1'⟩
    ·cases rx.isI with | mk t=>
     have hv:=(mA hk i).trans (sj e1')
     exact⟨fun h=>wpAny_in_of (knd:=intKind X.prog X.w) (fq i t) hns hd.dictOf.mapOf (hv▸h _ (Go.toks I _)),
      fun h=>wpAny_notIn_of (knd:=intKind X.prog X.w) (fq i t) hns hd.dictOf.mapOf (hv▸h _ (Go.toks I _))⟩
    ·obtain⟨q2,e⟩:=oi e1'
     cases sj e;obtain⟨k,rfl,hkey⟩:=qZ rx q1;cases List.isEmpty_iff.mp q2;cases List.map_eq_nil_iff.mp hk;have hH:=uJ hd;have hroom:(tupleKind (fz X.prog X.w)).room A.in1:=tupleKind_room_in1 (Nat.lt_of_le_of_lt (Nat.add_le_add_left (by decide) _) hu)
     exact⟨fun h=>wpAny_in_heap hroom hkey hns hH (h _ (Go.toks I _)),fun h=>wpAny_notIn_heap hroom hkey hns hH (h _ (Go.toks I _))⟩
   ·obtain⟨p,hp,rfl⟩:=rc.ref_inv
    obtain⟨e1,ks,hd,hk,hv⟩:=I.obj a _ p q hp;have hns:=gr I (List.mem_of_getElem? hp);rw[e1];obtain⟨vs,is,rfl,q1,e1'⟩:=ER e;obtain⟨k,rfl,hkey⟩:=qZ rx q1;have hroom:(tupleKind (fz X.prog X.w)).room A.in1:=tupleKind_room_in1 (Nat.lt_of_le_of_lt (Nat.add_le_add_left (by decide) _) hu)
    have ha:=(qt hk is).trans (sj e1');exact⟨fun h=>wpAny_in_heap hroom hkey hns hd (ha▸h _ (Go.toks I _)),fun h=>wpAny_notIn_heap hroom hkey hns hd (ha▸h _ (Go.toks I _))⟩
 | _=>exact nn e
end
end
section
open PySem PySem.W PyProof.Rows
section
noncomputable def Ek:Cn->CmpOp
 | .eq=>.Eq | .ne=>.NotEq | .lt=>.Lt | .le=>.LtE | .gt=>.Gt | .ge=>.GtE | .isIn=>.In | .notIn=>.NotIn | .is_=>.Is | .isNot=>.IsNot
noncomputable def El:Co->Operator
 | .add=>.Add | .sub=>.Sub | .mul=>.Mult | .fdiv=>.FloorDiv | .mod=>.Mod | .pow=>.Pow | .band=>.BitAnd
section
variable {x y:V}{cx cy:Value}{b:Bool}
variable {X:Cx}{ρ:dM}{σ:H}{s:Shared}{A:Around}{E:Value->Shared->Prop}
theorem uA (e:Bs x y=some b)(rx:VR X ρ s.heap x cx)(ry:VR X ρ s.heap y cy):b=true/\((cx=.none/\cy=.none)\/bp (fun a=>cx=.ref a) (fun a=>cy=.ref a)):=by
 cases x with
 | none=>cases y with
   | none=>exact⟨(sj e).symm,.inl ⟨rx.none_inv,ry.none_inv⟩⟩
   | _=>exact nn e
 | ref a=>cases y with
   | ref b=>
     obtain⟨hab,e2⟩:=oi e;subst hab;obtain⟨p,hp,rfl⟩:=rx.ref_inv;obtain⟨q,hq,rfl⟩:=ry.ref_inv;cases sj (hp.symm.trans hq);exact⟨(sj e2).symm,.inr ⟨_,rfl,rfl⟩⟩
   | _=>exact nn e
 | _=>exact nn e
theorem kW {f:Int->Int->Bool}(rx:VR X ρ s.heap x cx)(ry:VR X ρ s.heap y cy)(e:vN f x y=some b){P:Bool->Value->Value->Prop}(k:∀i j t u,P (f i j) (.int i t) (.int j u)):P b cx cy:=by
 cases x with
 | int i=>cases y with
   | int j=>cases rx.isI;cases ry.isI;exact sj e▸k _ _ _ _
   | _=>exact nn e
 | _=>exact nn e
theorem pX {op:Cn}{Q:Value->Shared->Prop}(I:Inv X ρ σ s.heap)(hu:A.units+9<cLine)(rx:VR X ρ s.heap x cx)(ry:VR X ρ s.heap y cy)
 (e:i7 σ op x y=some b) (h:∀s',Go X [] ρ s ρ σ s'->Q (.bool b) s'):wpAny (model X.prog X.w) A (compareOp (Ek op) cx cy) Q E s:=by
 have hu8:A.units+8<cLine:=Nat.lt_of_le_of_lt (Nat.add_le_add_left (by decide) _) hu
 have h0:=h _ (Go.refl I);cases op with
 | eq=>exact(tv I 8 A x y cx cy b e rx ry hu8).rc X.prog X.w E Q h0
 | ne=>
   obtain⟨b',h1,rfl⟩:=om e;exact(tv I 8 A x y cx cy b' h1 rx ry hu8).ne X.prog X.w E Q h0
 | lt=>exact kW rx ry e (P:=fun b cx cy=>Q (.bool b) s->wpAny (model X.prog X.w) A (compareOp .Lt cx cy) Q E s) (fun z z z z=>PyProof.Rows.lt_int) h0
 | le=>exact kW rx ry e (P:=fun b cx cy=>Q (.bool b) s->wpAny (model X.prog X.w) A (compareOp .LtE cx cy) Q E s) (fun z z z z=>P.le_int) h0
 | gt=>exact kW rx ry e (P:=fun b cx cy=>Q (.bool b) s->wpAny (model X.prog X.w) A (compareOp .Gt cx cy) Q E s) (fun z z z z=>PyProof.Rows.gt_int) h0
 | ge=>exact kW rx ry e (P:=fun b cx cy=>Q (.bool b) s->wpAny (model X.prog X.w) A (compareOp .GtE cx cy) Q E s) (fun z z z z=>P.ge_int) h0
 | isIn=>exact(CK I hu rx ry e).1 h
 | notIn=>
   obtain⟨b',h1,rfl⟩:=om e;exact(CK I hu rx ry h1).2 h
 | is_=>
   obtain⟨rfl,⟨rfl,rfl⟩ | ⟨a,rfl,rfl⟩⟩:=uA e rx ry
   ·exact is_none h0
   ·exact wpAny_is_ref_self h0
 | isNot=>
   obtain⟨b',h1,rfl⟩:=om e;obtain⟨rfl,⟨rfl,rfl⟩ | ⟨a,rfl,rfl⟩⟩:=uA h1 rx ry
   ·exact isNot_none h0
   ·show wpAny _ _ (isSame _ _>>=fun r=>pure (Value.bool (!r))) _ _ _
    exact aq (wpAny_isSame_ref_self (aL h0))
end
section
variable {vs:List V}{cs:Array Value}{k:Nat}{v:V}{σ':H}{Q:Value->Shared->Prop}
variable {X:Cx}{ρ:dM}{σ:H}{s:Shared}{A:Around}{E:Value->Shared->Prop}
theorem kQ (I:Inv X ρ σ s.heap){n:Nat}{h':Heap}{a:Addr}(hz:vs.length≤1000000)(hk:∀b o,s.heap.get? b=some o->h'.get? b=some o)
 (ha:s.heap.objs.size≤a) (hg:h'.get? a=some (PySem.W.listOf cs n)) (r:cp X ρ s.heap vs cs.toList):
 Go X [] ρ s (ρ++[(a,a)]) (σ++[.list vs]) {s with heap:=h',toks:=k}/\VR X (ρ++[(a,a)]) h' (.ref σ.length) (.ref a):=by
 obtain⟨J,x⟩:=I.alloc (o:=.list vs) (p:=(a,a)) hk ha fun x=>⟨rfl,hz,cs,n,hg,r.ext x⟩;refine⟨⟨J,x,rfl,rfl⟩,?_⟩;have:(ρ++[(a,a)])[σ.length]?=some (a,a):=I.len▸List.getElem?_concat_length;exact VR.ref this
theorem jN (I:Inv X ρ σ s.heap)(e:dW σ vs=some (v,σ'))(r:cp X ρ s.heap vs cs.toList):
 Go X [] ρ s (ρ++[(s.heap.objs.size,s.heap.objs.size)]) σ' {s with heap:=s.heap.push {cls:=.type "list",data:=.seq cs},toks:=k}/\
  VR X (ρ++[(s.heap.objs.size,s.heap.objs.size)]) (s.heap.push {cls:=.type "list",data:=.seq cs}) v (.ref s.heap.objs.size):=by
 obtain⟨hz,e⟩:=oi e;cases sj e;exact kQ (h':=s.heap.push {cls:=.type "list",data:=.seq cs}) (n:=0) I hz bT (Nat.le_refl _) (Heap.get?_push_size _ rfl) r
theorem u_ {cs:List Value}(I:Inv X ρ σ s.heap)(e:dW σ vs=some (v,σ'))(r:cp X ρ s.heap vs cs)
 (h:∀ρ' s' c,Go X [] ρ s ρ' σ' s'->VR X ρ' s'.heap v c->Q c s'):wpAny (model X.prog X.w) A (newList cs) Q E s:=by
 have hz:=r.length▸(oi e).1;obtain⟨g,q⟩:=jN (cs:=cs.toArray) (k:=s.toks) I e r;exact wpAny_newObj_type (h _ _ _ g q) (Nat.le_trans (Nat.le_trans (Nat.le_of_eq List.size_toArray) hz) (by rw[sizeLine_eq];decide))
theorem te {cs:List Value}(I:Inv X ρ σ s.heap)(hz:cs.length≤1000000)(r:cp X ρ s.heap vs cs)
 (h:∀s' c,Go X [] ρ s ρ σ s'->VR X ρ s'.heap (.tup vs) c->Q c s'):wpAny (model X.prog X.w) A (newTuple cs) Q E s:=by
 have g:Go X [] ρ s ρ σ {s with heap:=s.heap.push {cls:=.type "tuple",data:=.seq cs.toArray}}:=Go.grow I bT;exact wpAny_newObj_type (h _ _ g (.tup (IsTup.new _ _) (r.ext g.ext))) (Nat.le_trans (Nat.le_trans (Nat.le_of_eq List.size_toArray) hz) (by rw[sizeLine_eq];decide))
end
end
end
section
open PySem PySem.W PyProof.Rows
section
variable {i a b j:Int}{Q:Value->Shared->Prop}{cs:Array Value}{v x y:V}{n k:Nat}{op:Co}{t:Tok}{xs:List V}{cx cy:Value}
variable {X:Cx}{ρ:dM}{σ:H}{s:Shared}{A:Around}{E:Value->Shared->Prop}
theorem xN (h:0<b):a.fmod b=a%b:=by rw[Int.fmod_eq_emod_of_nonneg _ (by lia)]
theorem xU (h:0<b):a.fdiv b=a/b:=by rw[Int.fdiv_eq_ediv_of_nonneg _ (by lia)]
theorem CI (I:Inv X ρ σ s.heap)(h:∀ρ' s' c,Go X [] ρ s ρ' σ s'->VR X ρ' s'.heap (.int i) c->Q c s'):Q (.int i s.toks) {s with toks:=s.toks+1}:=
 h _ _ _ (Go.toks I _) (.int i _)
theorem Bt {k:Int}{u:Tok}(e:intOp op i j=some k)(h:Q (.int k s.toks) {s with toks:=s.toks+1}):
 wpAny (model X.prog X.w) A (binaryOp (El op) (.int i t) (.int j u)) Q E s:=by
 cases op with
 | add=>cases sj e;exact PyProof.Rows.add_int h
 | sub=>cases sj e;exact PyProof.Rows.sub_int h
 | mul=>exact nn e
 | fdiv=>
   obtain⟨⟨h0,h1⟩,e⟩:=oi e;exact PyProof.Rows.floordiv_int (Int.ne_of_gt h0) (by rw[xU h0,sj e];exact h) (.inl (PyProof.noPylong_small (by omega)))
 | mod=>
   obtain⟨h0,e⟩:=oi e;exact PyProof.Rows.mod_int' (Int.ne_of_gt h0) (by rw[xN h0,sj e];exact h)
 | pow=>
   obtain⟨⟨rfl,rfl⟩,e⟩:=oi e;cases sj e;exact PyProof.Rows.pow_int_small (by decide) (by decide) (by decide) h
 | band=>
   obtain⟨⟨h0,h1⟩,e⟩:=oi e;have:Builtin.bitAnd i j=k:=by unfold Builtin.bitAnd;rw[aW h0,aW h1];exact sj e
   exact PyProof.Rows.and_int (this▸h)
theorem se {r:cp X ρ s.heap xs cs.toList}(hv:cs.isEmpty=true):xs=[]:=
 List.length_eq_zero_iff.mp (r.size.trans (Array.isEmpty_iff_size_eq_zero.mp hv))
theorem un {a:Addr}(t:IsTup s.heap a cs):mR (fun dd n sl=>s.heap.get? a=some {cls:=.type "tuple",dict:=dd,data:=.seq cs n,slots:=sl}):=by obtain⟨⟨cls,dd,data,sl⟩,ho,hc,n,hd⟩:=t;exact⟨dd,n,sl,ho.trans (by rw[show cls=_ from hc,show data=_ from hd])⟩
theorem yI {a b:Addr}{ds:Array Value}{ys:List V}(I:Inv X ρ σ s.heap)(t1:IsTup s.heap a cs)(t2:IsTup s.heap b ds)(r1:cp X ρ s.heap xs cs.toList)(r2:cp X ρ s.heap ys ds.toList)
 (hz:xs.length+ys.length≤1000000) (h:∀s' c,Go X [] ρ s ρ σ s'->VR X ρ s'.heap (.tup (xs++ys)) c->Q c s'):wpAny (model X.prog X.w) A (binaryOp .Add (.ref a) (.ref b)) Q E s:=by
 obtain⟨dd,n,sl,ho⟩:=un t1;obtain⟨dd2,n2,sl2,ho2⟩:=un t2
 have M:∀ {S:PySem.Spec},Meets (Builtin.«tuple.__add__» ⟨[.ref a,.ref b],[]⟩) S->S A (wants Q E) s->wpAny (model X.prog X.w) A (binaryOp .Add (.ref a) (.ref b)) Q E s:=
  concat_meets (T:= "tuple") (id:= "tuple.__add__") (s:=s) (a:=.ref a) (b:=.ref b) ⟨_,ho,rfl⟩ ⟨_,ho2,rfl⟩ noFill_tuple_add seq_tuple_add PySem.F.slot_tuple_add PySem.F.entry_tuple_add (PySem.F.args_tuple_add_2 _ _)
 by_cases hv:cs.isEmpty=true
 ·exact M (tuple_addW0 a b cs ds n n2 dd dd2 sl sl2 hv) ⟨ho,ho2,h _ _ (Go.refl I) (by rw[se (r:=r1) hv];exact .tup t2 r2)⟩
 ·by_cases hw:ds.isEmpty=true
  ·exact M (tuple_addW1 a b cs ds n n2 dd dd2 sl sl2 hv hw) ⟨ho,ho2,h _ _ (Go.refl I) (by rw[se (r:=r2) hw,List.append_nil];exact .tup t1 r1)⟩
  ·have g:Go X [] ρ s ρ σ {s with heap:=s.heap.push {cls:=.type "tuple",data:=.seq (cs++ds)}}:=Go.grow I bT
   exact M (tuple_addW2 a b cs ds n n2 dd dd2 sl sl2 hv hw (by rw[sizeLine_eq,<-r1.size,<-r2.size];exact Nat.le_trans hz (by decide))) ⟨ho,ho2,h _ _ g (.tup (IsTup.new _ _) (by rw[Array.toList_append];exact(r1.ext g.ext).append (r2.ext g.ext)))⟩
theorem vL {c:Value}(k:Nat):List.foldl (fun x1 x2=>x1++x2) #[] (List.replicate k (#[c]:Array Value))=(List.replicate k c).toArray:=by
 have:∀ (m:Nat) (acc:Array Value),List.foldl (fun x1 x2=>x1++x2) acc (List.replicate m #[c])=acc++(List.replicate m c).toArray:=by
  intro m
  induction m with
  | zero=>exact fun acc=>(Array.append_empty).symm
  | succ m ih=>intro acc;rw[List.replicate_succ,List.foldl_cons,ih,List.replicate_succ,<-Array.toList_inj,Array.toList_append,Array.toList_append,Array.toList_append,aH];rfl
 rw[this,Array.empty_append]
theorem CL {σ':H}(I:Inv X ρ σ s.heap)(rx:VR X ρ s.heap x cx)(ry:VR X ρ s.heap y cy)
 (e:jE σ op x y=some (v,σ')) (h:∀ρ' s' c,Go X [] ρ s ρ' σ' s'->VR X ρ' s'.heap v c->Q c s'):wpAny (model X.prog X.w) A (binaryOp (El op) cx cy) Q E s:=by
 cases x with
 | int i=>cases y with
   | int j=>
     obtain⟨k,hk,e⟩:=om e;cases e;cases rx.isI;cases ry.isI;exact Bt hk (CI I h)
   | _=>exact nn e
 | tup xs=>cases y with
   | tup ys=>cases op with
     | add=>
       obtain⟨hz,e⟩:=oi e;cases sj e;obtain⟨a,cs,rfl,t1,r1⟩:=rx.tup_inv;obtain⟨b,ds,rfl,t2,r2⟩:=ry.tup_inv;exact yI I t1 t2 r1 r2 hz (h _)
     | _=>exact nn e
   | _=>exact nn e
 | ref a=>cases y with
   | ref b=>cases op with
     | add=>
       obtain⟨xs,ys,q1,q2,e⟩:=Bg e;obtain⟨p,cs,n,hp,rfl,_,h1,r1,hz⟩:=rx.list_at I q1;obtain⟨q,ds,m,hq,rfl,_,h2,r2,hz2⟩:=ry.list_at I q2;obtain⟨g,q⟩:=jN (k:=s.toks) I e (cs:=cs++ds) (by rw[Array.toList_append];exact r1.append r2)
       exact concat_meets ⟨_,h1,rfl⟩ ⟨_,h2,rfl⟩ noFill_list_add seq_list_add PySem.F.slot_list_add PySem.F.entry_list_add (PySem.F.args_list_add_2 _ _)
        (list_addW p.2 _ cs ds n m _ _ _ _ (by rw[sizeLine_eq,<-r1.size,<-r2.size];exact Nat.le_trans (Nat.add_le_add hz hz2) (by decide))) ⟨h1,h2,h _ _ _ g q⟩
     | _=>exact nn e
   | int k=>cases op with
     | mul=>
       obtain⟨vs,q,e⟩:=tz e;obtain⟨p,cs,n,hp,rfl,_,h1,r1,hz⟩:=rx.list_at I q;cases ry.isI with | mk u=>
       obtain⟨cl⟩:=cs;cases vs with
       | nil=>exact nn e
       | cons v' vs=>cases vs with
         | cons=>exact nn e
         | nil=>
           obtain⟨c,_,hc,hv,r2⟩:=cp.cons_inv r1;cases r2.nil_inv;cases hc;obtain⟨hk,e⟩:=oi e;obtain⟨g,q⟩:=jN (k:=s.toks) I e (cs:=(List.replicate k.toNat c).toArray) (cp.replicate hv _)
           exact wpAny_binaryOp_repeat_ref (T:= "list") (U:= "int") (by decide) ⟨_,h1,rfl⟩ (fun s'=>typeIs_int s' k u) noFill_list_mul F.fills_int_mul F.slot_int_rmul repeat_list F.slot_int_index.lookup
            (call_meets F.slot_int_rmul (typeIs_int s k u) F.entry_int_rmul (F.args_int_rmul_2 _ _) (int___rmul___int_list k u p.2 #[c] n)
             ⟨h1,rfl,⟨_,h1,rfl⟩,call_meets F.slot_list_mul ⟨_,h1,rfl⟩ F.entry_list_mul (F.args_list_mul_2 _ _)
              (AutoListH.list___mul___list_int_3 p.2 #[c] n k u (by simp[Builtin.List.listFitsIndex];omega) (by simp;omega) (by simp[Builtin.List.listTooLong,sizeLine];omega))
              ⟨h1,vL (c:=c) k.toNat▸h _ _ _ g q⟩⟩)
     | _=>exact nn e
   | _=>exact nn e
 | _=>exact nn e
theorem Value.nope (v:V)(c:Value)(r:VR X ρ s.heap v c):handedIn c=true:=by cases r<;>rfl
theorem sp (e:iS i n=some k):(0≤i/\i<n/\k=i.toNat)\/(i= -1/\0<n/\k=n-1):=by
 by_cases h:0≤i
 ·obtain⟨h1,e⟩:=oi ((ap h).symm.trans e);exact .inl ⟨h,h1,(sj e).symm⟩
 ·obtain⟨h1,e⟩:=oi ((au h).symm.trans e);obtain⟨h2,e⟩:=oi e;exact .inr ⟨h1,h2,(sj e).symm⟩
theorem ui (h:(if i<0 then i+n else i)=j)(h0:0≤j)(h1:j<n)(hk:j.toNat=k):seqIndex? i n=some k:=by subst h hk;exact ap (by rw[aW h0,aW h1];rfl)
theorem vn (e:iS i n=some k)(hn:n≤1000000):seqIndex? i n=some k/\ -(2 ^ 63)≤i/\i<2 ^ 63:=by
 rcases sp e with⟨h0,hlt,rfl⟩ | ⟨rfl,h0,rfl⟩
 ·exact⟨ui (au (Int.not_lt.mpr h0)) h0 hlt rfl,by lia⟩
 ·exact⟨ui (ap (by decide)) (by lia) (by lia) (by lia),by decide,by decide⟩
theorem item_list {p:Addr×Addr}{vs:List V}(I:Inv X ρ σ s.heap)(h1:s.heap.get? p.2=some (PySem.W.listOf cs n))(r1:cp X ρ s.heap vs cs.toList)(hz:vs.length≤1000000)
 (hk:iS i vs.length=some k) (hv:vs[k]?=some v) (h:∀s' c,Go X [] ρ s ρ σ s'->VR X ρ s'.heap v c->Q c s'):wpAny (model X.prog X.w) A (getItem (.ref p.2) (.int i t)) Q E s:=by
 obtain⟨c,hc,rc⟩:=r1.get hv;rw[Array.getElem?_toList] at hc;have hQ:=h _ _ (Go.refl I) rc;rw[r1.size] at hk hz;rcases sp hk with⟨h0,hlt,rfl⟩ | ⟨rfl,h0,rfl⟩
 ·exact wpAny_getItem_list (bN h1) h0 (by lia) hc hQ
 ·exact wpAny_getItem_list_neg (bN h1) (by lia) (by lia) (by lia) ((ag (cs[·]?) (by lia)).trans hc) hQ
theorem l8 {kvs:List (Int×V)}{ks:List (Int×Value)}(hk:ks.map (·.1)=kvs.map (·.1))(hv:cp X ρ s.heap (kvs.map (·.2)) (ks.map (·.2)))(e:lookup kvs i=some v):
 bp (fun c=>valueAt ks i=some c) (fun c=>VR X ρ s.heap v c):=by
 induction kvs generalizing ks with
 | nil=>simp[lookup] at e
 | cons p kvs ih=>
   cases ks with
   | nil=>simp at hk
   | cons q ks=>
     simp only[List.map_cons,List.cons.injEq] at hk hv;obtain⟨hk1,hk2⟩:=hk;cases hv with
     | cons a r=>
       unfold lookup at e;rw[List.find?_cons] at e;unfold valueAt;rw[List.find?_cons,hk1]
       by_cases hp:p.1=i
       ·rw[aW hp] at e⊢
        simp only[Option.map_some,Option.some.injEq] at e⊢;subst e;exact⟨_,rfl,a⟩
       ·rw[aJ hp] at e⊢
        exact ih hk2 r e
theorem AX {value slice:Expr}(hs:∀o i,subscripted slice false o i=operate [o,i] (getItem o i))(I:Inv X ρ σ s.heap)(rx:VR X ρ s.heap x cx)(ry:VR X ρ s.heap y cy)
 (e:cP σ x y=some v) (h:∀s' c,Go X [] ρ s ρ σ s'->VR X ρ s'.heap v c->Q c s'):wpAny (model X.prog X.w) A (subscriptTail value slice cx cy) Q E s:=by
 cases x with
 | tup vs=>
  cases y with
   | int i=>
     obtain⟨hz,e⟩:=oi e;obtain⟨k,hk,hv⟩:=Option.bind_eq_some_iff.mp e;obtain⟨a,cs,rfl,t1,r1⟩:=rx.tup_inv;obtain⟨t,rfl⟩:=ry.int_inv;obtain⟨c,hc,rc⟩:=r1.get hv;rw[Array.getElem?_toList] at hc;obtain⟨hj,hb⟩:=vn (r1.size▸hk) (r1.size▸hz);exact tail_any t1.typeIs PySem.F.slot_tuple_getitem.lookup (getItem_tuple t1 hb.1 hb.2 hj hc (h _ _ (Go.refl I) rc)) (hs _ _)
   | _=>exact nn e
 | bytes bs=>
  cases y with
   | int i=>
     obtain⟨hz,e⟩:=oi e;cases sj e;obtain⟨t,rfl⟩:=rx.bytes_inv;obtain⟨u,rfl⟩:=ry.int_inv;exact tail_any (typeIs_bytes s _ t) FB.slot_bytes_getitem.lookup (getItem_bytes (by lia) hz.2.1 hz.2.2 (h _ _ (Go.toks I _) (.int _ _))) (hs _ _)
   | _=>exact nn e
 | ref a=>
  cases y with
   | int i=>
    obtain⟨t,rfl⟩:=ry.int_inv;rcases Bh e with⟨vs,q,e⟩ | ⟨kvs,q,e⟩
    ·obtain⟨k,hk,hv⟩:=Option.bind_eq_some_iff.mp e
     obtain⟨p,cs,n,hp,rfl,_,h1,r1,hz⟩:=rx.list_at I q;exact tail_any (bN h1).typeIs slot_list_getitem.lookup (item_list I h1 r1 hz hk hv h) (hs _ _)
    ·obtain⟨p,hp,rfl⟩:=rx.ref_inv
     obtain⟨e1,ks,hd,hk,hv⟩:=I.obj a _ p q hp;obtain⟨c,hc,rc⟩:=l8 hk hv e;rw[e1];exact tail_any hd.dictOf.typeIs slot_dict_getitem.lookup (wpAny_getItem_of (knd:=intKind X.prog X.w) (fq i t) hd.dictOf.mapOf hc (h _ _ (Go.toks I _) rc)) (hs _ _)
   | _=>exact nn e
 | _=>exact nn e
end
end
section
open PySem PySem.W PyProof.Rows
section
variable {d:Addr}{kvs:List (Int×Value)}{k:Int}{key v:Value}{Q:Unit->Shared->Prop}
variable {prog:Program}{w:World}{A:Around}{E:Value->Shared->Prop}{s:Shared}
theorem uL (hkey:(intKind prog w).is k key=true)(hm:s.heap.DictAt (intKind prog w) d kvs kvs.length)(hz:kvs.length≤sizeLine)
 (hQ:∀h',h'.DictAt (intKind prog w) d (stored kvs k v) (stored kvs k v).length->Heap.SameBut d s.heap h'->Q () {s with heap:=h',toks:=s.toks+1}):wpAny (model prog w) A (dictSet d key v) Q E s:=by
 obtain⟨o,es,ho,hc,hd,hk,hp,hn⟩:=id hm;have hes:es.size≤sizeLine:=by rw[show es.size=kvs.length from by rw[<-hp.length];simp];exact hz
 have hw:=hp.findIdx k;have hidx:(es.findIdx? fun e=>(intKind prog w).is k e.key)=kvs.findIdx? fun kv=>decide (kv.1=k):=by rw[<-hw];obtain⟨l⟩:=es;simp
 unfold dictSet
 try with_reducible refine wpAny_holding ?_
 refine aq ((intKind prog w).pyHash hkey ?_);unfold dictSetHashed
 try with_reducible refine wpAny_holding ?_
 refine aq (wpAny_dictFind_of (s:={s with toks:=s.toks+1}) hkey ho hd hk ?_)
 by_cases hin:kvs.any (fun kv=>decide (kv.1=k))=true
 ·have hst:stored kvs k v=kvs.map fun kv=>if kv.1=k then(kv.1,v) else kv:=by unfold stored;rw[ap hin]
  obtain⟨i,hi⟩:∃i,(kvs.findIdx? fun kv=>decide (kv.1=k))=some i:=by
   cases q:kvs.findIdx? fun kv=>decide (kv.1=k) with
   | some i=>exact⟨i,rfl⟩
   | none=>
     rw[List.any_eq_true] at hin;obtain⟨x,hx,hx'⟩:=hin;rw[List.findIdx?_eq_none_iff] at q;have:=q x hx;rw[hx'] at this;cases this
  have hl:(es.toList.findIdx? fun e=>(intKind prog w).is k e.key)=some i:=hw.trans hi;rw[hidx,hi];refine aq (wpAny_rule (aq (wpAny_updateDict (s:={s with toks:=s.toks+1}) ho hd (wpAny_point (hQ _ ?_ (Heap.SameBut.update ..))))));refine⟨_,_,Heap.get?_update_self _ ho (Obj.isFreed_of_dict (Obj.data_mapDict hd _)),hc.mapDict _,(by rw[Obj.data_mapDict hd,hst,aD]),hk.modify _ _,?_,?_⟩
  ·rw[hst]
   have h1:=hp.modify hn hl v;obtain⟨l⟩:=es
   simpa using h1
  ·rw[hst,keys_map_store];exact hn
 ·have hst:stored kvs k v=kvs++[(k,v)]:=by unfold stored;rw[au hin]
  have hi:(kvs.findIdx? fun kv=>decide (kv.1=k))=none:=by
   rw[List.findIdx?_eq_none_iff];intro x hx;cases q:decide (x.1=k) with
   | false=>rfl
   | true=>exact absurd (List.any_eq_true.mpr ⟨x,hx,q⟩) hin
  rw[hidx,hi];refine aq (wpAny_rule (wpAny_updateDictKeys (hz:=hes) (s:={s with toks:=s.toks+1}) ho hd (hQ _ ?_ (Heap.SameBut.update ..))));refine⟨_,_,Heap.get?_update_self _ ho (Obj.isFreed_of_dict (Obj.data_mapDictKeys hd _)),hc.mapDictKeys _,(by rw[Obj.data_mapDictKeys hd,hst,bd];rfl),hk.push hkey v,?_,?_⟩
  ·rw[hst]
   have h1:=hp.append hkey ((intKind prog w).hash k) v;obtain⟨l⟩:=es
   simpa using h1
  ·rw[hst,List.map_append,List.nodup_append]
   refine⟨hn,by simp,fun a ha b hb z=>not_mem_of_findIdx_none hi ?_⟩
   simp only[List.map_cons,List.map_nil,List.mem_singleton] at hb;rw[<-hb,<-z];exact ha
theorem Be (hkey:(intKind prog w).is k key=true)(hm:s.heap.DictAt (intKind prog w) d kvs kvs.length)(hz:kvs.length≤sizeLine)
 (hQ:∀h',h'.DictAt (intKind prog w) d (stored kvs k v) (stored kvs k v).length->Heap.SameBut d s.heap h'->Q () {s with heap:=h',toks:=s.toks+1}):wpAny (model prog w) A (setItem (.ref d) key v) Q E s:=by
 have hT:s.TypeIs (.ref d) "dict" :=hm.dictOf.typeIs;unfold setItem
 try with_reducible refine wpAny_holding ?_
 refine aq (wpAny_sequenceKey hT (by decide) ?_)
 refine aq (wpAny_callSpecial?_slot (name:=Str.ofString "__setitem__") hT slot_dict_setitem (wpAny_call_entry slot_dict_setitem hT entry_dict_setitem ?_ (args_dict_setitem _ _ _)))
 show wpAny _ _ (Builtin.Dict.notOrdered "__setitem__" ⟨[.ref d,key,v],[]⟩>>=_) _ _ s
 refine aq (wpAny_notOrdered_dict hT ?_)
 show wpAny _ _ (dictSet d key v>>=_) _ _ s
 exact aq (uL hkey hm hz fun h' hd hs=>aL ⟨.none,rfl,aL (hQ h' hd hs)⟩)
end
end
section
open PySem PySem.W PyProof.Rows
section
variable {v:V}{h:Heap}{c:Value}
variable {X:Cx}{ρ:dM}{σ:H}{s:Shared}{A:Around}{E:Value->Shared->Prop}
theorem uu {K γ:Type} [DecidableEq K] {i:K}(f:γ->K)(g:γ->Value)(u:γ->γ)(hu:∀q,g (u q)=if f q=i then c else g q)(rv:VR X ρ h v c){kvs:List (K×V)}:
 ∀ {ks:List γ},ks.map f=kvs.map (·.1)->cp X ρ h (kvs.map (·.2)) (ks.map g)->cp X ρ h ((kvs.map fun p=>if p.1=i then(p.1,v) else p).map (·.2)) ((ks.map u).map g):=by
 induction kvs with
 | nil=>intro ks e r;cases List.map_eq_nil_iff.mp e;exact .nil
 | cons p kvs ih=>
   intro ks e r;cases ks with
   | nil=>cases e
   | cons q ks=>
     injection e with e1 e2
     obtain⟨a,b⟩:=cp.cons2 r;refine .cons ?_ (ih e2 b);rw[hu,e1]
     by_cases hq:p.1=i
     ·have z:(if p.1=i then(p.1,v) else p)=(p.1,v):=ap hq
      rw[ap hq];show VR X ρ h (if p.1=i then(p.1,v) else p).2 c;rw[z];exact rv
     ·have z:(if p.1=i then(p.1,v) else p)=p:=au hq
      rw[au hq];show VR X ρ h (if p.1=i then(p.1,v) else p).2 (g q);rw[z];exact a
theorem oe {K γ:Type}{f:γ->K}{u:γ->γ}(hu:∀q,f (u q)=f q)(l:List γ):(l.map u).map f=l.map f:=by rw[List.map_map];exact List.map_congr_left fun q y=>hu q
theorem qP {K β:Type} [DecidableEq K] {i:K}{v:β}(p:K×β):(if p.1=i then(p.1,v) else p).1=p.1:=by split<;>rfl
theorem uT {K γ:Type}{i:K}{f:γ->K}{g:γ->Value}{y:γ}(hf:f y=i)(hg:g y=c)(rv:VR X ρ h v c){kvs:List (K×V)}{ks:List γ}(e:ks.map f=kvs.map (·.1))(r:cp X ρ h (kvs.map (·.2)) (ks.map g)):
 (ks++[y]).map f=(kvs++[(i,v)]).map (·.1)/\cp X ρ h ((kvs++[(i,v)]).map (·.2)) ((ks++[y]).map g):=by
 subst hf hg;rw[List.map_append,List.map_append,List.map_append,List.map_append,e];exact⟨rfl,r.append (.cons rv .nil)⟩
theorem nG {i:Int}(rv:VR X ρ h v c){kvs:List (Int×V)}{ks:List (Int×Value)}(e:ks.map (·.1)=kvs.map (·.1))(r:cp X ρ h (kvs.map (·.2)) (ks.map (·.2))):
 (stored ks i c).map (·.1)=(put kvs i v).map (·.1)/\cp X ρ h ((put kvs i v).map (·.2)) ((stored ks i c).map (·.2)):=by
 unfold stored put;have ha:=ph e i
 by_cases hk:(kvs.any fun p=>decide (p.1=i))=true
 ·rw[ap hk,ap (ha.trans hk),oe qP,oe qP]
  exact⟨e,uu (fun q:Int×Value=>q.1) (fun q=>q.2) _ (fun q=>by split<;>rfl) rv e r⟩
 ·rw[au hk,au (ha▸hk)]
  exact uT rfl rfl rv e r
theorem rZ {i:List Int}{a:Addr}(rv:VR X ρ h v c){kvs:List (List Int×V)}{ks:List (List Int×Addr×Value)}(e:ks.map (·.1)=kvs.map (·.1))(r:cp X ρ h (kvs.map (·.2)) (ks.map (·.2.2))):
 (storedH ks i a c).map (·.1)=(put kvs i v).map (·.1)/\cp X ρ h ((put kvs i v).map (·.2)) ((storedH ks i a c).map (·.2.2)):=by
 unfold storedH put;have ha:=qt e i
 by_cases hk:(kvs.any fun p=>decide (p.1=i))=true
 ·rw[ap hk,ap (ha.trans hk),oe qP,keys_map_putAt]
  exact⟨e,uu (fun q:List Int×Addr×Value=>q.1) (fun q=>q.2.2) _ (fun q=>by unfold putAt;split<;>rfl) rv e r⟩
 ·rw[au hk,au (ha▸hk)]
  exact uT rfl rfl rv e r
theorem d4 {K α β:Type}{xs:List (K×α)}{ys:List (K×β)}(e:xs.map (·.1)=ys.map (·.1)):xs.length=ys.length:=
 aD (f:=fun p:K×α=>p.1)▸aD (f:=fun p:K×β=>p.1)▸ag List.length e
theorem room {n:Nat}(h:n≤1000000):n≤sizeLine:=by rw[sizeLine_eq];exact Nat.le_trans h (by decide)
theorem pV {x y:V}{cx cy cv:Value}{σ':H}{Q:Unit->Shared->Prop}(I:Inv X ρ σ s.heap)(hu:A.units+9<cLine)(rx:VR X ρ s.heap x cx)(ry:VR X ρ s.heap y cy)(rv:VR X ρ s.heap v cv)
 (e:cW σ x y v=some σ') (h:∀s',Go X [] ρ s ρ σ' s'->Q () s'):wpAny (model X.prog X.w) A (setItem cx cy cv) Q E s:=by
 have hroom:(tupleKind (fz X.prog X.w)).room A.in1:=tupleKind_room_in1 (Nat.lt_of_le_of_lt (Nat.add_le_add_left (by decide) _) hu)
 cases x with
 | ref a=>
   obtain⟨p,hp,rfl⟩:=rx.ref_inv
   have H:∀ {kvs ks k},σ'=σ.set a (.tdict (put kvs k v))->p.1=p.2->s.heap.DictOfH (tupleKind (fz X.prog X.w)) p.2 ks->ks.map (·.1)=kvs.map (·.1)->cp X ρ s.heap (kvs.map (·.2)) (ks.map (·.2.2))->kvs.length<1000000->∀b,(tupleKind (fz X.prog X.w)).is s.heap k b->
    wpAny (model X.prog X.w) A (setItem (.ref p.2) (.ref b) cv) Q E s:=fun{kvs ks k} es e1 hd hk hv hz b hb=>by
    refine wpAny_setItem_heap hroom hb hd (fun h' hd' hs=> ?_) (room (d4 hk▸Nat.le_of_lt hz));obtain⟨J,x⟩:=I.write (o:=.tdict (put kvs k v)) hp hs (by obtain⟨o,_,_,ho,_⟩:=hd';exact⟨o,ho⟩) fun x=>have z:=rZ (rv.ext x) hk (hv.ext x);⟨e1,_,hd',z.1,z.2⟩
    exact h _ ⟨es▸J,x,rfl,rfl⟩
   rcases D5 e with⟨kvs,q,e⟩ | ⟨kvs,q,e⟩
   ·obtain⟨e1,ks,hd,hk,hv⟩:=I.obj a _ p q hp
    rw[e1];rcases ES e with⟨i,rfl,e'⟩ | ⟨vs,is,rfl,q1,e'⟩
    ·obtain⟨hz,e⟩:=oi e'
     cases ry.isI with | mk t=>
     refine Be (fq i t) hd (room (d4 hk▸Nat.le_of_lt hz)) (fun h' hd' hs=> ?_);obtain⟨J,x⟩:=I.write (o:=.idict (put kvs i v)) hp hs (by obtain⟨o,_,ho,_⟩:=hd';exact⟨o,ho⟩) fun x=>have z:=nG (rv.ext x) hk (hv.ext x);⟨e1,_,hd',z.1,z.2⟩
     exact h _ ⟨sj e▸J,x,rfl,rfl⟩
    ·obtain⟨q2,e2⟩:=oi e'
     obtain⟨k,rfl,hkey⟩:=qZ ry q1;cases List.isEmpty_iff.mp q2;cases List.map_eq_nil_iff.mp hk;exact H (kvs:=[]) (sj e2).symm e1 (uJ hd) rfl .nil (by decide) _ hkey
   ·obtain⟨e1,ks,hd,hk,hv⟩:=I.obj a _ p q hp
    rw[e1];obtain⟨vs,is,rfl,q1,e'⟩:=ER e;obtain⟨hz,e⟩:=oi e';obtain⟨k,rfl,hkey⟩:=qZ ry q1;exact H (sj e).symm e1 hd hk hv hz _ hkey
 | _=>exact nn e
end
end
section
open PySem PySem.W PyProof.Rows
open PySem.Builtin.ObjectAttr
section
noncomputable def uN (K:Frag) (C:Addr) (names:List Str):Bool:=
 (findIn K (.ref C) "__getattribute__" ==some (some (.builtin "object.__getattribute__")))&&
 (findIn K (.ref C) "__setattr__" ==some (some (.builtin "object.__setattr__")))&&
 plainOver K C&&hasDictIn K C&&names.all fun n=>(findIn K (.ref C) n==some none)&&(takerIn K C n==some none)
structure DD (X:Cx):Prop where
 kin:X.K.In X.B
 cls:∀c,c<2->uN X.K (X.cls c) (cO c)=true
section
variable {n m:Str}{es:List DictEntry}{ns:List Str}{h:Heap}{vs:List V}{hsh:Int}{c k cx cv:Value}{f:Nat}{tk tk':Tok}{e:DictEntry}{x v:V}
variable {X:Cx}{ρ:dM}{σ:H}{s:Shared}{A:Around}{E:Value->Shared->Prop}
theorem ol (n:Str)(v:Value)(x:Str)(t:Tok)(h:v=.str n t):v.isStr x=decide (n=x):=by subst h;simp[Value.isStr];rfl
theorem n8 (nd:(n::ns).Nodup){j:Nat}(h:ns[j]?=some m):n≠m:=fun z=>(List.nodup_cons.mp nd).1 (z▸List.mem_of_getElem? h)
theorem xP (r:je X ρ h ns es vs):ns.Nodup->∀ {j:Nat} {n:Str} {v:V},ns[j]?=some n->vs[j]?=some v->
 bp (fun e=>es.find? (·.key.isStr n)=some e) (fun e=>VR X ρ h v e.val):=by
 induction r with
 | nil=>exact fun y y y y y hv=>nn hv
 | cons hk rv r ih=>
   intro nd j m u hn hu;rw[List.find?_cons,ol _ _ m _ hk];cases j with
   | zero=>cases sj hn;cases sj hu;rw[aW rfl];exact⟨_,rfl,rv⟩
   | succ j=>rw[aJ (n8 nd hn)];exact ih (List.nodup_cons.mp nd).2 hn hu
theorem vk (hk:e.key=.str n tk):putL n hsh k c (e::es)={e with val:=c}::es:=by unfold putL;rw[ol n e.key n tk hk,aW rfl];rfl
theorem qb (hk:e.key=.str n tk)(h:n≠m):putL m hsh k c (e::es)=e::putL m hsh k c es:=by rw[putL,ol n e.key m tk hk,aJ h];rfl
theorem xO (r:je X ρ h ns es vs):ns.Nodup->∀ {j:Nat} {n:Str} {v:V},ns[j]?=some n->j<vs.length->VR X ρ h v c->
 je X ρ h ns (putL n hsh (.str n tk') c es) (vs.set j v):=by
 induction r with
 | nil=>exact fun y y y y y hj=>(Nat.not_lt_zero _ hj).elim
 | cons hk rv r ih=>
   intro nd j m u hn hj ru;cases j with
   | zero=>cases sj hn;rw[vk hk];exact .cons hk ru r
   | succ j=>rw[qb hk (n8 nd hn)];exact .cons hk rv (ih (List.nodup_cons.mp nd).2 hn (Nat.lt_of_succ_lt_succ hj) ru)
theorem xQ (r:je X ρ h ns es vs):ns.Nodup->∀ {n:Str} {v:V},ns[vs.length]?=some n->VR X ρ h v c->
 je X ρ h ns (putL n hsh (.str n tk') c es) (vs++[v]):=by
 induction r with
 | @nil ns=>
   intro nd n v hn ru;cases ns with
   | nil=>exact nn hn
   | cons m ns=>cases sj hn;exact .cons rfl ru .nil
 | cons hk rv r ih=>
   intro nd m u hn ru;rw[qb hk (n8 nd hn)];exact .cons hk rv (ih (List.nodup_cons.mp nd).2 hn ru)
theorem vV (r:je X ρ h ns es vs):es.any (·.refKey)=false:=by
 induction r with
 | nil=>rfl
 | cons hk _ _ ih=>rw[List.any_cons,ih,DictEntry.refKey,hk];rfl
theorem sE (r:je X ρ h ns es vs):es.length=vs.length/\vs.length≤ns.length:=by
 induction r with
 | nil=>exact⟨rfl,Nat.zero_le _⟩
 | cons _ _ _ ih=>exact⟨ag (· +1) ih.1,Nat.succ_le_succ ih.2⟩
theorem xl {c:Nat}(hn:(cO c)[f]?=some n):c<2:=by
 rcases c with _ | _ | c
 ·decide
 ·decide
 ·exact nn hn
theorem names_nodup (c:Nat):(cO c).Nodup:=by
 rcases c with _ | _ | c
 ·decide
 ·decide
 ·exact List.nodup_nil
theorem vE (c:Nat):(cO c).length≤11:=by
 rcases c with _ | _ | c
 ·decide
 ·decide
 ·exact Nat.zero_le _
structure Dv (X:Cx) (C:Addr) (n:Str):Prop where
 o1:findIn X.K (.ref C) "__getattribute__" =some (some (.builtin "object.__getattribute__"))
 o2:findIn X.K (.ref C) "__setattr__" =some (some (.builtin "object.__setattr__"))
 o3:plainOver X.K C=true
 o4:hasDictIn X.K C=true
 o6:findIn X.K (.ref C) n=some none
 o7:takerIn X.K C n=some none
theorem DD.at (M:DD X){c:Nat}(hn:(cO c)[f]?=some n):Dv X (X.cls c) n:=by have ok:=M.cls c (xl hn);simp only[uN,Bool.and_eq_true,beq_iff_eq,List.all_eq_true] at ok;obtain⟨⟨⟨⟨o1,o2⟩,o3⟩,o4⟩,o5⟩:=ok;obtain⟨o6,o7⟩:=o5 n (List.mem_of_getElem? hn);exact⟨o1,o2,o3,o4,o6,o7⟩
theorem pW {c:Nat}{expr:Bool}{Q:Value->Shared->Prop}(M:DD X)(hn:(cO c)[f]?=some n)(I:Inv X ρ σ s.heap)(rx:VR X ρ s.heap x cx)
 (e:gS σ x c f=some v) (h:∀s' d,Go X [] ρ s ρ σ s'->VR X ρ s'.heap v d->Q d s'):wpAny (model X.prog X.w) A (getAttr cx n expr) Q E s:=by
 cases x with
 | ref a=>
   obtain⟨p,hp,rfl⟩:=rx.ref_inv;obtain⟨d,fs,q,e⟩:=C3 e;obtain⟨hd,e2⟩:=oi e
   clear e
   subst hd;obtain⟨h1,es,k,h2,h3⟩:=I.obj a _ p q hp;have ok:=M.at hn;obtain⟨en,he,rv⟩:=xP h3 (names_nodup d) hn e2;have hl:lookIn n (dictOf es k)=some (some en.val):=by rw[lookIn_dict];unfold getL;rw[he]
   exact get_value (M.kin.keeps I.base) (⟨h1,rfl,rfl,h2⟩:InstAt s.heap p.1 _ (X.cls d) (some (dictOf es k))) ok.o1 (findObj_own ok.o4 ok.o6 rfl hl) (Value.nope _ _ rv) (h _ _ (Go.toks I _) rv)
 | _=>exact nn e
theorem rF {p q:DictEntry->Bool}(h:es.any q=false):(!es.toArray.any p&&es.toArray.any q)=false:=by
 rw[<-Array.any_toList,<-Array.any_toList]
 show(!es.any p&&es.any q)=false
 rw[h,Bool.and_false]
theorem wU (l:List DictEntry):(putL n hsh k c l).length≤l.length+1:=by
 induction l with
 | nil=>exact Nat.le_refl _
 | cons y ys ih=>rw[putL];split;exact Nat.le_succ _;exact Nat.succ_le_succ ih
theorem ve {R:Result->Shared->Prop}{x dx C:Addr}{k:Nat}(Kin:X.K.In s.heap)(h1:s.heap.get? x=some (instObj C dx))(h2:s.heap.get? dx=some (dictOf es k))
 (hr:es.any (·.refKey)=false) (hz:es.length≤100) (o3:plainOver X.K C=true) (o4:hasDictIn X.K C=true) (o7:takerIn X.K C n=some none)
 (h:∀h',Heap.SameBut dx s.heap h'->h'.get? dx=some (dictOf (putL n (PyData.keyHash X.w.params n) (.str n s.toks) cv es) (putN n es k))->R (.ok (.ret .none)) {s with heap:=h',toks:=s.toks+1}):
 codeAny (model X.prog X.w) A (.call (.builtin "object.__setattr__") ⟨[.ref x,.str n tk,cv],[]⟩) R s:=by
 have IA:InstAt s.heap x (instObj C dx) C (some (dictOf es k)):=⟨h1,rfl,rfl,h2⟩;refine osa_open Kin IA o3 o7 fun b=> ?_;obtain⟨cd,hcd,hhd⟩:=any_some o4;refine aq (aL (aq (aq (wpAny_loadPart h1 (aq ((looks_clsIn Kin hcd).here ?_))))));rw[hhd];refine aL (a:=some dx) (aq (aL (aq ?_)));unfold nsSet;refine aq (aq (wpAny_askSetting (aL (aq (wpAny_mkText (aq (wpAny_loadPart h2 ?_)))))))
 dsimp only
 rw[aRefKeyMayBeTheName_at,rF hr];have e:=putName_dict n (PyData.keyHash X.w.params n) (.str n s.toks) cv es k
 have hg:(s.heap.update dx (Obj.putName n (PyData.keyHash X.w.params n) (.str n s.toks) cv)).get? dx=some (dictOf (putL n (PyData.keyHash X.w.params n) (.str n s.toks) cv es) (putN n es k)):=by rw[<-e];exact Heap.get?_update_self _ h2 (by rw[e];rfl)
 refine wpAny_updatePart h2 ?_;refine aq (wpAny_lookBehind hg (pastItsLine_dict (Nat.le_trans (Nat.le_of_eq List.size_toArray) (Nat.le_succ_of_le<|room (Nat.le_trans (wU es) (Nat.le_trans (Nat.succ_le_succ hz) (by decide)))))) ?_)
 exact aL (h _ (Heap.SameBut.update ..) hg)
theorem u8 {c:Nat}{σ':H}{Q:Unit->Shared->Prop}(M:DD X)(hn:(cO c)[f]?=some n)(I:Inv X ρ σ s.heap)(rx:VR X ρ s.heap x cx)(rv:VR X ρ s.heap v cv)
 (e:setAttr σ x c f v=some σ') (h:∀s',Go X [] ρ s ρ σ' s'->Q () s'):wpAny (model X.prog X.w) A (PySem.setAttr cx n cv) Q E s:=by
 cases x with
 | ref a=>
   obtain⟨p,hp,rfl⟩:=rx.ref_inv;obtain⟨d,fs,q,e⟩:=C3 e;obtain⟨hd,e2⟩:=oi e;obtain⟨hd,hf⟩:=hd
   clear e
   subst hd;obtain⟨h1,es,k,h2,h3⟩:=I.obj a _ p q hp;have ok:=M.at hn;have Kin:=M.kin.keeps I.base;have hlen:=sE h3;refine set_plain Kin (⟨h1,rfl,rfl,h2⟩:InstAt s.heap p.1 (instObj (X.cls d) p.2) (X.cls d) (some (dictOf es k))) ok.o2 (ve (s:={s with toks:=s.toks+1}) Kin h1 h2 (vV h3) (hlen.1▸Nat.le_trans hlen.2 (Nat.le_trans (vE d) (by decide))) ok.o3 ok.o4 ok.o7 fun h' hs hg=> ?_)
   have W:∀fs',σ'=σ.set a (.inst d fs')->(dY [] ρ ρ s.heap h'->je X ρ h' (cO d) _ fs')->Q () {s with heap:=h',toks:=s.toks+1+1}:=fun fs' es' F=>by obtain⟨J,x⟩:=I.write (o:=.inst d fs') hp hs ⟨_,hg⟩ fun x=>⟨x.imm _ _ h1 (sB _ _),_,_,hg,F x⟩;exact h _ ⟨es'▸J,x,rfl,rfl⟩
   by_cases hj:f<fs.length
   ·exact W _ (sj ((ap hj).symm.trans e2)).symm fun x=>xO (h3.ext x) (names_nodup d) hn hj (rv.ext x)
   ·obtain⟨hj,e3⟩:=oi ((au hj).symm.trans e2)
    exact W _ (sj e3).symm fun x=>xQ (h3.ext x) (names_nodup d) (hj▸hn) (rv.ext x)
 | _=>exact nn e
end
end
end
section
open PySem PySem.W PyProof.Rows
section
variable {vs:List V}{c:Value}{Q:Value->Shared->Prop}{a:Nat}{v:V}{bs:List UInt8}
variable {X:Cx}{ρ:dM}{σ:H}{s:Shared}{A:Around}{E:Value->Shared->Prop}
theorem w_len_list (I:Inv X ρ σ s.heap)(r:VR X ρ s.heap (.ref a) c)(e:σ[a]?=some (.list vs))
 (h:∀s' d,Go X [] ρ s ρ σ s'->VR X ρ s'.heap (.int vs.length) d->Q d s'):wpAny (model X.prog X.w) A (call (.builtin "len") [c]) Q E s:=by
 obtain⟨p,cs,n,hp,rfl,_,h1,r1,hz⟩:=r.list_at I e;refine PyProof.Rows.len_list (bN h1) (by have:=r1.size;lia) (h _ _ (Go.toks I _) ?_)
 rw[<-r1.size];exact .int _ _
theorem w_len_bytes (I:Inv X ρ σ s.heap)(r:VR X ρ s.heap (.bytes bs) c)(hz:bs.length≤1000000)
 (h:∀s' d,Go X [] ρ s ρ σ s'->VR X ρ s'.heap (.int bs.length) d->Q d s'):wpAny (model X.prog X.w) A (call (.builtin "len") [c]) Q E s:=by
 obtain⟨t,rfl⟩:=r.bytes_inv;exact len_bytes (by rw[List.size_toArray];lia) (h _ _ (Go.toks I _) (by rw[List.size_toArray];exact VR.int _ _))
theorem wx {cv:Value}(I:Inv X ρ σ s.heap)(r:VR X ρ s.heap (.ref a) c)(rv:VR X ρ s.heap v cv)(e:σ[a]?=some (.list vs))(hz:vs.length<1000000)
 (h:∀s',Go X [] ρ s ρ (σ.set a (.list (vs++[v]))) s'->Q .none s'):wpAny (model X.prog X.w) A (call (.builtin "list.append") [c,cv]) Q E s:=by
 obtain⟨p,cs,n,hp,rfl,e1,h1,r1,_⟩:=r.list_at I e;refine append_at h1 (fun h' hs hg=> ?_) (room (r1.size▸Nat.le_of_lt hz));obtain⟨J,x⟩:=I.write (o:=.list (vs++[v])) hp hs ⟨_,hg⟩ fun x=>⟨e1,bd▸hz,_,_,hg,by rw[Array.toList_push];exact(r1.ext x).append (.cons (rv.ext x) .nil)⟩
 exact h _ ⟨J,x,rfl,rfl⟩
theorem mJ (cs:Array Value)(n:Nat)(f:Array Value->Array Value):∃m,Obj.mapSeq f (PySem.W.listOf cs n)=PySem.W.listOf (f cs) m:=by simp only[Obj.mapSeq];exact⟨_,rfl⟩
theorem ww {b:Nat}{us:List V}{d:Value}(I:Inv X ρ σ s.heap)(r:VR X ρ s.heap (.ref a) c)(rb:VR X ρ s.heap (.ref b) d)(e:σ[a]?=some (.list vs))(e':σ[b]?=some (.list us))
 (hz:vs.length+us.length≤1000000) (h:∀s',Go X [] ρ s ρ (σ.set a (.list (vs++us))) s'->Q .none s'):wpAny (model X.prog X.w) A (call (.builtin "list.extend") [c,d]) Q E s:=by
 obtain⟨p,cs,n,hp,rfl,e1,h1,r1,_⟩:=r.list_at I e;obtain⟨q,ds,m,hq,rfl,e2,h2,r2,_⟩:=rb.list_at I e';have hsz:cs.size+ds.size≤sizeLine:=room (r1.size▸r2.size▸hz);refine call_meets PySem.F.slot_list_extend ⟨_,h1,rfl⟩ PySem.F.entry_list_extend (PySem.F.args_list_extend_2 _ _) (AutoSeq1.list_extend_list_list_0 p.2 cs n q.2 ds m (extend_door hsz) (Nat.le_trans (Nat.le_add_right _ _) hsz)) ⟨h1,h2,?_⟩;obtain⟨k,hk⟩:=mJ cs n (fun x=>x++ds)
 obtain⟨J,x⟩:=I.write (o:=.list (vs++us)) hp (Heap.SameBut.update s.heap p.2 (Obj.mapSeq fun x=>x++ds)) ⟨_,Heap.get?_update_self _ h1 (by rw[hk];rfl)⟩ fun x=>
  ⟨e1,bd▸hz,cs++ds,k,by rw[Heap.get?_update_self _ h1 (by rw[hk];rfl),hk],by rw[Array.toList_append];exact(r1.ext x).append (r2.ext x)⟩
 exact h _ ⟨J,x,rfl,rfl⟩
theorem CH (I:Inv X ρ σ s.heap)(r:VR X ρ s.heap (.ref a) c)(e:σ[a]?=some (.list vs))(hv:vs.getLast?=some v)
 (h:∀s' d,Go X [] ρ s ρ (σ.set a (.list vs.dropLast)) s'->VR X ρ s'.heap v d->Q d s'):wpAny (model X.prog X.w) A (call (.builtin "list.pop") [c]) Q E s:=by
 obtain⟨p,cs,n,hp,rfl,e1,h1,r1,hz⟩:=r.list_at I e;have hl:=r1.size;rw[List.getLast?_eq_getElem?] at hv;obtain⟨d,hd,rd⟩:=r1.get hv;rw[Array.getElem?_toList,hl] at hd;refine call_meets PySem.F.slot_list_pop ⟨_,h1,rfl⟩ PySem.F.entry_list_pop (PySem.F.args_list_pop_1 _) (MeetsSeq.list_pop_last p.2 cs n d hd (room (r1.size▸hz))) ⟨h1,?_⟩;obtain⟨k,hk⟩:=mJ cs n (fun xs=>xs.eraseIdxIfInBounds (cs.size-1))
 have hdl:(cs.eraseIdxIfInBounds (cs.size-1)).toList=cs.toList.dropLast:=by rw[Array.toList_eraseIdxIfInBounds,<-Array.length_toList,List.eraseIdx_length_sub_one]
 obtain⟨J,x⟩:=I.write (o:=.list vs.dropLast) hp (Heap.SameBut.update s.heap p.2 (Obj.mapSeq fun xs=>xs.eraseIdxIfInBounds (cs.size-1))) ⟨_,Heap.get?_update_self _ h1 (by rw[hk];rfl)⟩ fun x=>
  ⟨e1,List.length_dropLast▸Nat.le_trans (Nat.sub_le _ _) hz,_,k,by rw[Heap.get?_update_self _ h1 (by rw[hk];rfl),hk],by rw[hdl];exact(r1.ext x).dropLast⟩
 exact h _ _ ⟨J,x,rfl,rfl⟩ (rd.ext x)
theorem sz {r:List V}{is:List Int}(e:kI (v::r)=some is):dU (fun i js=>v=.int i) (fun i js=>kI r=some js) (fun i js=>is=i::js):=by
 cases v with
 | int i=>obtain⟨js,h1,h2⟩:=Option.map_eq_some_iff.mp e;exact⟨i,js,rfl,h1,h2.symm⟩
 | _=>cases e
theorem ou:∀ {is:List Int} {cs:List Value},cp X ρ s.heap vs cs->kI vs=some is->IntsAre cs is:=by
 induction vs with
 | nil=>intro is cs r e;cases r.nil_inv;cases e;exact .nil
 | cons v vs ih=>
   intro is cs r e;obtain⟨d,ds,rfl,h1,h2⟩:=r.cons_inv;obtain⟨i,js,rfl,h3,rfl⟩:=sz e;obtain⟨t,rfl⟩:=h1.int_inv;exact .cons _ _ (ih h2 h3)
theorem yF (hh:A.handled=none)(I:Inv X ρ σ s.heap)(r:VR X ρ s.heap (.ref a) c)(e:σ[a]?=some (.list vs))(hb:gc vs=some bs)
 (h:∀s' d,Go X [] ρ s ρ σ s'->VR X ρ s'.heap (.bytes bs) d->Q d s'):wpAny (model X.prog X.w) A (call (.type "bytes") [c]) Q E s:=by
 obtain⟨p,cs,n,hp,rfl,e1,h1,r1,hz⟩:=r.list_at I e;obtain⟨is,q,hb⟩:=ET hb;obtain⟨hall,hb⟩:=oi hb;cases sj hb;exact call_bytes_ints (vs:=cs.toList) (bN h1) (ou r1 q) (fun n hn=>of_decide_eq_true (List.all_eq_true.mp hall n hn)) (Array.length_toList▸room (r1.size▸hz)) hh fun h' t k hk=>h _ _ (Go.grow I hk) (.bytes _ _)
end
end
section
open PySem PySem.W PyProof.Rows
section
variable {c d:Value}{Q:Value->Shared->Prop}{a:Nat}{i:Int}{v:V}{vs:List V}{σ':H}{kvs:List (Int×V)}
variable {X:Cx}{ρ:dM}{σ:H}{s:Shared}{A:Around}{E:Value->Shared->Prop}
theorem wv (I:Inv X ρ σ s.heap)(r:VR X ρ s.heap (.ref a) c)(e:σ[a]?=some (.list vs))(e':dW σ vs=some (v,σ'))
 (h:∀ρ' s' d,Go X [] ρ s ρ' σ' s'->VR X ρ' s'.heap v d->Q d s'):wpAny (model X.prog X.w) A (call (.type "list") [c]) Q E s:=by
 obtain⟨p,cs,n,hp,rfl,e1,h1,r1,hz⟩:=r.list_at I e;refine call_list_seq p.2 (.inl rfl) h1 rfl rfl (fun h' c' hk hg=> ?_) (room (r1.size▸hz));cases sj (oi e').2;obtain⟨g,q⟩:=kQ (k:=s.toks) I hz hk (Nat.le_refl _) hg r1;exact h _ _ _ g q
theorem zl {h:Heap}(kvs:List (Int×V)):∀ (vs:List Value),vs.length=kvs.length->(∀ (j:Nat) (v:Value),vs[j]?=some v->cD (fun(k:Int) (t:Tok)=>(kvs.map (·.1))[j]?=some k) (fun(k:Int) (t:Tok)=>v=Value.int k t))->cp X ρ h (kvs.map fun p=>V.int p.1) vs:=by
 induction kvs with
 | nil=>intro vs hl _;cases List.length_eq_zero_iff.mp hl;exact .nil
 | cons p kvs ih=>
   intro vs hl hv;cases vs with
   | nil=>cases hl
   | cons v vs=>
     obtain⟨k,t,h1,rfl⟩:=hv 0 v rfl;cases sj h1;exact .cons (.int _ _) (ih vs (Nat.succ.inj hl) fun j u hu=>hv (j+1) u hu)
theorem pC (hh:A.handled=none)(I:Inv X ρ σ s.heap)(r:VR X ρ s.heap (.ref a) c)(e:σ[a]?=some (.idict kvs))
 (e':dW σ (kvs.map fun p=>V.int p.1)=some (v,σ'))
 (h:∀ρ' s' d,Go X [] ρ s ρ' σ' s'->VR X ρ' s'.heap v d->Q d s'):wpAny (model X.prog X.w) A (call (.type "list") [c]) Q E s:=by
 obtain⟨p,hp,rfl⟩:=r.ref_inv;obtain⟨e1,ks,hd,hk,hv⟩:=I.obj a _ p e hp;obtain⟨hz,e'⟩:=oi e';cases sj e';have hkl:=d4 hk;rw[e1];refine kdl_call (kdl_dict (knd:=intKind X.prog X.w) (kvs:=ks) (gr I (List.mem_of_getElem? hp))) hh hd (room (hkl▸aD _▸hz)) fun h' tk acc c' hk' hg hacc=> ?_
 have hr:cp X ρ s.heap (kvs.map fun p=>V.int p.1) acc.toList:=zl kvs acc.toList (Array.length_toList.trans (hacc.1.trans hkl)) fun j v hj=>by obtain⟨k,x,h1,h2⟩:=hacc.2 j v (Array.getElem?_toList▸hj);obtain⟨t,rfl⟩:=Value.isInt_shape h2;exact⟨k,t,by rw[<-hk,List.getElem?_map,h1];rfl,rfl⟩
 obtain⟨g,q⟩:=kQ (k:=tk) I hz hk' (Nat.le_refl _) hg hr;exact h _ _ _ g q
theorem yC (I:Inv X ρ σ s.heap)(r:VR X ρ s.heap (.int i) c)
 (h:∀s' d,Go X [] ρ s ρ σ s'->VR X ρ s'.heap (.range i) d->Q d s'):wpAny (model X.prog X.w) A (call (.type "range") [c]) Q E s:=by
 cases r.isI;exact call_range_1 (h _ _ (Go.grow I bT) (.range (IsRange.new _ _ _ _ _ _ _)))
theorem yD (I:Inv X ρ σ s.heap)(r:VR X ρ s.heap (.int i) c)
 (h:∀s' d,Go X [] ρ s ρ σ s'->VR X ρ s'.heap (.int i) d->Q d s'):wpAny (model X.prog X.w) A (call (.type "int") [c]) Q E s:=by
 cases r.isI;exact call_int_int (h _ _ (Go.refl I) (.int _ _))
theorem oo (k i:Int)(t:Tok):Value.isInt k (.int i t)=(i==k):=by simp[Value.isInt]
theorem yE {k:Nat}(I:Inv X ρ σ s.heap)(r:VR X ρ s.heap (.ref a) c)(ri:VR X ρ s.heap (.int i) d)(e:σ[a]?=some (.list vs))(hk:lz i vs=some k)
 (h:∀s' d,Go X [] ρ s ρ σ s'->VR X ρ s'.heap (.int k) d->Q d s'):wpAny (model X.prog X.w) A (call (.builtin "list.index") [c,d]) Q E s:=by
 obtain⟨p,cs,n,hp,rfl,e1,h1,r1,hz⟩:=r.list_at I e;cases ri.isI with | mk t=>
 obtain⟨is,q,hk⟩:=ET hk;obtain⟨hm,hk⟩:=oi hk;cases sj hk;have ha:=ou r1 q;have L:cs.size=is.length:=Array.length_toList.symm.trans ha.length;have hj:is.idxOf i<is.length:=List.idxOf_lt_length_of_mem (List.contains_iff_mem.mp hm)
 have at_:∀j (hj:j<cs.size),∃t,cs[j]=.int (is[j]'(L▸hj)) t:=by intro j hj;obtain⟨t,ht⟩:=ha.get j _ (List.getElem?_eq_getElem (L▸hj));rw[Array.getElem?_toList,Array.getElem?_eq_getElem hj] at ht;exact⟨t,sj ht⟩
 refine call_meets PySem.F.slot_list_index ⟨_,h1,rfl⟩ PySem.F.entry_list_index (PySem.F.args_list_index_2 _ _)
  (SeqAt.list_indexAt p.2 cs n none #[] (.int i t) (Value.isInt i) (is.idxOf i) (L▸hj) (by have:=r1.size;lia) ?_ ?_) ⟨h1,fun y hy=> ?_,h _ _ (Go.toks I _) (.int _ _)⟩
 ·obtain⟨u,e3⟩:=at_ (is.idxOf i) (L▸hj)
  rw[e3,oo,List.getElem_idxOf];exact beq_self_eq_true i
 ·intro j hj' hlt
  obtain⟨u,e3⟩:=at_ j hj';rw[e3,oo];exact List.not_of_lt_findIdx (p:=(· ==i)) hlt
 ·obtain⟨j,hj,rfl⟩:=Array.mem_iff_getElem.mp hy
  obtain⟨u,e3⟩:=at_ j hj;rw[e3,oo];exact SeqAt.EqAt.int_int _ _ _ _
theorem AY {f:Value}(I:Inv X ρ σ s.heap)(r:VR X ρ s.heap (.ref a) c)(ri:VR X ρ s.heap (.int i) d)(rv:VR X ρ s.heap v f)(e:σ[a]?=some (.idict kvs))
 (h:∀s' d,Go X [] ρ s ρ σ s'->VR X ρ s'.heap ((lookup kvs i).getD v) d->Q d s'):wpAny (model X.prog X.w) A (call (.builtin "dict.get") [c,d,f]) Q E s:=by
 obtain⟨p,hp,rfl⟩:=r.ref_inv;obtain⟨e1,ks,hd,hk,hv⟩:=I.obj a _ p e hp;cases ri.isI with | mk t=>
 have hns:=gr I (List.mem_of_getElem? hp);rw[e1];refine call_meetsIn PySem.F.slot_dict_get hd.dictOf.typeIs PySem.F.entry_dict_get (PySem.F.args_dict_get_3 _ _ _) (meets_dict_get_default (knd:=intKind X.prog X.w) (k:=i) (key:=.int i t) p.2 (fq i t) hns f) ⟨_,hd.dictOf.mapOf,?_⟩;refine h _ _ (Go.toks I _) ?_;cases q:lookup kvs i with
 | some u=>
   obtain⟨cu,h1,h2⟩:=l8 hk hv q;rw[h1];exact h2
 | none=>
   have h1:=mA hk i;rw[<-show(lookup kvs i).isSome=_ from(Option.isSome_map ..).trans (jQ _ kvs),q] at h1;rw[Option.isSome_eq_false_iff.mp h1 |> Option.isNone_iff_eq_none.mp];exact rv
end
end
section
open PySem PySem.W PyProof.Rows
section
section
variable {sl:Addr}{a:Nat}{u:Tok}
variable {prog:Program}{w:World}{A:Around}{E:Value->Shared->Prop}{s:Shared}
theorem s7 (a n:Nat)(ha:a<n):Builtin.Slice.sliceAdjust none (some (a:Int)) 1 (n:Int)=(0,(a:Int)):=by
 unfold Builtin.Slice.sliceAdjust;rw[au (by decide)]
 dsimp only[au (Int.not_lt.mpr (Int.natCast_nonneg a))]
 exact ag (Prod.mk 0) (Int.min_eq_left (Int.ofNat_le.mpr (Nat.le_of_lt ha)))
theorem so (a:Nat):Builtin.Slice.slicePlaces 0 (a:Int) 1=a:=by
 unfold Builtin.Slice.slicePlaces;have h1:(1:Int)>0:=by lia
 simp only[h1,if_true,Int.ediv_one]
 split<;>lia
theorem k7 {n:Nat}{Q:Int×Int×Nat->Shared->Prop}(hs:s.heap.IsSliceOf sl .none (.int a u) .none)(ha:a<n)(h:Q (0,1,a) s):
 wpAny (model prog w) A (Builtin.Slice.sliceApplied (.ref sl) (pure (n:Int))) Q E s:=by
 obtain⟨os,hos,hcs,hds⟩:=id hs;unfold Builtin.Slice.sliceApplied Builtin.Slice.sliceFields;refine aq (aq (wpAny_field hos hds (x:=.none) rfl (aq (wpAny_field hos hds (x:=.int a u) rfl (aq (wpAny_field hos hds (x:=.none) rfl (aL ?_)))))));refine aq (slicePart_none ?_)
 show wpAny _ _ (if((1:Int)==0)=true then _ else _) _ _ s
 rw[au (by decide)]
 refine aq (slicePart_none (aq (slicePart_int (aq (aL ?_)))))
 show wpAny _ _ (match Builtin.Slice.sliceAdjust none (some (a:Int)) 1 (n:Int) with | (lo,hi)=>pure (lo,(1:Int),Builtin.Slice.slicePlaces lo hi 1)) _ _ s
 rw[s7 a n ha]
 show wpAny _ _ (pure ((0:Int),(1:Int),Builtin.Slice.slicePlaces 0 (a:Int) 1)) _ _ s
 rw[so a];exact aL h
theorem vp (xs:Array Value)(a:Nat)(ha:a≤xs.size):((List.range a).filterMap fun(k:Nat)=>xs[((0:Int)+(k:Int)*1).toNat]?).toArray=(xs.toList.take a).toArray:=by
 have e:(fun(k:Nat)=>xs[((0:Int)+(k:Int)*1).toNat]?)=fun k=>xs[0+k]?:=by
  funext k
  have:((0:Int)+(k:Int)*1).toNat=0+k:=by lia
  rw[this]
 rw[e];have:=pick_run xs 0 a;rw[List.filterMap_map] at this;have e2:((fun x=>xs[x]?)∘fun x=>0+x)=fun k=>xs[0+k]?:=rfl;rw[e2] at this;rw[this,List.drop_zero]
theorem kK {t:Addr}{items:Array Value}{Q:Value->Shared->Prop}(ht:IsTup s.heap t items)(hs:s.heap.IsSliceOf sl .none (.int a u) .none)(ha:a<items.size)
 (h:Q (.ref s.heap.objs.size) {s with heap:=s.heap.push {cls:=.type "tuple",data:=.seq (items.toList.take a).toArray}})
 (hsz:items.size≤sizeLine):wpAny (model prog w) A (getItem (.ref t) (.ref sl)) Q E s:=by
 have hdrop:sizeOk (.seq (items.toList.take a).toArray):=by
  show(items.toList.take a).toArray.size≤sizeLine
  rw[List.size_toArray,List.length_take,Array.length_toList]
  lia
 obtain⟨os,hos,hcs,hds⟩:=id hs;have hTs:s.TypeIs (.ref sl) "slice" :=⟨os,hos,hcs⟩;unfold getItem;refine wpAny_holding ?_;refine aq (wpAny_sequenceKey ht.typeIs (by decide) ?_)
 refine aq (wpAny_callSpecial?_slot (name:=Str.ofString "__getitem__") ht.typeIs PySem.F.slot_tuple_getitem
  (wpAny_call_entry PySem.F.slot_tuple_getitem ht.typeIs PySem.F.entry_tuple_getitem ?_ (PySem.F.args_tuple_getitem_2 _ _)))
 show wpAny _ _ (Builtin.Tuple.tupleItemsOf (.ref t)>>=_) _ _ s
 refine aq (tupleItemsOf_ ht ?_);refine aq (wpAny_typeOf hTs ?_);rw[ap (by decide)]
 refine aq (k7 hs ha ?_)
 have hno:¬ (((0:Int)==0&&(1:Int)==1&&a==items.size)=true):=by
  have:(a==items.size)=false:=by rw[beq_eq_false_iff_ne];lia
  rw[this];simp
 show wpAny _ _ (if((0:Int)==0&&(1:Int)==1&&a==items.size)=true then _ else _) _ _ s
 rw[au hno,vp items a (by lia)]
 exact aq (m:=Builtin.Tuple.tupleExact _) (wpAny_newObj_type (aL ⟨_,rfl,aL h⟩) hdrop)
end
end
section
section
variable {σ':H}{v x y:V}{Q:Value->Shared->Prop}{cs:Array Value}{i:Int}{cx cy:Value}{value p lo:_}{vs us:List V}
variable {X:Cx}{ρ:dM}{σ:H}{s:Shared}{A:Around}{E:Value->Shared->Prop}
theorem kG {a:Addr}{sl:Addr}{vl vu vs':Value}{lo hi st:Option Int}{value slice:Expr}{ops:List Value}(I:Inv X ρ σ s.heap)(hl:s.heap.IsList a cs)
 (hs:s.heap.IsSliceOf sl vl vu vs') (pl:IsPart vl lo) (pu:IsPart vu hi) (ps:IsPart vs' st) (h0:st≠some 0) (hz:cs.size≤1000000) (r:cp X ρ s.heap us (slicePick cs lo hi st).toList) (e:dW σ us=some (v,σ'))
 (ho:subscripted slice false (.ref a) (.ref sl)=operate ops (getItem (.ref a) (.ref sl)))
 (h:∀ρ' s' d,Go X [] ρ s ρ' σ' s'->VR X ρ' s'.heap v d->Q d s'):wpAny (model X.prog X.w) A (subscriptTail value slice (.ref a) (.ref sl)) Q E s:=by
 obtain⟨g,q⟩:=jN (k:=s.toks) I e r;exact tail_any hl.typeIs slot_list_getitem.lookup (wpAny_getItem_list_slice hl hs pl pu ps h0 (h _ _ _ g q) (room hz)) ho
theorem yY (h:0≤i):(slicePick cs none (some i) none).toList=cs.toList.take i.toNat:=by obtain⟨n,rfl⟩:=Int.eq_ofNat_of_zero_le h;exact ag Array.toList (slicePick_upto' cs n)
theorem yZ (h:0≤i):(slicePick cs (some i) none none).toList=cs.toList.drop i.toNat:=by obtain⟨n,rfl⟩:=Int.eq_ofNat_of_zero_le h;exact ag Array.toList (slicePick_from' cs n)
noncomputable abbrev ci (s:Shared) (a b c:Value):Shared:={s with heap:=s.heap.push {cls:=.type "slice",data:=.fields #[a,b,c]}}
theorem uM {aR dw:Shared}{EK:List Addr}{h:Heap}(I:Inv X ρ σ aR.heap)(x:dY EK ρ ρ h aR.heap){ds:List Value}(r:cp X ρ h us ds):
 Go X [] ρ aR ρ σ {aR with heap:=aR.heap.push {cls:=.type "tuple",data:=.seq ds.toArray}}/\VR X ρ (aR.heap.push {cls:=.type "tuple",data:=.seq ds.toArray}) (.tup us) (.ref aR.heap.objs.size):=
 ⟨Go.grow I bT,.tup (IsTup.new _ _) (r.ext (x.trans (dY.grew _ bT)))⟩
theorem vo {bs:List UInt8}(h:0≤i):KBy.picked bs.toArray none (some i)=(bs.take i.toNat).toArray:=by obtain⟨n,rfl⟩:=Int.eq_ofNat_of_zero_le h;rw[KBc.picked_eq];simp only[Option.elim];rw[show clipAt bs.toArray.size (n:Int)=_ from clipAt_nat bs.toArray.size n];simp[List.take_take]
theorem u7 (I:Inv X ρ σ s.heap)(rx:VR X ρ s.heap x cx)(ry:VR X ρ s.heap y cy)(e:sliceTo σ x y=some (v,σ'))
 (h:∀ρ' s' d,Go X [] ρ s ρ' σ' s'->VR X ρ' s'.heap v d->Q d s'):
 wpAny (model X.prog X.w) A (subscriptTail value (.Slice none lo none p) cx (.ref s.heap.objs.size)) Q E (ci s .none cy .none):=by
 have g0:Go X [] ρ s ρ σ (ci s .none cy .none):=Go.grow I bT;have hsl:(ci s .none cy .none).heap.IsSliceOf s.heap.objs.size .none cy .none:=Heap.IsSliceOf.new _ _ _ _;have h':∀ρ' s' d,Go X [] ρ (ci s .none cy .none) ρ' σ' s'->VR X ρ' s'.heap v d->Q d s':=fun ρ' s' d g r=>h _ _ _ (g0.trans g) r;have hops:∀o i,subscripted (.Slice none lo none p) false o i=operate [i,o] (getItem o i):=fun m m=>rfl
 have L:∀ {i:Int} {u:Tok} {a:Addr} {cs:Array Value} {vs:List V},cy=.int i u->(ci s .none cy .none).heap.IsList a cs->cp X ρ s.heap vs cs.toList->vs.length≤1000000->0≤i->dW σ (vs.take i.toNat)=some (v,σ')->
  wpAny (model X.prog X.w) A (subscriptTail value (.Slice none lo none p) (.ref a) (.ref s.heap.objs.size)) Q E (ci s .none cy .none):=fun{i u a cs vs} hy t1 r1 hz hi e=>by
  subst hy;exact kG (lo:=none) (hi:=some i) (st:=none) g0.inv t1 hsl .none (.int i u) .none (fun z=>by cases z) (r1.size▸hz) (by rw[yY hi];exact(r1.take _).ext g0.ext) e (hops _ _) h'
 cases x with
 | bytes bs=>cases y with
   | int i=>
     cases ry.isI with | mk u=>
     obtain⟨hc,e⟩:=oi e;cases sj e;obtain⟨t,rfl⟩:=rx.bytes_inv
     refine tail_any (typeIs_bytes _ _ _) FB.slot_bytes_getitem.lookup (getItem_meets (typeIs_bytes _ _ _) (by decide) FB.slot_bytes_getitem FB.entry_bytes_getitem (FB.args_bytes_getitem_2 _ _) (KBc.meets_slice2 bs.toArray t _ .none (.int i u))
      ⟨hsl,Nat.le_trans (KBc.size_picked_le _ _ _) (room (Nat.le_trans (Nat.le_of_eq List.size_toArray) hc.2)),fun t' k=> ?_⟩) (hops _ _)
     rw[vo hc.1];exact h' _ _ _ (Go.toks g0.inv _) (.bytes _ _)
   | _=>exact nn e
 | tup vs=>cases y with
   | int i=>
     cases ry.isI with | mk u=>
     obtain⟨hc,e⟩:=oi e;cases sj e;obtain⟨a,cs,rfl,t1,r1⟩:=rx.tup_inv;obtain⟨n,rfl⟩:=Int.eq_ofNat_of_zero_le hc.1;have t1':IsTup (ci s .none (.int n u) .none).heap a cs:=t1.keeps bT;obtain⟨g1,q⟩:=uM (aR:=ci s .none (.int n u) .none) (dw:=s) g0.inv g0.ext (r1.take n);exact tail_any t1'.typeIs PySem.F.slot_tuple_getitem.lookup (kK (a:=n) (u:=u) t1' hsl (r1.size▸Int.ofNat_lt.mp hc.2.1) (h' _ _ _ g1 q) (room (r1.size▸hc.2.2))) (hops _ _)
   | _=>exact nn e
 | flist vs=>cases y with
   | int i=>
     obtain⟨u,hy⟩:=ry.int_inv;obtain⟨hc,e⟩:=oi e;obtain⟨a,cs,rfl,t1,r1⟩:=rx.flist_inv;exact L hy (by obtain⟨o,ho,q⟩:=t1;exact⟨o,g0.inv.base _ _ ho,q⟩) r1 hc.2 hc.1 e
   | _=>exact nn e
 | ref b=>cases y with
   | int i=>
     obtain⟨u,hy⟩:=ry.int_inv;obtain⟨vs,q,e⟩:=tz e;obtain⟨hc,e⟩:=oi e;obtain⟨p',cs,n,hp,rfl,_,h1,r1,hz⟩:=rx.list_at I q;exact L hy (bN (bT _ _ h1)) r1 hz hc e
   | _=>exact nn e
 | _=>exact nn e
theorem rT (I:Inv X ρ σ s.heap)(rx:VR X ρ s.heap x cx)(ry:VR X ρ s.heap y cy)(e:sliceFrom σ x y=some (v,σ'))
 (h:∀ρ' s' d,Go X [] ρ s ρ' σ' s'->VR X ρ' s'.heap v d->Q d s'):
 wpAny (model X.prog X.w) A (subscriptTail value (.Slice lo none none p) cx (.ref s.heap.objs.size)) Q E (ci s cy .none .none):=by
 have g0:Go X [] ρ s ρ σ (ci s cy .none .none):=Go.grow I bT;have hsl:(ci s cy .none .none).heap.IsSliceOf s.heap.objs.size cy .none .none:=Heap.IsSliceOf.new _ _ _ _;have h':∀ρ' s' d,Go X [] ρ (ci s cy .none .none) ρ' σ' s'->VR X ρ' s'.heap v d->Q d s':=fun ρ' s' d g r=>h _ _ _ (g0.trans g) r;have hops:∀o i,subscripted (.Slice lo none none p) false o i=operate [i,o] (getItem o i):=fun t t=>rfl;cases x with
 | tup vs=>cases y with
   | int i=>
     cases ry.isI with | mk u=>
     obtain⟨hc,e⟩:=oi e;cases sj e;obtain⟨a,cs,rfl,t1,r1⟩:=rx.tup_inv;obtain⟨n,rfl⟩:=Int.eq_ofNat_of_zero_le (Int.le_trans (by decide) hc.1)
     have t1':IsTup (ci s (.int n u) .none .none).heap a cs:=t1.keeps bT;obtain⟨g1,q⟩:=uM (aR:=ci s (.int n u) .none .none) (dw:=s) g0.inv g0.ext (r1.drop n);exact tail_any t1'.typeIs PySem.F.slot_tuple_getitem.lookup (getItem_tuple_from (a:=n) (u:=u) t1' hsl (Int.ofNat_le.mp hc.1) (r1.size▸Int.ofNat_le.mp hc.2.1) (h' _ _ _ g1 q) (room (r1.size▸hc.2.2))) (hops _ _)
   | _=>exact nn e
 | ref b=>cases y with
   | int i=>
     cases ry.isI with | mk u=>
     obtain⟨vs,q,e⟩:=tz e;obtain⟨hc,e⟩:=oi e;obtain⟨p',cs,n,hp,rfl,_,h1,r1,hz⟩:=rx.list_at I q;exact kG (lo:=some i) (hi:=none) (st:=none) g0.inv (bN (bT _ _ h1)) hsl (.int i u) .none .none (fun z=>by cases z) (r1.size▸hz) (by rw[yZ hc];exact(r1.drop _).ext g0.ext) e (hops _ _) h'
   | _=>exact nn e
 | _=>exact nn e
theorem td {a:Nat}{t:Tok}{st:_}(I:Inv X ρ σ s.heap)(rx:VR X ρ s.heap (.ref a) cx)(q:σ[a]?=some (.list vs))(e:dW σ vs.reverse=some (v,σ'))
 (h:∀ρ' s' d,Go X [] ρ s ρ' σ' s'->VR X ρ' s'.heap v d->Q d s'):
 wpAny (model X.prog X.w) A (subscriptTail value (.Slice none none (some st) p) cx (.ref s.heap.objs.size)) Q E (ci s .none .none (.int (-1) t)):=by
 have g0:Go X [] ρ s ρ σ (ci s .none .none (.int (-1) t)):=Go.grow I bT;have hsl:(ci s .none .none (.int (-1) t)).heap.IsSliceOf s.heap.objs.size .none .none (.int (-1) t):=Heap.IsSliceOf.new _ _ _ _;have h':∀ρ' s' d,Go X [] ρ (ci s .none .none (.int (-1) t)) ρ' σ' s'->VR X ρ' s'.heap v d->Q d s':=fun ρ' s' d g r=>h _ _ _ (g0.trans g) r;have hops:∀o i,subscripted (.Slice none none (some st) p) false o i=operate [o,i] (getItem o i):=fun y y=>rfl;obtain⟨p',cs,n,hp,rfl,_,h1,r1,hz⟩:=rx.list_at I q;exact kG (lo:=none) (hi:=none) (st:=some (-1)) g0.inv (bN (bT _ _ h1)) hsl .none .none (.int (-1) t) (by decide) (r1.size▸hz) (by rw[krv_pick];exact r1.reverse.ext g0.ext) e (hops _ _) h'
end
end
end
section
open PySem PySem.W PyProof.Rows
section
set_option genCtorIdx true in
inductive G where
 | fn (k:Nat) | cls (c:Nat) | ty (T:String) | bi (id:String) | int (i:Int) | tup (is:List Int)
noncomputable def Ae (X:Cx) (x:Str):G->Prop
 | .fn k=>X.mg x=some (.ref (X.fn k))
 | .cls c=>X.mg x=some (.ref (X.cls c))
 | .ty T=>X.mg x=none/\X.mb x=some (.type T)
 | .bi id=>X.mg x=none/\X.mb x=some (.builtin id)
 | .int i=>∃t,X.mg x=some (.int i t)
 | .tup is=>dU (fun a vs=>X.mg x=some (.ref a)) (fun a vs=>IsTup X.B a vs.toArray) (fun a vs=>IntsAre vs is)
structure fO (X:Cx) (gl:List (Str×G)):Prop where
 amb:DD X
 g:X.B.Ns mainGlobals X.mg
 b:X.B.Ns builtinsNs X.mb
 nolimit:X.B.NoLimit
 gl:∀x g,gl.lookup x=some g->Ae X x g
structure Nm where
 names:List (Str×NameKind)
 slots:List (Option Str)
noncomputable def s9 (env:Env) (a:Addr):Prop:=a=env.locals\/∃x,env.cells.lookup x=some a
noncomputable def ReadsAs (env:Env) (h:Heap) (x:Str) (c:Value):Prop:=
 (env.kindOf x=some .local/\bp (fun m=>h.Ns env.locals m) (fun m=>m x=some c))\/((env.kindOf x=some .cell\/env.kindOf x=some .free)/\bp (fun a=>env.cells.lookup x=some a) (fun a=>h.IsCell a (some c)))
structure b_ (X:Cx) (nm:Nm) (env:Env) (e:En) (ρ:dM) (h:Heap):Prop where
 kind:env.scope.kind=.function
 names:env.scope.names=nm.names
 gl:env.globals=mainGlobals
 bu:env.builtins=builtinsNs
 own:∀a,s9 env a->(∃o,h.get? a=some o)/\(∀p∈ρ,p.2≠a)/\X.B.get? a=none
 ns:∃m,h.Ns env.locals m
 cell:∀x a,env.cells.lookup x=some a->∃v,h.IsCell a v
 reads:∀ (k:Nat) (v:V) (x:Str),e[k]?=some (some v)->nm.slots[k]?=some (some x)->bp (fun c=>ReadsAs env h x c) (fun c=>VR X ρ h v c)
 len:e.length=nm.slots.length
 apart:∀x y a,env.cells.lookup x=some a->env.cells.lookup y=some a->x=y
 off:∀x,env.cells.lookup x≠some env.locals
 celled:∀x,nm.names.lookup x=some .cell\/nm.names.lookup x=some .free->∃a,env.cells.lookup x=some a
section
variable {a:Addr}{x:Str}{k:Nat}{σ:H}{c:Value}{Q:Unit->Shared->Prop}{m:Str->Option Value}{pos:Pos}
variable {X:Cx}{nm:Nm}{env:Env}{e:En}{ρ ρ':dM}{h h':Heap}{E:List Addr}
theorem b_.kindOf (V:b_ X nm env e ρ h)(x:Str):env.kindOf x=nm.names.lookup x:=by unfold Env.kindOf;rw[V.names]
theorem b_.same (V:b_ X nm env e ρ h)(x:dY E ρ ρ' h h')(hE:∀a∈E,¬s9 env a)(ha:s9 env a):h'.get? a=h.get? a:=by obtain⟨⟨o,ho⟩,hp,hB⟩:=V.own a ha;rw[ho,x.keep a o ho hp fun z=>hE a z ha]
theorem tA (k:∀o,h.get? a=some o->h'.get? a=some o)(z:h.Ns a m):h'.Ns a m:=z.imp fun o z=>z.imp fun y z=>z.imp fun y z=>⟨k o z.1,z.2⟩
theorem sR {v:Option Value}(k:∀o,h.get? a=some o->h'.get? a=some o)(z:h.IsCell a v):h'.IsCell a v:=z.imp fun o z=>⟨k o z.1,z.2⟩
theorem b_.map (V:b_ X nm env e ρ h)(hp:ρ<+:ρ')(hi:∀a o,h.get? a=some o->rJ o->h'.get? a=some o)(kp:∀a,s9 env a->∀o,h.get? a=some o->h'.get? a=some o)(hn:∀a,s9 env a->∀p∈ρ',p.2≠a):b_ X nm env e ρ' h':=
 ⟨V.kind,V.names,V.gl,V.bu,fun a ha=>⟨(V.own a ha).1.imp fun o=>kp a ha o,hn a ha,(V.own a ha).2.2⟩,V.ns.imp fun m=>tA (kp _ (.inl rfl)),fun n a hn=>(V.cell n a hn).imp fun v=>sR (kp _ (.inr ⟨n,hn⟩)),
  fun k v n hk hs=>(V.reads k v n hk hs).map (fun c z=>z.imp (fun r=>⟨r.1,r.2.map (fun m=>tA (kp _ (.inl rfl))) fun x y=>y⟩) (fun r=>⟨r.1,r.2.elim fun a y=>⟨a,y.1,sR (kp _ (.inr ⟨n,y.1⟩)) y.2⟩⟩)) (fun c z=>z.map hp hi),V.len,V.apart,V.off,V.celled⟩
theorem b_.ext (V:b_ X nm env e ρ h)(x:dY E ρ ρ' h h')(hE:∀a∈E,¬s9 env a):b_ X nm env e ρ' h':=
 V.map x.pre x.imm (fun a ha o q=>x.keep a o q (V.own a ha).2.1 fun z=>hE a z ha) fun a ha p hp z=>(x.new p hp).elim (fun q=>(V.own a ha).2.1 p q z) fun q=>(V.own a ha).1.elim fun o ho=>nn ((q.symm.trans (ag _ z)).trans ho)
theorem b_.go {s s':Shared}{σ':H}(V:b_ X nm env e ρ s.heap)(g:Go X [] ρ s ρ' σ' s'):b_ X nm env e ρ' s'.heap:=V.ext g.ext fun a z=>nomatch z
noncomputable def eM (x:Str):Bool:= !(x==("__debug__" :Str))&& !(x==("__classdict__" :Str))
variable {s:Shared}{A:Around}{E':Value->Shared->Prop}
theorem wu {v:V}{Q:Value->Shared->Prop}(V:b_ X nm env e ρ s.heap)(hk:e[k]?=some (some v))(hs:nm.slots[k]?=some (some x))(hx:eM x=true)
 (h:∀c,VR X ρ s.heap v c->Q c s):wpAny (model X.prog X.w) A (eval (.Name x pos) env) Q E' s:=by
 unfold eM at hx;simp only[Bool.and_eq_true,Bool.not_eq_true'] at hx;obtain⟨c,hr,rv⟩:=V.reads k v x hk hs;refine wpAny_Name ?_ hx.1;rcases hr with⟨hl,m,hn,hm⟩ | ⟨hc | hc,a,ha,hv⟩
 ·exact wpAny_loadName_local V.kind hl hn hm (h c rv)
 ·exact wpAny_loadName_cell V.kind hc ha hv (h c rv)
 ·exact wpAny_loadName_free V.kind hc ha hv (h c rv) hx.2
theorem uB {h:Heap}:∀ {vs:List Value} {is:List Int},IntsAre vs is->cp X ρ h (is.map Mine.V.int) vs:=by
 intro vs is hi
 induction hi with
 | nil=>exact .nil
 | cons n t _ ih=>exact .cons (.int n t) ih
theorem nB {gl:List (Str×G)}{g:G}{Q:Value->Shared->Prop}(W:fO X gl)(I:Inv X ρ σ s.heap)(V:b_ X nm env e ρ s.heap)(hk:nm.names.lookup x=some .globalImplicit)(hg:gl.lookup x=some g)(hx:eM x=true)
 (h:∀c,(match g with
  | .fn k=>c=.ref (X.fn k)
  | .cls k=>c=.ref (X.cls k)
  | .ty T=>c=.type T
  | .bi id=>c=.builtin id
  | .int i=>VR X ρ s.heap (.int i) c
  | .tup is=>VR X ρ s.heap (.tup (is.map Mine.V.int)) c)->Q c s):wpAny (model X.prog X.w) A (eval (.Name x pos) env) Q E' s:=by
 unfold eM at hx;simp only[Bool.and_eq_true,Bool.not_eq_true'] at hx;refine PySem.Calls.Name_function_global V.kind ((V.kindOf x).trans hk) ?_ hx.1;have G1:s.heap.Ns env.globals X.mg:=by rw[V.gl];exact W.g.keeps fun a o q=>I.base a o q
 have G2:s.heap.Ns env.builtins X.mb:=by rw[V.bu];exact W.b.keeps fun a o q=>I.base a o q
 have ok:=W.gl x g hg;cases g with
 | fn k=>exact PySem.Calls.loadGlobal_global G1 ok (h _ rfl)
 | cls k=>exact PySem.Calls.loadGlobal_global G1 ok (h _ rfl)
 | ty T=>exact PySem.Calls.loadGlobal_builtin G1 ok.1 G2 ok.2 (h _ rfl)
 | bi T=>exact PySem.Calls.loadGlobal_builtin G1 ok.1 G2 ok.2 (h _ rfl)
 | int i=>obtain⟨t,ht⟩:=ok;exact PySem.Calls.loadGlobal_global G1 ht (h _ (.int i t))
 | tup is=>
   obtain⟨a,vs,ha,ht,hi⟩:=ok;refine PySem.Calls.loadGlobal_global G1 ha (h _ (.tup (cs:=vs.toArray) ?_ ?_))
   ·obtain⟨o,ho,r⟩:=ht;exact⟨o,I.base a o ho,r⟩
   ·rw[List.toList_toArray]
    clear ha ht h hg
    exact uB hi
noncomputable def dQ (nm:Nm) (k:Nat) (x:Str):Bool:=nm.slots.zipIdx.all fun p=>p.2==k || p.1 != some x
theorem qc {j:Nat}{y:Str}(ho:dQ nm k x=true)(hj:nm.slots[j]?=some (some y))(hjk:j≠k):y≠x:=fun z=>by unfold dQ at ho;have:=List.all_eq_true.mp ho (some y,j) (List.mem_zipIdx_iff_getElem?.mpr hj);simp[hjk,z] at this
noncomputable def gx (env:Env):List Addr:=env.locals::env.cells.map fun p=>(env.cells.lookup p.1).getD env.locals
theorem um {env:Env}(h:s9 env a):a∈gx env:=by
 rcases h with rfl | ⟨x,hx⟩
 ·exact aK
 ·refine aP _ (List.mem_map.mpr ⟨(x,a),mem_of_lookup hx,?_⟩)
  show(env.cells.lookup x).getD env.locals=a
  rw[hx];rfl
theorem qR {env:Env}(h:a∈gx env):s9 env a:=by
 rcases a_ h with rfl | h
 ·exact .inl rfl
 ·obtain⟨⟨x,b⟩,hx,e⟩:=List.mem_map.mp h
  cases q:env.cells.lookup x with
  | none=>rw[q] at e;exact .inl e.symm
  | some c=>rw[q] at e;exact .inr ⟨x,by rw[q];exact ag some e⟩
theorem dY.own {ρ:dM}{h h':Heap}{E:List Addr}(ha:a∈E)(hs:Heap.SameBut a h h')(hl:∃o',h'.get? a=some o')(hn:∀o,h.get? a=some o->¬rJ o):dY E ρ ρ h h':=
 dY.put (fun b o hb e=>(hs.2 b hb).trans e) hl hn fun y z=>z ha
theorem Inv.own (I:Inv X ρ σ h)(x:dY E ρ ρ h h')(hs:Heap.SameBut a h h')(hp:∀p∈ρ,p.2≠a)(hB:X.B.get? a=none):Inv X ρ σ h':=
 I.ext x (fun p q=>hs.2 _ (hp p q)) fun b o q=>(hs.2 b (fun z=>by rw[z,hB] at q;cases q)).trans (I.base b o q)
theorem Bm {m':Str->Option Value}(p:h.Ns a m)(q:h.Ns a m'):m=m':=by obtain⟨o1,es1,ep1,q1,q2,_,q3⟩:=p;obtain⟨o2,es2,ep2,r1,r2,_,r3⟩:=q;cases sj (q1.symm.trans r1);cases(Data.dict.inj (q2.symm.trans r2)).1;exact funext fun y=>(q3 y).symm.trans (r3 y)
theorem jf {v:V}(V:b_ X nm env e ρ s.heap)(I:Inv X ρ σ s.heap)(hs:nm.slots[k]?=some (some x))(hk:nm.names.lookup x=some .local)
 (ho:dQ nm k x=true) (rv:VR X ρ s.heap v c)
 (h:∀s',Go X [env.locals] ρ s ρ σ s'->b_ X nm env (e.set k (some v)) ρ s'.heap->Q () s'):wpAny (model X.prog X.w) A (bindName env x c) Q E' s:=by
 have hlen:k<e.length:=by rw[V.len];exact(bP hs).1
 refine wpAny_bindName ?_;obtain⟨m,hm⟩:=V.ns;refine wpAny_storeName_local ((V.kindOf x).trans hk) hm (fun h' hn' hsb=> ?_) (by rw[V.kind];rfl)
 obtain⟨hal,hp,hB⟩:=V.own env.locals (.inl rfl);have x1:dY ([env.locals]) ρ ρ s.heap h':=dY.own (List.mem_singleton.mpr rfl) hsb (hn'.imp fun t z=>z.elim fun t z=>z.elim fun t z=>z.1) fun o q hi=>hm.elim fun o' z=>z.elim fun t z=>z.elim fun t z=>hi.2.1 _ _ (sj (q.symm.trans z.1)▸z.2.1);have I':Inv X ρ σ h':=I.own x1 hsb hp hB;refine h _ ⟨I',x1,rfl,rfl⟩ ?_;refine⟨V.kind,V.names,V.gl,V.bu,fun a ha=> ?_,⟨_,hn'⟩,fun y a ha=> ?_,fun j u y hj hy=> ?_,by rw[List.length_set];exact V.len,V.apart,V.off,V.celled⟩
 ·exact⟨(V.own a ha).1.elim (x1.alive a),(V.own a ha).2⟩
 ·exact(V.cell y a ha).imp fun w hw=>hw.sameBut hsb fun z=>V.off y (z▸ha)
 ·by_cases hjk:j=k
  ·subst hjk
   cases sj (sj (hs.symm.trans hy));cases sj (sj ((List.getElem?_set_self hlen).symm.trans hj));exact⟨c,.inl ⟨(V.kindOf x).trans hk,_,hn',by simp⟩,rv.ext x1⟩
  ·rw[List.getElem?_set_ne (Ne.symm hjk)] at hj
   obtain⟨d,hr,rd⟩:=V.reads j u y hj hy;refine⟨d,?_,rd.ext x1⟩;rcases hr with⟨hl,m',hm',hd⟩ | ⟨hc,a,ha,hw⟩
   ·exact .inl ⟨hl,_,hn',(au (qc ho hy hjk)).trans ((congrFun (Bm hm hm') y).trans hd)⟩
   ·exact .inr ⟨hc,a,ha,hw.sameBut hsb fun z=>V.off y (z▸ha)⟩
theorem wt {v:V}(V:b_ X nm env e ρ s.heap)(I:Inv X ρ σ s.heap)(hs:nm.slots[k]?=some (some x))(hk:nm.names.lookup x=some .cell)(ha:env.cells.lookup x=some a)
 (ho:dQ nm k x=true) (rv:VR X ρ s.heap v c)
 (h:∀s',Go X [a] ρ s ρ σ s'->b_ X nm env (e.set k (some v)) ρ s'.heap->Q () s'):wpAny (model X.prog X.w) A (bindName env x c) Q E' s:=by
 have hlen:k<e.length:=by rw[V.len];exact(bP hs).1
 refine wpAny_bindName ?_;obtain⟨w,hw⟩:=V.cell x a ha;refine wpAny_storeName_cell V.kind ((V.kindOf x).trans hk) ha hw fun h' hn' hsb=> ?_;obtain⟨hal,hp,hB⟩:=V.own a (.inr ⟨x,ha⟩);have x1:dY ([a]) ρ ρ s.heap h':=dY.own (List.mem_singleton.mpr rfl) hsb (hn'.imp fun t z=>z.1) fun o q hi=>hw.elim fun o' z=>hi.2.2 _ (sj (q.symm.trans z.1)▸z.2);have I':Inv X ρ σ h':=I.own x1 hsb hp hB;have hloc:a≠env.locals:=fun z=>V.off x (z▸ha);refine h _ ⟨I',x1,rfl,rfl⟩ ?_;refine⟨V.kind,V.names,V.gl,V.bu,fun b hb=> ?_,?_,fun y b hb=> ?_,fun j u y hj hy=> ?_,by rw[List.length_set];exact V.len,V.apart,V.off,V.celled⟩
 ·exact⟨(V.own b hb).1.elim (x1.alive b),(V.own b hb).2⟩
 ·exact V.ns.imp fun m hm=>hm.sameBut hsb (Ne.symm hloc)
 ·by_cases hba:b=a
  ·subst hba;exact⟨_,hn'⟩
  ·obtain⟨w',hw'⟩:=V.cell y b hb
   exact⟨w',hw'.sameBut hsb hba⟩
 ·by_cases hjk:j=k
  ·subst hjk
   cases sj (sj (hs.symm.trans hy));cases sj (sj ((List.getElem?_set_self hlen).symm.trans hj));exact⟨c,.inr ⟨.inl ((V.kindOf x).trans hk),a,ha,hn'⟩,rv.ext x1⟩
  ·rw[List.getElem?_set_ne (Ne.symm hjk)] at hj
   obtain⟨d,hr,rd⟩:=V.reads j u y hj hy;refine⟨d,?_,rd.ext x1⟩;have hne:=qc ho hy hjk;rcases hr with⟨hl,m',hm',hd⟩ | ⟨hc,b,hb,hw'⟩
   ·exact .inl ⟨hl,m',hm'.sameBut hsb (Ne.symm hloc),hd⟩
   ·exact .inr ⟨hc,b,hb,hw'.sameBut hsb fun z=>hne (V.apart y x a (z▸hb) ha)⟩
theorem qx {v:V}(V:b_ X nm env e ρ s.heap)(I:Inv X ρ σ s.heap)(hs:nm.slots[k]?=some (some x))(hk:nm.names.lookup x=some .local\/nm.names.lookup x=some .cell)
 (ho:dQ nm k x=true) (rv:VR X ρ s.heap v c)
 (h:∀s',Go X (gx env) ρ s ρ σ s'->b_ X nm env (e.set k (some v)) ρ s'.heap->Q () s'):wpAny (model X.prog X.w) A (bindName env x c) Q E' s:=by
 rcases hk with hk | hk
 ·exact jf V I hs hk ho rv fun s' g V'=>h s' (g.mono fun a ha=>by rw[aB ha];exact aK) V'
 ·obtain⟨a,ha⟩:=V.celled x (.inl hk)
  exact wt V I hs hk ha ho rv fun s' g V'=>h s' (g.mono fun b hb=>by rw[aB hb];exact um (.inr ⟨x,ha⟩)) V'
end
end
end
section
open PySem PySem.W PyProof.Rows
variable {env:Env}{n:Str}{e a:Expr}{es:List Expr}{pos:Pos}
section
noncomputable def cH (e:Expr):Bool:= !(Nat.beq e.ctorIdx 22)
theorem ff {p:Prop}(h:false=true):p:=Bool.noConfusion h
theorem f_ (h:cH e=true):starEach (e::es) env=(false,eval e env)::starEach es env:=by cases e<;>first | rfl | exact ff h
theorem eF (h:cH e=true):starEach [e] env=[(false,eval e env)]:=f_ h
theorem gJ {t:Expr}{ts:List Expr}(h:cH t=true):assignEach (t::ts) env=(false,assign t env)::assignEach ts env:=by cases t<;>first | rfl | exact ff h
theorem wK (h:es.all cH=true):(starEach es env).all (fun x=> !x.1)=true:=by
 induction es with
 | nil=>rfl
 | cons e es ih=>
   obtain⟨h1,h2⟩:=Bool.and_eq_true_iff.mp h;rw[f_ h1];exact ih h2
noncomputable def jW (e:Expr):Bool:= !(Nat.beq e.ctorIdx 16)
theorem pc {whole:Sem Value}(h:jW a=true):attributeBase a n env whole=whole:=by cases a<;>first | rfl | exact ff h
theorem qm (h:jW a=true):eval (.Attribute a n pos) env=(do let o<-eval a env;standAt pos.atName;let r<-holding [o] (getAttr o n true);letTemporaryGo a o r;pure r):=by
 show(do let o<-attributeBase a n env (eval a env);standAt pos.atName;let r<-holding [o] (getAttr o n true);letTemporaryGo a o r;pure r)=_
 rw[pc h]
noncomputable def ut (o:Expr) (args:List Expr) (apos pos:Pos):Bool:=jW o&&args.all cH&&decide (args.length<30)&&apos.endLine==pos.line
theorem vW {o:Expr}{apos:Pos}{args:List Expr}(h:ut o args apos pos=true):∃pl:Sem Bool,eval (.Call (.Attribute o n apos) args [] pos) env=(do
 let ov<-eval o env
 standAt apos.atName
 let (f,first)<-holding [ov] (getMethod ov n pl)
 callWith pos f first (backTo pos (starEach args env)) (backToKw pos (keywordEach [] env))):=by
 obtain⟨h,h4⟩:=Bool.and_eq_true_iff.mp h;obtain⟨h,h3⟩:=Bool.and_eq_true_iff.mp h;obtain⟨h1,h2⟩:=Bool.and_eq_true_iff.mp h;refine⟨(do return (<-importBound o env).getD true),?_⟩
 show(do
  let ov<-attributeBase o n env (eval o env)
  standAt apos.atName
  methodCall o n apos pos env ov (args.length+0) (backTo pos (starEach args env)) (backToKw pos (keywordEach [] env)))=_
 rw[pc h1]
 have hf:methodCallForm (args.length+0) (backTo pos (starEach args env)) (backToKw pos (keywordEach [] env))=true:=by
  unfold methodCallForm
  have:(backTo pos (starEach args env)).all (fun x=> !x.1)=true:=by unfold backTo;rw[List.all_map];exact wK h2
  rw[this];exact h3
 unfold methodCall;rw[hf]
 congr 1
 funext ov
 congr 1
 funext _
 unfold calleeOf methodCallPos;rw[h4];rfl
end
end
section
open PySem PySem.W PyProof.Rows
noncomputable abbrev eD:Value->Shared->Prop:=fun y y=>False
structure eX (X:Cx) (gl:List (Str×G)) (A:Around) (call:bV):Prop where
 W:fO X gl
 hh:A.handled=none
 room:A.units+40<cLine
 calls:∀k vs σ v σ' cs ρ s (Q:Value->Shared->Prop),call k vs σ=some (v,σ')->Inv X ρ σ s.heap->cp X ρ s.heap vs cs->
  (∀ρ' s' c,Go X [] ρ s ρ' σ' s'->VR X ρ' s'.heap v c->Q c s')->wpAny (model X.prog X.w) A (PySem.call (.ref (X.fn k)) cs) Q eD s
 keep:∀k,(∃x,gl.lookup x=some (.fn k))->keepIn X.K (.ref (X.fn k))=true
 news:∀c vs σ σ' cs ρ s (Q:Value->Shared->Prop),call c (.ref σ.length::vs) (σ++[.inst c []])=some (.none,σ')->c<2->Inv X ρ σ s.heap->cp X ρ s.heap vs cs->
  (∀ρ' s' d,Go X [] ρ s ρ' σ' s'->VR X ρ' s'.heap (.ref σ.length) d->Q d s')->wpAny (model X.prog X.w) A (PySem.call (.ref (X.cls c)) cs) Q eD s
 keepc:∀c,c<2->keepIn X.K (.ref (X.cls c))=true
section
variable {pos:Pos}{x y:Ex}{e a b l:Expr}{k:Nat}{ops:List CmpOp}{es:List Expr}{cs:Cs}{op:CmpOp}{o:Cn}
variable {X:Cx}{gl:List (Str×G)}{nm:Nm}{A:Around}{call:bV}
variable (X gl nm A call) in
structure Ev (e:Expr) (x:Ex):Prop where
 ok:eX X gl A call->∀ (env:Env) (en:En) (ρ:dM) (σ:H) (s:Shared) (v:V) (σ':H) (Q:Value->Shared->Prop),b_ X nm env en ρ s.heap->Inv X ρ σ s.heap->
 ax call x en σ=some (v,σ')->(∀ρ' s' c,Go X [] ρ s ρ' σ' s'->VR X ρ' s'.heap v c->Q c s')->wpAny (model X.prog X.w) A (eval e env) Q eD s
theorem Ev.of (H:eX X gl A call->∀ (env:Env) (en:En) (ρ:dM) (σ:H) (s:Shared) (Q:Value->Shared->Prop),b_ X nm env en ρ s.heap->Inv X ρ σ s.heap->∀r,ax call x en σ=some r->
 (∀ρ' s' c,Go X [] ρ s ρ' r.2 s'->VR X ρ' s'.heap r.1 c->Q c s')->wpAny (model X.prog X.w) A (eval e env) Q eD s):Ev X gl nm A call e x:=⟨fun Hh env en ρ σ s v σ' Q V I e h=>H Hh env en ρ σ s Q V I (v,σ') e h⟩
variable (X gl nm A call) in
structure Cd (e:Expr) (x:Ex):Prop where
 ok:eX X gl A call->∀ (env:Env) (en:En) (ρ:dM) (σ:H) (s:Shared) (v:V) (b:Bool) (σ':H) (Q:Bool->Shared->Prop),b_ X nm env en ρ s.heap->Inv X ρ σ s.heap->
 ax call x en σ=some (v,σ')->truthy σ' v=some b->(∀ρ' s',Go X [] ρ s ρ' σ' s'->Q b s')->wpAny (model X.prog X.w) A (isTrue e env (eval e env)) Q eD s
variable (X gl nm A call) in
structure Cm (es:List Expr) (xs:pU):Prop where
 plain:∀ (env:Env) (pos:Pos),(backTo pos (starEach es env)).any (·.1)=false
 ok:eX X gl A call->∀ (env:Env) (en:En) (ρ:dM) (σ:H) (s:Shared) (vs:List V) (σ':H) (pos:Pos) (Q:List Value->Shared->Prop),b_ X nm env en ρ s.heap->Inv X ρ σ s.heap->
  dg call xs en σ=some (vs,σ')->(∀ρ' s' cs,Go X [] ρ s ρ' σ' s'->cp X ρ' s'.heap vs cs->cs.length=es.length->Q cs s')->wpAny (model X.prog X.w) A (spliced (backTo pos (starEach es env))) Q eD s
variable (X gl nm A call) in
structure Ch (ops:List CmpOp) (es:List Expr) (cs:Cs):Prop where
 ok:eX X gl A call->∀ (env:Env) (en:En) (ρ:dM) (σ:H) (s:Shared) (x:V) (cx:Value) (b:Bool) (σ':H) (pos:Pos),b_ X nm env en ρ s.heap->Inv X ρ σ s.heap->VR X ρ s.heap x cx->
 jx call x cs en σ=some (b,σ')->(∀Q:Value->Shared->Prop,(∀ρ' s',Go X [] ρ s ρ' σ' s'->Q (.bool b) s')->wpAny (model X.prog X.w) A (compareChain pos cx ops (evalEach es env)) Q eD s)/\
  (∀Q:Bool->Shared->Prop,(∀ρ' s',Go X [] ρ s ρ' σ' s'->Q b s')->wpAny (model X.prog X.w) A (testChain pos cx ops (evalEach es env)) Q eD s)
theorem aa (k:Nat){x:Str}(hs:nm.slots[k]?=some (some x):=by exact rfl)(hx:eM x=true:=by exact rfl):Ev X gl nm A call (.Name x pos) (.var k):=.of fun Hh env en ρ σ s Q V I q9 e h=>by obtain⟨w,hw,e⟩:=As e;cases e;exact wu V hw hs hx fun c rv=>h ρ s c (Go.refl I) rv
theorem aV {x:Str}{g:G}{v:V}(hk:nm.names.lookup x=some .globalImplicit:=by exact rfl)(hg:gl.lookup x=some g:=by exact rfl)(hx:eM x=true:=by exact rfl)
 (hv:(match g with | .int i=>some (V.int i) | .tup is=>some (V.tup (is.map V.int)) | _=>none)=some v:=by exact rfl):Ev X gl nm A call (.Name x pos) (.lit v):=.of fun Hh env en ρ σ s Q V I q9 e h=>by
 cases sj e;refine nB Hh.W I V hk hg hx fun c hc=> ?_;cases g with
 | int i=>cases sj hv;exact h ρ s c (Go.refl I) hc
 | tup is=>cases sj hv;exact h ρ s c (Go.refl I) hc
 | _=>exact nn hv
theorem aX (i:Int):Ev X gl nm A call (.Constant (.int i) k pos) (.lit (.int i)):=.of fun Hh env en ρ σ s Q V I q9 e h=>by cases sj e;exact(show wpAny _ _ (constValue env (.int i)) _ _ s from wpAny_mkInt (h ρ _ _ (Go.toks I _) (.int i _)))
theorem bU (b:Bool):Ev X gl nm A call (.Constant (.bool b) k pos) (.lit (.bool b)):=.of fun Hh env en ρ σ s Q V I q9 e h=>by cases sj e;exact wpAny_Constant_bool (h ρ s _ (Go.refl I) (.bool b))
theorem oU:Ev X gl nm A call (.Constant .none k pos) (.lit .none):=.of fun Hh env en ρ σ s Q V I q9 e h=>by cases sj e;exact wpAny_Constant_none (h ρ s _ (Go.refl I) .none)
theorem jA:Ev X gl nm A call e .bad:=.mk fun Hh env en ρ σ s v' σ' Q V I e h=>nn e
theorem b8 {o:Operator}{op:Co}(ho:El op=o)(ha:Ev X gl nm A call a x)(hb:Ev X gl nm A call b y):Ev X gl nm A call (.BinOp a o b pos) (.bin op x y):=.of fun Hh env en ρ σ s Q V I q9 e h=>by
 subst ho;obtain⟨u,aQ,hu,e⟩:=ip e;obtain⟨w,σ₂,hw,e⟩:=ip e
 exact wpAny_BinOp (ha.ok Hh env en ρ σ s u aQ _ V I hu fun aT aR c aI bv=>hb.ok Hh env en aT aQ aR w σ₂ _ (V.go aI) aI.inv hw fun dA dw d aZ fg=>
  CL aZ.inv (bv.ext aZ.ext) fg e fun ρ' s' c' bZ nP=>h ρ' s' c' ((aI.trans aZ).trans bZ) nP)
theorem ft {p:Pos}{i:Int}:Ev X gl nm A call (.UnaryOp .USub (.Constant (.int i) k p) pos) (.neg (.lit (.int i))):=.of fun Hh env en ρ σ s Q V I q9 e h=>by cases sj e;refine wpAny_UnaryOp ((aX (nm:=nm) (call:=call) i).ok Hh env en ρ σ s (.int i) σ _ V I rfl fun aT aR c aI bv=> ?_);cases bv.isI;exact PyProof.Rows.neg_int (h _ _ _ (aI.trans (Go.toks aI.inv _)) (.int _ _))
theorem qo (ha:Ev X gl nm A call a x):Ev X gl nm A call (.UnaryOp .Not a pos) (.not x):=.of fun Hh env en ρ σ s Q V I q9 e h=>by obtain⟨u,aQ,hu,e⟩:=ip e;obtain⟨b,ht,e⟩:=om e;cases e;exact wpAny_UnaryOp (ha.ok Hh env en ρ σ s u _ _ V I hu fun aT aR c aI bv=>not_value (dH aI.inv bv ht fun s' aZ=>h _ _ _ (aI.trans aZ) (.bool _)))
theorem ku (ha:Cd X gl nm A call a x):Cd X gl nm A call (.UnaryOp .Not a pos) (.not x):=.mk fun Hh env en ρ σ s v b σ' Q V I e t h=>by obtain⟨u,aQ,hu,e⟩:=ip e;obtain⟨b',ht,e⟩:=om e;cases e;cases sj t;exact wpAny_isTrue_Not (ha.ok Hh env en ρ σ s u b' _ _ V I hu ht fun aT aR aI=>h _ _ aI)
theorem d9 (ha:Ev X gl nm A call e x)(he:∀env whole,isTrue e env whole=(do let v<-whole;standAt e.pos;holding [v] (PySem.truthy v))):Cd X gl nm A call e x:=.mk fun Hh env en ρ σ s v b σ' Q V I e t h=>
 wpAny_isTrue_value (ha.ok Hh env en ρ σ s v σ' _ V I e fun aT aR c aI bv=>dH aI.inv bv t fun s' aZ=>h _ _ (aI.trans aZ)) (he env _)
theorem eX.r9 (Hh:eX X gl A call):A.units+9<cLine:=Nat.lt_of_le_of_lt (Nat.add_le_add_left (by decide) _) Hh.room
theorem aE (ho:Ek o=op)(ha:Ev X gl nm A call e x):Ch X gl nm A call [op] [e] (.one o x):=.mk fun Hh env en ρ σ s u cu b σ' pos V I r e=>by
 subst ho;obtain⟨w,aQ,hw,e⟩:=ip e;obtain⟨c,hc,e⟩:=om e;cases e
 exact⟨fun Q h=>chain_last (ha.ok Hh env en ρ σ s w _ _ V I hw fun aT aR c aI bv=>pX aI.inv Hh.r9 (r.ext aI.ext) bv hc fun s' aZ=>h _ _ (aI.trans aZ)),
  fun Q h=>test_last (ha.ok Hh env en ρ σ s w _ _ V I hw fun aT aR c aI bv=>pX aI.inv Hh.r9 (r.ext aI.ext) bv hc fun s' aZ=>dH aZ.inv (.bool b) rfl fun s'' bZ=>h _ _ ((aI.trans aZ).trans bZ))⟩
theorem fB {op':CmpOp}{e':Expr}(ho:Ek o=op)(ha:Ev X gl nm A call e x)(hr:Ch X gl nm A call (op'::ops) (e'::es) cs):Ch X gl nm A call (op::op'::ops) (e::e'::es) (.more o x cs):=.mk fun Hh env en ρ σ s u cu b σ' pos V I r e=>by
 subst ho;obtain⟨w,aQ,hw,e⟩:=ip e;rcases vw e with⟨hc,e⟩ | ⟨hc,e⟩
 ·exact⟨fun Q h=>chain_link (ha.ok Hh env en ρ σ s w _ _ V I hw fun aT aR c aI bv=>pX aI.inv Hh.r9 (r.ext aI.ext) bv hc fun s' aZ=>dH aZ.inv (.bool true) rfl fun s'' bZ=>
   (hr.ok Hh env en aT aQ s'' w c b σ' pos (((V.go aI).go aZ).go bZ) bZ.inv (bv.ext (aZ.trans bZ).ext) e).1 Q fun ρ' z jn=>h _ _ (((aI.trans aZ).trans bZ).trans jn)),
   fun Q h=>test_link (ha.ok Hh env en ρ σ s w _ _ V I hw fun aT aR c aI bv=>pX aI.inv Hh.r9 (r.ext aI.ext) bv hc fun s' aZ=>dH aZ.inv (.bool true) rfl fun s'' bZ=>
    (hr.ok Hh env en aT aQ s'' w c b σ' pos (((V.go aI).go aZ).go bZ) bZ.inv (bv.ext (aZ.trans bZ).ext) e).2 Q fun ρ' z jn=>h _ _ (((aI.trans aZ).trans bZ).trans jn))⟩
 ·cases sj e
  exact⟨fun Q h=>chain_link (ha.ok Hh env en ρ σ s w _ _ V I hw fun aT aR c aI bv=>pX aI.inv Hh.r9 (r.ext aI.ext) bv hc fun s' aZ=>dH aZ.inv (.bool false) rfl fun s'' bZ=>h _ _ ((aI.trans aZ).trans bZ)),
   fun Q h=>test_link (ha.ok Hh env en ρ σ s w _ _ V I hw fun aT aR c aI bv=>pX aI.inv Hh.r9 (r.ext aI.ext) bv hc fun s' aZ=>dH aZ.inv (.bool false) rfl fun s'' bZ=>h _ _ ((aI.trans aZ).trans bZ))⟩
theorem bG (hm:lastMarks ops es=false)(ha:Ev X gl nm A call l x)(hc:Ch X gl nm A call ops es cs):Ev X gl nm A call (.Compare l ops es pos) (.cmp x cs):=.of fun Hh env en ρ σ s Q V I q9 e h=>by
 obtain⟨u,aQ,hu,e⟩:=ip e;obtain⟨p,hb,e⟩:=om e;obtain⟨b,σ₂⟩:=p;cases e
 show wpAny _ A (do compareChain pos (<-eval l env) ops (markedEach ops es (evalEach es env))) Q eD s
 rw[markedEach_of_false _ _ _ hm];exact aq (ha.ok Hh env en ρ σ s u aQ _ V I hu fun aT aR c aI bv=>(hc.ok Hh env en aT aQ aR u c b _ pos (V.go aI) aI.inv bv hb).1 Q fun ρ' s' aZ=>h _ _ _ (aI.trans aZ) (.bool b))
theorem be (hm:lastMarks ops es=false)(ha:Ev X gl nm A call l x)(hc:Ch X gl nm A call ops es cs):Cd X gl nm A call (.Compare l ops es pos) (.cmp x cs):=.mk fun Hh env en ρ σ s v b' σ' Q V I e t h=>by
 obtain⟨u,aQ,hu,e⟩:=ip e;obtain⟨p,hb,e⟩:=om e;obtain⟨b,σ₂⟩:=p;cases e;cases sj t
 show wpAny _ A (do testChain pos (<-eval l env) ops (markedEach ops es (evalEach es env))) Q eD s
 rw[markedEach_of_false _ _ _ hm];exact aq (ha.ok Hh env en ρ σ s u aQ _ V I hu fun aT aR c aI bv=>(hc.ok Hh env en aT aQ aR u c _ _ pos (V.go aI) aI.inv bv hb).2 Q fun ρ' s' aZ=>h _ _ (aI.trans aZ))
theorem sO {c:Expr}{z:Ex}(hc:Cd X gl nm A call c z)(ha:Ev X gl nm A call a x)(hb:Ev X gl nm A call b y):Ev X gl nm A call (.IfExp c a b pos) (.ite z x y):=.of fun Hh env en ρ σ s Q V I q9 e h=>by
 obtain⟨u,aQ,hu,e⟩:=ip e;rcases vw e with⟨ht,e⟩ | ⟨ht,e⟩
 ·exact wpAny_IfExp (hc.ok Hh env en ρ σ s u true aQ _ V I hu ht fun aT aR aI=>ha.ok Hh env en aT aQ aR q9.1 q9.2 Q (V.go aI) aI.inv e fun ρ' s' c aZ r=>h _ _ _ (aI.trans aZ) r)
 ·exact wpAny_IfExp (hc.ok Hh env en ρ σ s u false aQ _ V I hu ht fun aT aR aI=>hb.ok Hh env en aT aQ aR q9.1 q9.2 Q (V.go aI) aI.inv e fun ρ' s' c aZ r=>h _ _ _ (aI.trans aZ) r)
end
end
section
open PySem PySem.W PyProof.Rows
section
variable {pos p:Pos}{x y:Ex}{es:List Expr}{xs:pU}{a e i e':Expr}{f:Str}{k c:Nat}{ρ:dM}{σ:H}{s:Shared}
variable {X:Cx}{gl:List (Str×G)}{nm:Nm}{A:Around}{call:bV}
variable (X gl nm A call) in
structure yv (es:List Expr) (xs:pU):Prop where
 ok:eX X gl A call->∀ (env:Env) (en:En) (ρ:dM) (σ:H) (s:Shared) (v:V) (σ':H) (pos:Pos),b_ X nm env en ρ s.heap->Inv X ρ σ s.heap->
 gG call xs en σ=some (v,σ')->
 (∀Q:Value->Shared->Prop,(∀ρ' s' c,Go X [] ρ s ρ' σ' s'->VR X ρ' s'.heap v c->Q c s')->wpAny (model X.prog X.w) A (eval (.BoolOp .And es pos) env) Q eD s)/\
 (∀b (Q:Bool->Shared->Prop) (whole:Sem Value),truthy σ' v=some b->(∀ρ' s',Go X [] ρ s ρ' σ' s'->Q b s')->wpAny (model X.prog X.w) A (isTrue (.BoolOp .And es pos) env whole) Q eD s)
variable (X gl nm A call) in
structure Dp (es:List Expr) (xs:pU):Prop where
 ok:eX X gl A call->∀ (env:Env) (en:En) (ρ:dM) (σ:H) (s:Shared) (v:V) (σ':H) (pos:Pos),b_ X nm env en ρ s.heap->Inv X ρ σ s.heap->
 jw call xs en σ=some (v,σ')->
 (∀Q:Value->Shared->Prop,(∀ρ' s' c,Go X [] ρ s ρ' σ' s'->VR X ρ' s'.heap v c->Q c s')->wpAny (model X.prog X.w) A (eval (.BoolOp .Or es pos) env) Q eD s)/\
 (∀b (Q:Bool->Shared->Prop) (whole:Sem Value),truthy σ' v=some b->(∀ρ' s',Go X [] ρ s ρ' σ' s'->Q b s')->wpAny (model X.prog X.w) A (isTrue (.BoolOp .Or es pos) env whole) Q eD s)
theorem cU (ha:Ev X gl nm A call e x)(hc:Cd X gl nm A call e x):yv X gl nm A call [e] (.cons x .nil):=.mk fun Hh env en ρ σ s v σ' pos V I e=>by
 refine⟨fun Q h=>BoolOp_one (ha.ok Hh env en ρ σ s v σ' Q V I e h),fun b Q whole t h=>isTrue_and (hc.ok Hh env en ρ σ s v b σ' _ V I e t fun ρ' s' g=> ?_)⟩;cases b
 ·exact h _ _ g
 ·exact isTrue_and_nil (h _ _ g)
theorem cC (ha:Ev X gl nm A call e x)(hc:Cd X gl nm A call e x)(hr:yv X gl nm A call (e'::es) (.cons y xs)):yv X gl nm A call (e::e'::es) (.cons x (.cons y xs)):=.mk fun Hh env en ρ σ s v σ' pos V I e=>by
 obtain⟨u,aQ,hu,e⟩:=ip e;rcases vw e with⟨ht,e⟩ | ⟨ht,e⟩
 ·exact⟨fun Q h=>BoolOp_and (ha.ok Hh env en ρ σ s u aQ _ V I hu fun aT aR c aI bv=>dH aI.inv bv ht fun s' aZ=>(hr.ok Hh env en aT aQ s' v σ' pos ((V.go aI).go aZ) aZ.inv e).1 Q fun ρ' z c bZ r=>h _ _ _ ((aI.trans aZ).trans bZ) r),
   fun b Q whole t h=>isTrue_and (hc.ok Hh env en ρ σ s u true aQ _ V I hu ht fun aT aR aI=>(hr.ok Hh env en aT aQ aR v σ' pos (V.go aI) aI.inv e).2 b Q whole t fun ρ' z bZ=>h _ _ (aI.trans bZ))⟩
 ·cases sj e
  exact⟨fun Q h=>BoolOp_and (ha.ok Hh env en ρ σ s _ _ _ V I hu fun aT aR c aI bv=>dH aI.inv bv ht fun s' aZ=>h _ _ _ (aI.trans aZ) (bv.ext aZ.ext)),
   fun b Q whole t h=>isTrue_and (hc.ok Hh env en ρ σ s _ false _ _ V I hu ht fun aT aR aI=>by cases sj (ht.symm.trans t);exact h _ _ aI)⟩
theorem ez (ha:Ev X gl nm A call e x)(hc:Cd X gl nm A call e x):Dp X gl nm A call [e] (.cons x .nil):=.mk fun Hh env en ρ σ s v σ' pos V I e=>by
 refine⟨fun Q h=>BoolOp_one (ha.ok Hh env en ρ σ s v σ' Q V I e h),fun b Q whole t h=>isTrue_or (hc.ok Hh env en ρ σ s v b σ' _ V I e t fun ρ' s' g=> ?_)⟩;cases b
 ·exact isTrue_or_nil (h _ _ g)
 ·exact h _ _ g
theorem c_ (ha:Ev X gl nm A call e x)(hc:Cd X gl nm A call e x)(hr:Dp X gl nm A call (e'::es) (.cons y xs)):Dp X gl nm A call (e::e'::es) (.cons x (.cons y xs)):=.mk fun Hh env en ρ σ s v σ' pos V I e=>by
 obtain⟨u,aQ,hu,e⟩:=ip e;rcases vw e with⟨ht,e⟩ | ⟨ht,e⟩
 ·cases sj e
  exact⟨fun Q h=>BoolOp_or (ha.ok Hh env en ρ σ s _ _ _ V I hu fun aT aR c aI bv=>dH aI.inv bv ht fun s' aZ=>h _ _ _ (aI.trans aZ) (bv.ext aZ.ext)),
   fun b Q whole t h=>isTrue_or (hc.ok Hh env en ρ σ s _ true _ _ V I hu ht fun aT aR aI=>by cases sj (ht.symm.trans t);exact h _ _ aI)⟩
 ·exact⟨fun Q h=>BoolOp_or (ha.ok Hh env en ρ σ s u aQ _ V I hu fun aT aR c aI bv=>dH aI.inv bv ht fun s' aZ=>(hr.ok Hh env en aT aQ s' v σ' pos ((V.go aI).go aZ) aZ.inv e).1 Q fun ρ' z c bZ r=>h _ _ _ ((aI.trans aZ).trans bZ) r),
   fun b Q whole t h=>isTrue_or (hc.ok Hh env en ρ σ s u false aQ _ V I hu ht fun aT aR aI=>(hr.ok Hh env en aT aQ aR v σ' pos (V.go aI) aI.inv e).2 b Q whole t fun ρ' z bZ=>h _ _ (aI.trans bZ))⟩
theorem xX (h:yv X gl nm A call es xs):Ev X gl nm A call (.BoolOp .And es pos) (.and xs):=.of fun Hh env en ρ σ s Q V I q9 e hq=>by exact(h.ok Hh env en ρ σ s q9.1 q9.2 pos V I e).1 Q hq
theorem fW (h:yv X gl nm A call es xs):Cd X gl nm A call (.BoolOp .And es pos) (.and xs):=.mk fun Hh env en ρ σ s v b σ' Q V I e t hq=>by exact(h.ok Hh env en ρ σ s v σ' pos V I e).2 b Q _ t hq
theorem Dj (h:Dp X gl nm A call es xs):Ev X gl nm A call (.BoolOp .Or es pos) (.or xs):=.of fun Hh env en ρ σ s Q V I q9 e hq=>by exact(h.ok Hh env en ρ σ s q9.1 q9.2 pos V I e).1 Q hq
theorem lJ (h:Dp X gl nm A call es xs):Cd X gl nm A call (.BoolOp .Or es pos) (.or xs):=.mk fun Hh env en ρ σ s v b σ' Q V I e t hq=>by exact(h.ok Hh env en ρ σ s v σ' pos V I e).2 b Q _ t hq
theorem aA:Cm X gl nm A call [] .nil:=⟨fun y y=>rfl,fun Hh env en ρ σ s vs σ' pos Q V I e h=>by cases sj e;exact wpAny_items_nil (h ρ s [] (Go.refl I) .nil rfl)⟩
theorem af (ha:Ev X gl nm A call e x)(hr:Cm X gl nm A call es xs)(hn:cH e=true:=by exact rfl):Cm X gl nm A call (e::es) (.cons x xs):=
 ⟨fun env pos=>by rw[f_ hn];show(false || _)=false;rw[Bool.false_or];exact hr.plain env pos,fun Hh env en ρ σ s vs σ' pos Q V I ev h=>by obtain⟨u,aQ,hu,ev⟩:=ip ev;obtain⟨us,σ₂,hus,ev⟩:=mY ev;cases sj ev;exact wpAny_items_cons (ha.ok Hh env en ρ σ s u aQ _ V I hu fun aT aR c aI bv=>hr.ok Hh env en aT aQ aR us _ pos _ (V.go aI) aI.inv hus fun ρ' s' cs aZ rs hl=>h _ _ _ (aI.trans aZ) (.cons (bv.ext aZ.ext) rs) (ag (· +1) hl)) (f_ hn)⟩
theorem bY (hl:es.length≤1000000)(h:Cm X gl nm A call es xs):Ev X gl nm A call (.Tuple es k pos) (.tup xs):=.of fun Hh env en ρ σ s Q V I q9 e hq=>by
 obtain⟨vs,aQ,hv,e⟩:=mY e;cases e
 show wpAny _ A (do standAt pos;newTuple (<-spliced (backTo pos (starEach es env)))) Q eD s
 refine aq (wpAny_standAt (aq (h.ok Hh env en ρ σ s vs _ pos _ V I hv fun aT aR cs aI rs hl'=> ?_)));exact te aI.inv (by lia) rs fun s' c aZ r=>hq _ _ _ (aI.trans aZ) r
theorem bw (h:Cm X gl nm A call es xs):Ev X gl nm A call (.List es pos) (.list xs):=.of fun Hh env en ρ σ s Q V I q9 e hq=>by
 obtain⟨vs,aQ,hv,e⟩:=mY e
 show wpAny _ A (do standAt pos;newList (<-spliced (backTo pos (starEach es env)))) Q eD s
 refine aq (wpAny_standAt (aq (h.ok Hh env en ρ σ s vs _ pos _ V I hv fun aT aR cs aI rs hl'=> ?_)));exact u_ aI.inv e rs fun ρ' s' c aZ r=>hq _ _ _ (aI.trans aZ) r
theorem bM (hs:∀o k,subscripted i false o k=operate [o,k] (getItem o k))(ha:Ev X gl nm A call a x)(hi:Ev X gl nm A call i y):Ev X gl nm A call (.Subscript a i pos) (.sub x y):=.of fun Hh env en ρ σ s Q V I q9 e h=>by obtain⟨u,aQ,hu,e⟩:=ip e;obtain⟨w,σ₂,hw,e⟩:=ip e;obtain⟨z,hz,e⟩:=om e;cases e;refine Subscript_ (ha.ok Hh env en ρ σ s u aQ _ V I hu fun aT aR c aI bv=>hi.ok Hh env en aT aQ aR w _ _ (V.go aI) aI.inv hw fun dA dw d aZ fg=> ?_);exact AX hs aZ.inv (bv.ext aZ.ext) fg hz fun s' c' bZ nP=>h _ _ _ ((aI.trans aZ).trans bZ) nP
theorem jS (ha:Ev X gl nm A call a x)(hi:Ev X gl nm A call i y):Ev X gl nm A call (.Subscript a (.Slice .none (some i) .none p) pos) (.sliceTo x y):=.of fun Hh env en ρ σ s Q V I q9 e h=>by obtain⟨u,aQ,hu,e⟩:=ip e;obtain⟨w,σ₂,hw,e⟩:=ip e;refine Subscript_ (ha.ok Hh env en ρ σ s u aQ _ V I hu fun aT aR c aI bv=> ?_);refine wpAny_Slice (aL (hi.ok Hh env en aT aQ aR w _ _ (V.go aI) aI.inv hw fun dA dw d aZ fg=>aL ?_));exact u7 aZ.inv (bv.ext aZ.ext) fg e fun ρ' s' c' bZ nP=>h _ _ _ ((aI.trans aZ).trans bZ) nP
theorem jz (ha:Ev X gl nm A call a x)(hi:Ev X gl nm A call i y):Ev X gl nm A call (.Subscript a (.Slice (some i) .none .none p) pos) (.sliceFrom x y):=.of fun Hh env en ρ σ s Q V I q9 e h=>by obtain⟨u,aQ,hu,e⟩:=ip e;obtain⟨w,σ₂,hw,e⟩:=ip e;refine Subscript_ (ha.ok Hh env en ρ σ s u aQ _ V I hu fun aT aR c aI bv=> ?_);refine wpAny_Slice (hi.ok Hh env en aT aQ aR w _ _ (V.go aI) aI.inv hw fun dA dw d aZ fg=>aL (aL ?_));exact rT aZ.inv (bv.ext aZ.ext) fg e fun ρ' s' c' bZ nP=>h _ _ _ ((aI.trans aZ).trans bZ) nP
theorem tP {p1 p2:Pos}(ha:Ev X gl nm A call a x):Ev X gl nm A call (.Subscript a (.Slice .none .none (some (.UnaryOp .USub (.Constant (.int 1) k p1) p2)) p) pos) (.sliceRev x):=.of fun Hh env en ρ σ s Q V I q9 e h=>by obtain⟨u,aQ,hu,e⟩:=n6 e;obtain⟨vs,hvs,e⟩:=tz e;refine Subscript_ (ha.ok Hh env en ρ σ s _ aQ _ V I hu fun aT aR c aI bv=> ?_);refine wpAny_Slice (aL (aL ?_));refine(ft (nm:=nm) (call:=call) (i:=1)).ok Hh env en aT aQ aR (.int (-1)) aQ _ (V.go aI) aI.inv rfl fun dA dw d aZ fg=> ?_;obtain⟨t,rfl⟩:=fg.int_inv;exact td aZ.inv (bv.ext aZ.ext) hvs e fun ρ' s' c' bZ nP=>h _ _ _ ((aI.trans aZ).trans bZ) nP
theorem uK {b:List UInt8}:Ev X gl nm A call (.Constant (.bytes b) k pos) (.lit (.bytes b)):=.of fun Hh env en ρ σ s Q V I q9 e h=>by cases sj e;exact(show wpAny _ _ (constValue env (.bytes b)) _ _ s from fun Γ p y=>h ρ _ _ (Go.toks I _) (.bytes b _))
theorem ar {n:Str}{f:Nat}(ha:Ev X gl nm A call a x)(hn:(cO c)[f]?=some n:=by exact rfl)
 (hp:jW a=true:=by exact rfl):Ev X gl nm A call (.Attribute a n pos) (.attr x c f):=.of fun Hh env en ρ σ s Q V I q9 e h=>by
 obtain⟨u,aQ,hu,e⟩:=ip e;obtain⟨z,hz,e⟩:=om e;cases e;refine Attribute_any_ (ha.ok Hh env en ρ σ s u _ _ V I hu fun aT aR d aI bv=> ?_) (qm hp);exact pW Hh.W.amb hn aI.inv bv hz fun s' d aZ r=>h _ _ _ (aI.trans aZ) r
theorem xA (Hh:eX X gl A call){h:Heap}(I:Inv X ρ σ h):X.K.In h:=fun a o e=>I.base a o (Hh.W.amb.kin a o e)
theorem eS {M:Model}{A:Around}{E:Value->Shared->Prop}{f:Value}{trees:List (Bool×Sem Value)}{Q:Args->Shared->Prop}(hp:trees.any (·.1)=false)
 (h:wpAny M A (spliced trees) (fun vs s'=>Q ⟨vs,[]⟩ s') E s):wpAny M A (evalArgs f true trees []) Q E s:=by
 cases trees with
 | nil=>
   unfold evalArgs
   show wpAny M A (spliced []>>=_) Q E s
   refine aq (wpAny_mono h (fun vs s' h'=>aq (aL ?_)) fun y y x=>x);refine wpAny_holding ?_;exact aq (aL (aq (aL (aL h'))))
 | cons t r=>
   obtain⟨b,x⟩:=t
   have hb:b=false:=by
    cases b with
    | false=>rfl
    | true=>exact(by cases hp)
   subst hb;exact Calls.evalArgs_plain h
theorem bj (hk:nm.names.lookup f=some .globalImplicit)(hg:gl.lookup f=some (.fn k))(hx:eM f=true)
 (h:Cm X gl nm A call es xs):Ev X gl nm A call (.Call (.Name f p) es [] pos) (.call k xs):=.of fun Hh env en ρ σ s Q V I q9 e hq=>by
 obtain⟨vs,aQ,hv,e⟩:=mY e;refine Call_Name rfl (nB Hh.W I V hk hg hx fun c hc=> ?_);subst hc;refine callWith_of (P:=fun h=>X.K.In h) (by rw[h.plain env pos];rfl) (keeps_K (Hh.keep k ⟨f,hg⟩)) (eS (h.plain env pos) ?_)
 exact h.ok Hh env en ρ σ s vs aQ pos _ V I hv fun aT aR cs aI rs y=>
  ⟨xA Hh aI.inv,Hh.calls k vs aQ q9.1 q9.2 cs aT aR Q e aI.inv rs fun ρ' s' c aZ r=>hq _ _ _ (aI.trans aZ) r⟩
theorem gH (hc2:c<2)(hk:nm.names.lookup f=some .globalImplicit)(hg:gl.lookup f=some (.cls c))(hx:eM f=true)
 (h:Cm X gl nm A call es xs):Ev X gl nm A call (.Call (.Name f p) es [] pos) (.new c xs):=.of fun Hh env en ρ σ s Q V I q9 e hq=>by
 obtain⟨vs,aQ,hv,e⟩:=mY e;obtain⟨σ₂,hn,e⟩:=Fj e;cases e;refine Call_Name rfl (nB Hh.W I V hk hg hx fun cv hc=> ?_);subst hc;refine callWith_of (P:=fun h=>X.K.In h) (by rw[h.plain env pos];rfl) (keeps_K (Hh.keepc c hc2)) (eS (h.plain env pos) ?_)
 exact h.ok Hh env en ρ σ s vs aQ pos _ V I hv fun aT aR cs aI rs y=>
  ⟨xA Hh aI.inv,Hh.news c vs aQ _ cs aT aR Q hn hc2 aI.inv rs fun ρ' s' d aZ r=>hq _ _ _ (aI.trans aZ) r⟩
theorem jI {g:G}{env:Env}{en:En}{Q:Value->Shared->Prop}(fv:Value)(hfv:(bp (fun id=>g=.bi id) (fun id=>fv=.builtin id))\/(bp (fun T=>g=.ty T) (fun T=>fv=.type T)))(Hh:eX X gl A call)(I:Inv X ρ σ s.heap)(V:b_ X nm env en ρ s.heap)
 (hk:nm.names.lookup f=some .globalImplicit) (hg:gl.lookup f=some g) (hx:eM f=true) (hn:cH e=true)
 (h:wpAny (model X.prog X.w) A (eval e env) (fun c aR=>wpAny (model X.prog X.w) A (PySem.call fv [c]) Q eD aR) eD s):wpAny (model X.prog X.w) A (eval (.Call (.Name f p) [e] [] pos) env) Q eD s:=by
 refine Call_Name rfl (nB Hh.W I V hk hg hx fun cv hc=> ?_)
 have go:wpAny (model X.prog X.w) A (evalArgs fv true (backTo pos (starEach [e] env)) []) (fun a aR=>wpAny (model X.prog X.w) A (PySem.call fv ([]++a.pos) a.kw) Q eD aR) eD s:=by
  have he:starEach [e] env=[(false,eval e env)]:=eF hn;have hst:starEach [e] env=(false,eval e env)::starEach [] env:=he;refine eS (by rw[he];rfl) ?_
  exact wpAny_items_cons (wpAny_mono h (fun c aR ak=>wpAny_items_nil ak) fun y y z=>z) hst
 rcases hfv with⟨id,rfl,rfl⟩ | ⟨T,rfl,rfl⟩
 ·subst hc
  exact Calls.callWith_builtin (by rw[eF hn];rfl) go
 ·subst hc
  exact PyProof.Rows.callWith_type (by rw[eF hn];rfl) go
theorem fk (hk:nm.names.lookup f=some .globalImplicit)(hg:gl.lookup f=some (.bi "len"))(hx:eM f=true)(he:cH a=true)
 (ha:Ev X gl nm A call a x):Ev X gl nm A call (.Call (.Name f p) [a] [] pos) (.len x):=.of fun Hh env en ρ σ s Q V I q9 e hq=>by
 refine jI (.builtin "len") (.inl ⟨_,rfl,rfl⟩) Hh I V hk hg hx he ?_;rcases C1 e with⟨bs,aQ,hu,e⟩ | ⟨i,aQ,hu,e⟩
 ·obtain⟨hz,e⟩:=oi e
  cases e;exact ha.ok Hh env en ρ σ s _ _ _ V I hu fun aT aR c aI bv=>w_len_bytes aI.inv bv hz fun s' d aZ r=>hq _ _ _ (aI.trans aZ) r
 ·obtain⟨vs,hz,e⟩:=tz e
  cases e;exact ha.ok Hh env en ρ σ s _ _ _ V I hu fun aT aR c aI bv=>w_len_list aI.inv bv hz fun s' d aZ r=>hq _ _ _ (aI.trans aZ) r
theorem vZ (hk:nm.names.lookup f=some .globalImplicit)(hg:gl.lookup f=some (.ty "bytes"))(hx:eM f=true)(he:cH a=true)
 (ha:Ev X gl nm A call a x):Ev X gl nm A call (.Call (.Name f p) [a] [] pos) (.bytesOf x):=.of fun Hh env en ρ σ s Q V I q9 e hq=>by
 refine jI (.type "bytes") (.inr ⟨_,rfl,rfl⟩) Hh I V hk hg hx he ?_;obtain⟨i,aQ,hu,e⟩:=n6 e;obtain⟨vs,hz,e⟩:=tz e;obtain⟨bs,hb,e⟩:=om e;cases e;exact ha.ok Hh env en ρ σ s _ _ _ V I hu fun aT aR c aI bv=>yF Hh.hh aI.inv bv hz hb fun s' d aZ r=>hq _ _ _ (aI.trans aZ) r
theorem zO (hk:nm.names.lookup f=some .globalImplicit)(hg:gl.lookup f=some (.ty "int"))(hx:eM f=true)(he:cH a=true)
 (ha:Ev X gl nm A call a x):Ev X gl nm A call (.Call (.Name f p) [a] [] pos) (.intOf x):=.of fun Hh env en ρ σ s Q V I q9 e hq=>by
 refine jI (.type "int") (.inr ⟨_,rfl,rfl⟩) Hh I V hk hg hx he ?_;obtain⟨i,aQ,hu,e⟩:=vz e;cases e;exact ha.ok Hh env en ρ σ s _ _ _ V I hu fun aT aR c aI bv=>yD aI.inv bv fun s' d aZ r=>hq _ _ _ (aI.trans aZ) r
theorem rq (hk:nm.names.lookup f=some .globalImplicit)(hg:gl.lookup f=some (.ty "range"))(hx:eM f=true)(he:cH a=true)
 (ha:Ev X gl nm A call a x):Ev X gl nm A call (.Call (.Name f p) [a] [] pos) (.range x):=.of fun Hh env en ρ σ s Q V I q9 e hq=>by
 refine jI (.type "range") (.inr ⟨_,rfl,rfl⟩) Hh I V hk hg hx he ?_;obtain⟨i,aQ,hu,e⟩:=vz e;obtain⟨hif,e⟩:=oi e;cases e;exact ha.ok Hh env en ρ σ s _ _ _ V I hu fun aT aR c aI bv=>yC aI.inv bv fun s' d aZ r=>hq _ _ _ (aI.trans aZ) r
theorem sN (hk:nm.names.lookup f=some .globalImplicit)(hg:gl.lookup f=some (.ty "list"))(hx:eM f=true)(he:cH a=true)
 (ha:Ev X gl nm A call a x):Ev X gl nm A call (.Call (.Name f p) [a] [] pos) (.listOf x):=.of fun Hh env en ρ σ s Q V I q9 e hq=>by
 refine jI (.type "list") (.inr ⟨_,rfl,rfl⟩) Hh I V hk hg hx he ?_;obtain⟨i,aQ,hu,e⟩:=n6 e;rcases Bh e with⟨vs,hz,e⟩ | ⟨kvs,hz,e⟩
 ·exact ha.ok Hh env en ρ σ s _ _ _ V I hu fun aT aR c aI bv=>wv aI.inv bv hz e fun ρ' s' d aZ r=>hq _ _ _ (aI.trans aZ) r
 ·exact ha.ok Hh env en ρ σ s _ _ _ V I hu fun aT aR c aI bv=>pC Hh.hh aI.inv bv hz e fun ρ' s' d aZ r=>hq _ _ _ (aI.trans aZ) r
end
end
section
open PySem PySem.W PyProof.Rows
section
section
variable {pos apos:Pos}{s:Shared}{o e:Expr}{env:Env}{ρ:dM}{σ:H}{a:Nat}{x y:Ex}{c:Value}{Q:List Value->Shared->Prop}
variable {X:Cx}{gl:List (Str×G)}{nm:Nm}{A:Around}{call:bV}
noncomputable def fy (o:Expr) (n:Str) (apos pos:Pos) (args:List Expr):Prop:=ut o args apos pos=true
theorem lS {T id:String}{n:Str}{args:List Expr}{Q:Value->Shared->Prop}(pa:PlainAttrs T)(slot:Slot T n id)(hty:typeOf (.builtin id)=pure (.type "method_descriptor"))
 (he:fy o n apos pos args) (hp:(backTo pos (starEach args env)).any (·.1)=false)
 (h:wpAny (model X.prog X.w) A (eval o env) (fun c aR=>aR.TypeIs c T/\(∀a,c=.ref a->∃o,aR.heap.get? a=some o/\o.dict=none)/\
  wpAny (model X.prog X.w) A (spliced (backTo pos (starEach args env))) (fun vs dw=>wpAny (model X.prog X.w) A (PySem.call (.builtin id) (c::vs)) Q eD dw) eD aR) eD s):
 wpAny (model X.prog X.w) A (eval (.Call (.Attribute o n apos) args [] pos) env) Q eD s:=by
 obtain⟨pl,he⟩:=vW (n:=n) (env:=env) he;refine methodCall_KW (pl:=pl) (wpAny_mono h (fun c aR ak=>getMethod_builtin ak.1 pa slot hty ak.2.1 ?_) fun y y x=>x) he;exact Calls.callWith_builtin hp (eS hp ak.2.2)
theorem hY {vs:List V}(I:Inv X ρ σ s.heap)(r:VR X ρ s.heap (.ref a) c)(e:σ[a]?=some (.list vs)):s.TypeIs c "list" /\∀a,c=.ref a->∃o,s.heap.get? a=some o/\o.dict=none:=by obtain⟨p,cs,n,hp,rfl,e1,h1,r1,_⟩:=r.list_at I e;exact⟨⟨_,h1,rfl⟩,fun a z=>by cases z;exact⟨_,h1,rfl⟩⟩
theorem v3 {kvs:List (Int×V)}(I:Inv X ρ σ s.heap)(r:VR X ρ s.heap (.ref a) c)(e:σ[a]?=some (.idict kvs)):s.TypeIs c "dict" /\∀a,c=.ref a->∃o,s.heap.get? a=some o/\o.dict=none:=by obtain⟨p,hp,rfl⟩:=r.ref_inv;obtain⟨e1,ks,⟨o,es,h1,h2,_⟩,_⟩:=I.obj a _ p e hp;exact⟨⟨o,e1▸h1,h2.1⟩,fun a z=>by cases z;exact⟨o,e1▸h1,h2.2.1⟩⟩
theorem sM (he:fy o "pop" apos pos [])(ha:Ev X gl nm A call o x):Ev X gl nm A call (.Call (.Attribute o "pop" apos) [] [] pos) (.pop x):=.of fun Hh env en ρ σ s Q V I q9 e hq=>by obtain⟨a,aQ,hu,e⟩:=n6 e;obtain⟨vs,hz,e⟩:=tz e;obtain⟨w,hw,e⟩:=Fi e;cases e;refine lS F.plainAttrs_list F.slot_list_pop F.type_list_pop he rfl (ha.ok Hh env en ρ σ s _ _ _ V I hu fun aT aR c aI bv=> ?_);obtain⟨k1,k2⟩:=hY aI.inv bv hz;exact⟨k1,k2,wpAny_items_nil (CH aI.inv bv hz hw fun s' d aZ r=>hq _ _ _ (aI.trans aZ) r)⟩
theorem ni (hn:cH e=true)
 (h:wpAny (model X.prog X.w) A (eval e env) (fun c aR=>Q [c] aR) eD s):wpAny (model X.prog X.w) A (spliced (backTo pos (starEach [e] env))) Q eD s:=by
 have hst:starEach [e] env=(false,eval e env)::starEach [] env:=eF hn;exact wpAny_items_cons (wpAny_mono h (fun c aR ak=>wpAny_items_nil ak) fun y y z=>z) hst
theorem yG {f:Expr}(hn:cH e=true)(hf:cH f=true)
 (h:wpAny (model X.prog X.w) A (eval e env) (fun c aR=>wpAny (model X.prog X.w) A (eval f env) (fun d dw=>Q [c,d] dw) eD aR) eD s):wpAny (model X.prog X.w) A (spliced (backTo pos (starEach [e,f] env))) Q eD s:=by
 have h3:starEach [f] env=(false,eval f env)::starEach [] env:=eF hf;exact wpAny_items_cons (wpAny_mono h (fun c aR ak=>wpAny_items_cons (wpAny_mono ak (fun d dw aO=>wpAny_items_nil aO) fun y y z=>z) h3) fun y y z=>z) (f_ hn)
theorem nv {b:Expr}(he:fy o "index" apos pos [b])(hs:cH b=true)(ha:Ev X gl nm A call o x)(hb:Ev X gl nm A call b y)(hy:∀en σ v σ',ax call y en σ=some (v,σ')->σ'=σ):
 Ev X gl nm A call (.Call (.Attribute o "index" apos) [b] [] pos) (.index x y):=.of fun Hh env en ρ σ s Q V I q9 e hq=>by
 obtain⟨a,aQ,hu,e⟩:=n6 e;obtain⟨i,σ₂,hw,e⟩:=vz e;cases hy _ _ _ _ hw;obtain⟨vs,hz,e⟩:=tz e;obtain⟨k',hk,e⟩:=om e;obtain⟨k,hk2,z⟩:=Option.bind_eq_some_iff.mp hk;cases sj z;cases e;refine lS F.plainAttrs_list F.slot_list_index F.type_list_index he (by rw[eF hs];rfl) (ha.ok Hh env en ρ σ s _ _ _ V I hu fun aT aR c aI bv=> ?_)
 obtain⟨k1,k2⟩:=hY aI.inv bv hz;exact⟨k1,k2,ni hs (hb.ok Hh env en aT _ aR _ _ _ (V.go aI) aI.inv hw fun dA dw d aZ fg=>yE aZ.inv (bv.ext aZ.ext) fg hz hk2 fun s' d bZ r=>hq _ _ _ ((aI.trans aZ).trans bZ) r)⟩
theorem BE {k d:Expr}{z:Ex}(he:fy o "get" apos pos [k,d])(hs:cH k=true)(hs':cH d=true)(ha:Ev X gl nm A call o x)(hk:Ev X gl nm A call k y)(hd:Ev X gl nm A call d z)
 (hy:∀en σ v σ',ax call y en σ=some (v,σ')->σ'=σ) (hz:∀en σ v σ',ax call z en σ=some (v,σ')->σ'=σ):Ev X gl nm A call (.Call (.Attribute o "get" apos) [k,d] [] pos) (.getd x y z):=.of fun Hh env en ρ σ s Q V I q9 e hq=>by
 obtain⟨a,aQ,hu,e⟩:=n6 e;obtain⟨i,σ₂,hw,e⟩:=vz e;cases hy _ _ _ _ hw;obtain⟨u,mz,hv,e⟩:=ip e;cases hz _ _ _ _ hv;obtain⟨kvs,hkv,e⟩:=EU e;cases e;refine lS F.plainAttrs_dict F.slot_dict_get F.type_dict_get he (by rw[f_ hs,eF hs'];rfl) (ha.ok Hh env en ρ σ s _ _ _ V I hu fun aT aR c aI bv=> ?_)
 obtain⟨k1,k2⟩:=v3 aI.inv bv hkv;refine⟨k1,k2,yG hs hs' (hk.ok Hh env en aT _ aR _ _ _ (V.go aI) aI.inv hw fun dA dw Fy aZ fg=>hd.ok Hh env en dA _ dw _ _ _ ((V.go aI).go aZ) aZ.inv hv fun wn ew Fx bZ nP=> ?_)⟩;exact AY bZ.inv (bv.ext (aZ.trans bZ).ext) (fg.ext bZ.ext) nP hkv fun s' d jn r=>hq _ _ _ (((aI.trans aZ).trans bZ).trans jn) r
end
end
end
section
open PySem PySem.W PyProof.Rows
section
section
variable {h:Heap}{ρ:dM}{vs:List V}{d:Addr}{kvs:List (Int×V)}{vals:List Expr}{xs:pU}{pos:Pos}
variable {X:Cx}{gl:List (Str×G)}{nm:Nm}{A:Around}{call:bV}
theorem lg {ks:List (Int×Value)}{ep:Nat}(hd:h.DictAt (intKind X.prog X.w) d ks ep):∀o,h.get? d=some o->¬rJ o:=fun o q hi=>
 hd.elim fun y z=>z.elim fun y z=>hi.2.1 _ _ ((ag Obj.data (sj (q.symm.trans z.1))).trans z.2.2.1)
noncomputable def Ax (ps:List (Value×Value)):List Value:=ps.flatMap fun p=>[p.1,p.2]
theorem Ea {v w:V}{kvs':List (Int×V)}(h:dictFrom (v::w::vs) kvs=some kvs'):bp (fun i=>v=.int i) (fun i=>dictFrom vs (put kvs i w)=some kvs'):=by
 cases v with
 | int i=>exact⟨i,rfl,h⟩
 | _=>exact nn h
theorem An {c:Value}{cs:List Value}(r:cp X ρ h vs (c::cs)):dU (fun v us=>vs=v::us) (fun v us=>VR X ρ h v c) (fun v us=>cp X ρ h us cs):=by cases r with | cons a b=>exact⟨_,_,rfl,a,b⟩
theorem DY (r:cp X ρ h vs []):vs=[]:=by cases r;rfl
theorem fill {E:Value->Shared->Prop}{Q:PUnit->Shared->Prop}{ps:List (Value×Value)}:∀ {vs:List V} {kvs0:List (Int×V)} {ks0:List (Int×Value)} {s:Shared},cp X ρ s.heap vs (Ax ps)->dictFrom vs kvs0=some kvs->
 s.heap.DictAt (intKind X.prog X.w) d ks0 ks0.length->ks0.map (·.1)=kvs0.map (·.1)->cp X ρ s.heap (kvs0.map (·.2)) (ks0.map (·.2))->ks0.length+ps.length≤sizeLine->
 (∀h' tk ks,h'.DictAt (intKind X.prog X.w) d ks ks.length->ks.map (·.1)=kvs.map (·.1)->cp X ρ h' (kvs.map (·.2)) (ks.map (·.2))->Heap.SameBut d s.heap h'->Q PUnit.unit {s with heap:=h',toks:=tk})->
 wpAny (model X.prog X.w) A (forIn ps PUnit.unit fun(x:Value×Value) (_:PUnit)=>(do dictSet d x.1 x.2;pure (ForInStep.yield PUnit.unit):Sem (ForInStep PUnit))) Q E s:=by
 induction ps with
 | nil=>
   intro vs kvs0 ks0 s rs e hd hk hv hz h;rw[List.forIn_nil];cases DY rs;cases sj e;exact aL (h s.heap s.toks ks0 hd hk hv (Heap.SameBut.refl _ _))
 | cons p ps ih=>
   obtain⟨kv,vv⟩:=p;intro vs kvs0 ks0 s rs e hd hk hv hz h;rw[List.forIn_cons];obtain⟨v1,us,rfl,rk,rs1⟩:=An rs;obtain⟨v2,us,rfl,rv,rs2⟩:=An rs1;obtain⟨i,rfl,e2⟩:=Ea e;obtain⟨t,rfl⟩:=rk.int_inv;have hz':ks0.length+ps.length<sizeLine:=hz;refine aq (aq (uL (fq i t) hd (by lia) fun ak hd₁ hs₁=>aL ?_))
   have x1:dY [d] ρ ρ s.heap ak:=dY.own aK hs₁ (hd₁.elim fun o z=>z.elim fun y z=>⟨o,z.1⟩) (lg hd);obtain⟨g1,g2⟩:=nG (i:=i) (rv.ext x1) hk (hv.ext x1);exact ih (s:={s with heap:=ak,toks:=s.toks+1}) (rs2.ext x1) e2 hd₁ g1 g2 (by have:=stored_length_le ks0 i vv;lia) fun h' tk ks a b c hs=>h h' tk ks a b c (hs₁.trans hs)
variable (X gl nm A call) in
structure DL (keys:List (Option Expr)) (vals:List Expr) (xs:pU):Prop where
 ok:eX X gl A call->∀ (env:Env) (en:En) (ρ:dM) (σ:H) (s:Shared) (vs:List V) (σ':H) (pos:Pos) (Q:List (Value×Value)->Shared->Prop),b_ X nm env en ρ s.heap->Inv X ρ σ s.heap->
 dg call xs en σ=some (vs,σ')->(∀ρ' s' ps,Go X [] ρ s ρ' σ' s'->cp X ρ' s'.heap vs (Ax ps)->ps.length=keys.length->Q ps s')->wpAny (model X.prog X.w) A (evalPairs (pairTrees keys vals env pos)) Q eD s
theorem yX:DL X gl nm A call [] [] .nil:=.mk fun Hh env en ρ σ s vs σ' pos Q V I e h=>by cases sj e;exact pairTrees_nil_walk (h ρ s [] (Go.refl I) .nil rfl)
theorem nV {k v:Expr}{ks:List (Option Expr)}{x y:Ex}(hk:Ev X gl nm A call k x)(hv:Ev X gl nm A call v y)(hr:DL X gl nm A call ks vals xs):DL X gl nm A call (some k::ks) (v::vals) (.cons x (.cons y xs)):=.mk fun Hh env en ρ σ s vs σ' pos Q V I e h=>by obtain⟨u,aQ,hu,e⟩:=ip e;obtain⟨us,σ₂,hus,e⟩:=mY e;obtain⟨w,mz,hw,hus⟩:=ip hus;obtain⟨ws,CB,hws,hus⟩:=mY hus;cases sj hus;cases sj e;refine pairTrees_cons_walk (hk.ok Hh env en ρ σ s _ _ _ V I hu fun aT aR c aI bv=>hv.ok Hh env en aT _ aR _ _ _ (V.go aI) aI.inv hw fun dA dw d aZ fg=> ?_);exact hr.ok Hh env en dA _ dw _ _ pos _ ((V.go aI).go aZ) aZ.inv hws fun ρ' s' ps bZ rs hl=>h _ _ _ ((aI.trans aZ).trans bZ) (.cons (bv.ext (aZ.trans bZ).ext) (.cons (fg.ext bZ.ext) rs)) (ag (· +1) hl)
theorem nk {p:Addr×Addr}{σ:H}(h:ρ.length=σ.length):(ρ++[p])[σ.length]?=some p:=h▸List.getElem?_concat_length
theorem oV:(h.push {cls:=.type "dict",data:=.dict #[]}).get? h.objs.size=some {cls:=.type "dict",data:=.dict #[]}:=Heap.get?_push_size _ rfl
theorem oW {a:Addr}(e:h.get? a=some {cls:=.type "dict",data:=.dict #[]}):h.DictAt (intKind X.prog X.w) a [] 0:=⟨_,#[],e,⟨rfl,rfl,rfl⟩,rfl,fun e he=>(by simp at he),.nil,by simp⟩
theorem eJ:Ev X gl nm A call (.Dict [] [] pos) (.dict .nil):=.of fun Hh env en ρ σ s Q V I q9 e h=>by cases sj e;refine wpAny_Dict_empty ?_;obtain⟨J,x⟩:=I.alloc (h':=s.heap.push {cls:=.type "dict",data:=.dict #[]}) (o:=.idict []) (p:=(s.heap.objs.size,s.heap.objs.size)) bT (Nat.le_refl _) fun x=>⟨rfl,[],oW oV,rfl,.nil⟩;exact h _ _ _ ⟨J,x,rfl,rfl⟩ (VR.ref (p:=(s.heap.objs.size,s.heap.objs.size)) (nk I.len))
theorem BF {keys:List (Option Expr)}(hall:keys.all (·.isSome)=true)(hl:keys.length=vals.length)(h0:keys≠ [])(hlen:keys.length≤15)(hp:DL X gl nm A call keys vals xs):
 Ev X gl nm A call (.Dict keys vals pos) (.dict xs):=.mk fun Hh env en ρ σ s v σ' Q V I e h=>by
 obtain⟨vs,aQ,hv,e⟩:=mY e;obtain⟨kvs,hkv,e⟩:=D4 e;cases sj e;have hn:=pairTrees_length keys vals env pos hall hl;obtain⟨hold,hBn,hsys⟩:=I.fresh (Nat.le_refl _);rw[arm_eval_Dict,zip_pairTrees keys vals env pos hall hl,dictDisplay_pairs _ (fun he=>h0 (List.length_eq_zero_iff.mp (hn.symm.trans (ag List.length he)))) (by lia)]
 refine aq (wpAny_standAt (aq (aq (wpAny_alloc (aq (wpAny_holding ?_))))));rw[ap (by lia)]
 have k0:∀a o,s.heap.get? a=some o->(s.heap.push {cls:=.type "dict",data:=.dict #[]}).get? a=some o:=bT;have g0:Go X [] ρ s ρ σ {s with heap:=s.heap.push {cls:=.type "dict",data:=.dict #[]}}:=Go.grow I k0 rfl rfl;refine aq (hp.ok Hh env en ρ σ _ vs aQ pos _ (V.go g0) g0.inv hv fun aT aR ps aI rs hpl=> ?_);have hAt:=oW (X:=X) (aI.ext.keep _ _ oV hold List.not_mem_nil);have hnew:∀p∈aT,p.2≠s.heap.objs.size:=fun p hp' z=>(aI.ext.new p hp').elim (fun q=>hold p q z) fun q=>nn ((q.symm.trans (ag _ z)).trans oV);refine wpAny_holding (aq (fill (kvs0:=[]) rs hkv hAt rfl .nil (by rw[hpl,sizeLine_eq];simp;lia) fun h' tk ks a b c hs=>aL (aL (aL ?_))))
 have x1:dY [s.heap.objs.size] aT aT aR.heap h':=dY.own aK hs (a.elim fun o z=>z.elim fun y z=>⟨o,z.1⟩) (lg hAt);have x3:dY [] ρ aT s.heap h':=(((dY.grew [s.heap.objs.size] k0).trans (aI.ext.mono fun y z=>nomatch z)).trans x1).drop fun a ha=>.inr (aB ha▸cJ (Nat.le_refl _));have I2:=(aI.inv.own x1 hs hnew hBn).adopt (p:=(s.heap.objs.size,s.heap.objs.size)) (o:=.idict kvs) hnew hBn hsys ⟨rfl,ks,a,b,c.more⟩;exact h (aT++[(s.heap.objs.size,s.heap.objs.size)]) _ _ ⟨I2,⟨x3.pre.trans (List.prefix_append _ _),x3.alive,x3.keep,x3.imm,fun p hp'=>(ba hp').elim (x3.new p) fun q=>.inr (aB q▸cJ (Nat.le_refl _))⟩,aI.gens,aI.os⟩ (VR.ref (p:=(s.heap.objs.size,s.heap.objs.size)) (nk aI.inv.len))
end
end
end
section
open PySem PySem.W PyProof.Rows
section
section
variable {h h':Heap}{it:Addr}{x:V}{cx:Value}{ρ:dM}{vs:List V}{o:Option O}{k i:Nat}{P:Obj->Prop}{cs:Array Value}{σ:H}{s:Shared}{E:Value->Shared->Prop}
variable {X:Cx}{gl:List (Str×G)}{nm:Nm}{A:Around}{call:bV}
inductive dS (h:Heap) (it:Addr):V->Value->Option O->Nat->Prop
 | tup {us:List V} {t:Addr} {o:Option O} {k:Nat}:h.IsTupleIter it t k->dS h it (.tup us) (.ref t) o k
 | range {n:Int} {c:Value} {o:Option O} {k:Nat}:IsRangeIter h it k ((n.toNat:Int)-k) 1->dS h it (.range n) c o k
 | list {a:Nat} {us:List V} {t:Addr} {k:Nat}:h.IsListIter it t k->dS h it (.ref a) (.ref t) (some (.list us)) k
 | dict {a:Nat} {kvs:List (Int×V)} {t:Addr} {k:Nat}:h.IsKeyIter it t k kvs.length kvs.length->dS h it (.ref a) (.ref t) (some (.idict kvs)) k
noncomputable def kH (x:V) (o:Option O):Option (List V):=
 match x,o with
 | .tup vs,_=>some vs
 | .range n,_=>if-1000000<n/\n<1000000 then some ((List.range n.toNat).map fun(k:Nat)=>V.int k) else none
 | .ref _,some (.list vs)=>some vs
 | .ref _,some (.idict kvs)=>some (kvs.map fun p=>V.int p.1)
 | _,_=>none
theorem l_ (σ:H)(x:V):items σ x=kH x (fS σ x):=by
 cases x with
 | ref a=>
   show(match σ[a]? with | some (.list vs)=>_ | some (.idict kvs)=>_ | _=>_)=kH (.ref a) σ[a]?
   cases σ[a]? with
   | none=>rfl
   | some o=>cases o<;>rfl
 | _=>rfl
theorem rE (I:∃o,h.get? it=some o/\P o)(e:h'.get? it=h.get? it):∃o,h'.get? it=some o/\P o:=I.imp fun y z=>⟨e.trans z.1,z.2⟩
theorem dS.keep (I:dS h it x cx o k)(e:h'.get? it=h.get? it):dS h' it x cx o k:=
 I.rec (fun z=>.tup (rE z e)) (fun z=>.range (e.trans z)) (fun z=>.list (rE z e)) fun z=>.dict (rE z e)
theorem nu {T:String}(I:∃o,h.get? it=some o/\o.cls=.type T/\P o)(h1:T≠ "tuple")(h2:T≠ "range")(h3:T≠ "list")(h4:T≠ "dict"):
 ∃o',h.get? it=some o'/\¬rJ o'/\o'.cls≠ .type "list" /\o'.cls≠ .type "dict" :=
 I.imp fun o ⟨ho,hc,_⟩=>⟨ho,fun hi=>hi.1.elim (fun q=>h1 (Value.type.inj (hc.symm.trans q))) fun z=>z.elim (fun q=>h2 (Value.type.inj (hc.symm.trans q))) fun⟨_,q⟩=>Value.noConfusion (hc.symm.trans q),
  fun q=>h3 (Value.type.inj (hc.symm.trans q)),fun q=>h4 (Value.type.inj (hc.symm.trans q))⟩
theorem dS.live (I:dS h it x cx o k):∃o',h.get? it=some o'/\¬rJ o'/\o'.cls≠ .type "list" /\o'.cls≠ .type "dict" :=
 I.rec (fun z=>nu z (by decide) (by decide) (by decide) (by decide)) (fun z=>nu (P:=fun y=>True) ⟨_,z,rfl,trivial⟩ (by decide) (by decide) (by decide) (by decide)) (fun z=>nu z (by decide) (by decide) (by decide) (by decide)) fun z=>nu z (by decide) (by decide) (by decide) (by decide)
theorem cp.aget (r:cp X ρ h vs cs.toList){v:V}(e:vs[i]?=some v):bp (fun c=>cs[i]?=some c) (fun c=>VR X ρ h v c):=by obtain⟨c,hc,rc⟩:=r.get e;exact⟨c,Array.getElem?_toList.symm.trans hc,rc⟩
theorem cp.anone (r:cp X ρ h vs cs.toList)(e:vs[i]?=none):cs[i]?=none:=by rw[<-Array.getElem?_toList,List.getElem?_eq_none_iff,<-r.length];exact List.getElem?_eq_none_iff.mp e
theorem yP (n:Int):Builtin.Range.rangeSize 0 n 1=n.toNat:=by rw[rangeSize_nat,Int.sub_zero]
theorem th {Q:Value->Shared->Prop}(I:Inv X ρ σ s.heap)(r:VR X ρ s.heap x cx)(e:items σ x=some vs)
 (h:∀o,dS (s.heap.push o) s.heap.objs.size x cx (fS σ x) 0->Q (.ref s.heap.objs.size) {s with heap:=s.heap.push o}):wpAny (model X.prog X.w) A (pyIter cx) Q E s:=by
 cases x with
 | tup us=>
   obtain⟨a,cs,rfl,ht,hr⟩:=r.tup_inv;exact wpAny_pyIter_tuple ht (h _ (.tup ⟨_,Heap.get?_push_size _ rfl,rfl,rfl⟩))
 | range n=>
   obtain⟨a,t,u,v,rfl,hr⟩:=r.range_inv;obtain⟨hn,_⟩:=oi e;refine wpAny_pyIter_range hr (PySem.small_one (by decide) (by decide) (by lia) (by lia)) (h _ (.range ?_))
   rw[yP];exact(Heap.get?_push_size _ rfl).trans (by simp)
 | ref a=>
   rcases Bh e with⟨us,q,_⟩ | ⟨kvs,q,_⟩
   ·obtain⟨p,cs,n,hp,rfl,e1,h1,r1,_⟩:=r.list_at I q
    rw[show fS σ (V.ref a)=_ from q] at h;exact wpAny_pyIter_list (bN h1) (h _ (.list ⟨_,Heap.get?_push_size _ rfl,rfl,rfl⟩))
   ·obtain⟨p,hp,rfl⟩:=r.ref_inv
    obtain⟨e1,ks,hd,hk,hv⟩:=I.obj a _ p q hp;rw[show fS σ (V.ref a)=_ from q,e1] at h;rw[e1];exact wpAny_pyIter_dict (gr I (List.mem_of_getElem? hp)) hd (h _ (.dict ⟨_,Heap.get?_push_size _ rfl,rfl,by rw[d4 hk];rfl⟩))
 | _=>exact nn e
theorem w_next {Q:Option Value->Shared->Prop}(hh:A.handled=none)(I:Inv X ρ σ s.heap)(r:VR X ρ s.heap x cx)(e:kH x o=some vs)(st:eK σ x o=true)
 (hit:dS s.heap it x cx o k)
 (hn:∀v h' tk c,vs[k]?=some v->dS h' it x cx o (k+1)->Heap.SameBut it s.heap h'->VR X ρ s.heap v c->Q (some c) {s with heap:=h',toks:=tk})
 (he:vs[k]?=none->∀h' tk,Heap.ExtBut it s.heap h'->Q none {s with heap:=h',toks:=tk}):wpAny (model X.prog X.w) A (pyNext (.ref it)) Q E s:=by
 cases hit with
 | tup hi=>
   cases sj e;obtain⟨a,cs,z,ht,hr⟩:=r.tup_inv;cases z;cases q:vs[k]? with
   | some v=>
     obtain⟨c,hc,rc⟩:=hr.aget q;exact wpAny_pyNext_tuple_item hi ht hc fun h' h1 h2=>hn v h' s.toks c q (.tup h1) h2 rc
   | none=>exact wpAny_pyNext_tuple_end hh hi ht (hr.anone q) fun h' h1=>he q h' s.toks h1
 | @range n _ _ _ hi=>
   obtain⟨_,e⟩:=oi e;cases sj e
   by_cases hk:k<n.toNat
   ·refine wpAny_pyNext_range_item hi (by lia) fun h' h1 h2=>hn (.int k) h' _ _ (by simp[hk]) (.range ?_) h2 (.int _ _)
    rw[show((k+1:Nat):Int)=(k:Int)+1 from rfl,<-Int.sub_sub];exact h1
   ·exact wpAny_pyNext_range_end hh hi (by lia) fun h' h1=>he (List.getElem?_eq_none_iff.mpr (by simp;lia)) h' s.toks h1
 | @list a us t _ hi=>
   cases sj e;have st:= @of_decide_eq_true _ (Classical.propDecidable _) st;cases q:σ[a]? with
   | none=>exact(by rw[q] at st;cases st)
   | some o'=>
   rw[q] at st;cases st with
   | list=>
   obtain⟨p,cs,n,hp,z,e1,h1,r1,_⟩:=r.list_at I q;cases z;cases q:vs[k]? with
   | some v=>
     obtain⟨c,hc,rc⟩:=r1.aget q;exact wpAny_pyNext_list_item hi (bN h1) hc fun h' h1 h2=>hn v h' s.toks c q (.list h1) h2 rc
   | none=>exact wpAny_pyNext_list_end hh hi (bN h1) (r1.anone q) fun h' h1=>he q h' s.toks h1
 | @dict a us t _ hi=>
   cases sj e;have st:= @of_decide_eq_true _ (Classical.propDecidable _) st;cases q:σ[a]? with
   | none=>exact(by rw[q] at st;cases st)
   | some o'=>
   rw[q] at st;cases st with
   | dict hkeys=>
   obtain⟨p,hp,z⟩:=r.ref_inv;obtain⟨e1,ks,hd,hk,hv⟩:=I.obj a _ p q hp;cases z;rw[e1] at hi hn;rw[d4 (hkeys.trans hk.symm)] at hi;cases q:ks[k]? with
   | some y=>
     obtain⟨i,u⟩:=y;have h1:(us.map (·.1))[k]?=some i:=by rw[hkeys,<-hk,List.getElem?_map,q];rfl
     refine wpAny_pyNext_dict_item hi hd q fun key h' hkey h1' h2=> ?_;obtain⟨t,rfl⟩:=Value.isInt_shape hkey;refine hn (.int i) h' s.toks _ ?_ (.dict (d4 (hkeys.trans hk.symm)▸h1')) h2 (.int i t);exact(ag (·[k]?) (List.map_map (f:=fun p:Int×V=>p.1) (g:=V.int)).symm).trans (List.getElem?_map.trans (ag (Option.map V.int) h1))
   | none=>
     refine wpAny_pyNext_dict_end hh hi hd q fun h' h1=>he ?_ h' s.toks h1;exact List.getElem?_eq_none_iff.mpr (by rw[aD,d4 (hkeys.trans hk.symm)];exact List.getElem?_eq_none_iff.mp q)
end
end
end
section
open PySem PySem.W PyProof.Rows
section
section
variable {ρ ρ':dM}{h h':Heap}{env:Env}{it a:Addr}{E:List Addr}{x:Str}{scope:Scope}{k:Nat}{en:En}
variable {X:Cx}{gl:List (Str×G)}{nm:Nm}{A:Around}{call:bV}
structure Off (X:Cx) (ρ:dM) (h:Heap) (a:Addr):Prop where
 live:∃o,h.get? a=some o
 off:∀p∈ρ,p.2≠a
 nb:X.B.get? a=none
theorem Off.ext (O:Off X ρ h a)(x:dY E ρ ρ' h h'):Off X ρ' h' a:=
 ⟨O.live.elim (x.alive a),fun p hp z=>(x.new p hp).elim (fun q=>O.off p q z) fun q=>O.live.elim fun o ho=>nn ((q.symm.trans (ag _ z)).trans ho),O.nb⟩
theorem Off.same (O:Off X ρ h a)(x:dY E ρ ρ' h h')(ha:a∉E):h'.get? a=h.get? a:=
 O.live.elim fun o ho=>(x.keep a o ho O.off ha).trans ho.symm
theorem rz (f:Str->Addr)(g:Str×NameKind->List (Str×Addr)->Sem (ForInStep (List (Str×Addr))))(hg1:∀n k cs,(k==NameKind.free)=true->cellOf env n=pure (f n)->g (n,k) cs=pure (ForInStep.yield ((n,f n)::cs)))
 (hg2:∀n k cs,¬ (k==NameKind.free)=true->g (n,k) cs=pure (ForInStep.yield cs)):∀ (names:List (Str×NameKind)) (cs:List (Str×Addr)),(∀x∈names,x.2=.free->env.cells.lookup x.1=some (f x.1))->
 forIn names cs g=pure (((names.filter fun x=>x.2==NameKind.free).map fun x=>(x.1,f x.1)).reverse++cs):=by
 intro names
 induction names with
 | nil=>
   intro cs _;simp
 | cons hd9 r ih=>
   obtain⟨n,k⟩:=hd9;intro cs h;rw[List.forIn_cons]
   by_cases hk:(k==NameKind.free)=true
   ·have hc:cellOf env n=pure (f n):=by unfold cellOf;rw[h (n,k) aK (by simpa using hk)]
    rw[hg1 n k cs hk hc,pure_bind]
    dsimp only
    rw[ih _ fun x hx=>h x (aP _ hx)];simp[List.filter_cons,hk]
   ·rw[hg2 n k cs hk,pure_bind]
    dsimp only
    rw[ih _ fun x hx=>h x (aP _ hx)];simp[List.filter_cons,hk]
theorem iZ {α:Type}{l:List (Str×α)}(h:∃p∈l,p.1=x):∃a,l.lookup x=some a:=by
 induction l with
 | nil=>obtain⟨p,hp,_⟩:=h;simp at hp
 | cons y l ih=>
   obtain⟨n,a⟩:=y;rw[List.lookup_cons];cases hn:x==n with
   | true=>exact⟨a,rfl⟩
   | false=>
     refine ih ?_;obtain⟨p,hp,e⟩:=h;rcases a_ hp with rfl | hp
     ·rw[<-e] at hn;simp at hn
     ·exact⟨p,hp,e⟩
theorem tS (hf:∀x∈scope.names,x.2=.free->∃a,env.cells.lookup x.1=some a):
 ta (fun cl=>closureFor scope env=pure cl) (fun cl=>(∀x a,cl.lookup x=some a->env.cells.lookup x=some a)) (fun cl=>∀x∈scope.names,x.2=.free->∃a,cl.lookup x.1=some a):=by
 refine⟨((scope.names.filter fun x=>x.2==NameKind.free).map fun x=>(x.1,(env.cells.lookup x.1).getD 0)).reverse,?_,fun x a h=> ?_,fun x hx hk=> ?_⟩
 ·dsimp only[closureFor]
  rw[rz (env:=env) (fun n=>(env.cells.lookup n).getD 0) _ (fun n k cs hk hc=> ?_) (fun n k cs hk=> ?_) scope.names [] fun x hx hk=> ?_]
  ·simp only[hk,if_true,hc,pure_bind]
  ·simp only[au hk]
  ·obtain⟨a,ha⟩:=hf x hx hk
   rw[ha];rfl
  ·rw[List.append_nil];rfl
 ·have:=mem_of_lookup h
  rw[List.mem_reverse,List.mem_map] at this;obtain⟨y,hy,e⟩:=this;rw[List.mem_filter] at hy;obtain⟨b,hb⟩:=hf y hy.1 (by simpa using hy.2)
  rw[hb] at e;cases e;exact hb
 ·refine iZ ⟨(x.1,(env.cells.lookup x.1).getD 0),?_,rfl⟩
  rw[List.mem_reverse,List.mem_map];exact⟨x,List.mem_filter.mpr ⟨hx,by simp[hk]⟩,rfl⟩
noncomputable def dI (nm:Nm) (scope:Scope):List (Str×NameKind):=scope.names.map fun(n,k)=>if(k== .free&&nm.names.lookup n==some .cell) then(n,.cell) else(n,k)
structure kS (nm nmC:Nm) (scope:Scope) (k:Nat) (x:Str):Prop where
 kind:scope.kind=.function
 nocell:∀y∈scope.names,y.2≠ .cell
 nodup:∀y∈scope.names,y.2=.local->scope.names.lookup y.1=some .local
 frees:∀y∈scope.names,y.2=.free->nm.names.lookup y.1=some .cell\/nm.names.lookup y.1=some .free
 names:nmC.names=dI nm scope
 celled:∀y,nmC.names.lookup y=some .cell\/nmC.names.lookup y=some .free->∃z∈scope.names,z.2=.free/\z.1=y
 len:nmC.slots.length=nm.slots.length
 at_:nmC.slots[k]?=some (some x)
 loc:nmC.names.lookup x=some .local
 only:dQ nmC k x=true
 out:nm.slots[k]?=some none
 slots:∀j y,j≠k->nmC.slots[j]?=some (some y)->nm.slots[j]?=some (some y)/\(nm.names.lookup y=some .cell\/nm.names.lookup y=some .free)/\(nmC.names.lookup y=some .cell\/nmC.names.lookup y=some .free)/\∃z∈scope.names,z.2=.free/\z.1=y
theorem tf {s:Shared}{x:V}{cx:Value}{o:Option O}{Q:Value->Shared->Prop}{E:Value->Shared->Prop}(hit:dS s.heap it x cx o k)(hq:Q (.ref it) s):wpAny (model X.prog X.w) A (pyIter (.ref it)) Q E s:=
 hit.rec (fun z=>wpAny_pyIter_tupleiter z hq) (fun z=>wpAny_pyIter_rangeiter z hq) (fun z=>wpAny_pyIter_listiter z hq) fun z=>wpAny_pyIter_keyiter z hq
structure mQ (X:Cx) (ρ:dM) (h h':Heap) (it:Addr):Prop where
 off:Off X ρ h it
 no:∀o,h.get? it=some o->¬rJ o
 keep:Heap.ExtBut it h h'
theorem mQ.imm (S:mQ X ρ h h' it):∀a o,h.get? a=some o->rJ o->h'.get? a=some o:=fun a o e hi=>S.keep a o (fun z=>S.no o (z▸e) hi) e
theorem Inv.but {σ:H}(I:Inv X ρ σ h)(S:mQ X ρ h h' it):Inv X ρ σ h':=
 ⟨I.len,fun i o p e q=>(I.obj i o p e q).map List.prefix_rfl S.imm ((I.obj i o p e q).body.elim fun b hb=>(S.keep p.2 b (S.off.off p (List.mem_of_getElem? q)) hb.1).trans hb.1.symm),I.nd,I.nbn,I.sys,
  fun a o e=>S.keep a o (fun z=>nn (S.off.nb.symm.trans ((ag _ z).symm.trans e))) (I.base a o e)⟩
theorem b_.but (V:b_ X nm env en ρ h)(S:mQ X ρ h h' it)(ho:¬s9 env it):b_ X nm env en ρ h':=
 V.map List.prefix_rfl S.imm (fun a ha o e=>S.keep a o (fun z=>ho (z▸ha)) e) fun a ha=>(V.own a ha).2.1
theorem xY {nmC:Nm}{cl:List (Str×Addr)}{C:Addr}{m:Str->Option Value}(ok:kS nm nmC scope k x)(V:b_ X nm env en ρ h)
 (hcl:∀x a,cl.lookup x=some a->env.cells.lookup x=some a) (hcl':∀x∈scope.names,x.2=.free->∃a,cl.lookup x.1=some a) (g:dY [] ρ ρ h h') (hC:h.get? C=none) (hO:Off X ρ h' C) (hns:h'.Ns C m):
 b_ X nmC (compEnvC scope cl C env) (en.set k none) ρ h':=by
 have V':=V.ext g fun a z=>nomatch z
 have hnm:(compEnvC scope cl C env).scope.names=nmC.names:=by
  rw[ok.names]
  show scope.names.map _=_
  unfold dI;refine List.map_congr_left fun p w=> ?_;simp only[V.kind,V.kindOf,beq_self_eq_true,Bool.and_true]
 refine⟨ok.kind,hnm,V.gl,V.bu,fun a ha=>ha.elim (fun z=>z▸⟨hO.live,hO.off,hO.nb⟩) fun z=>z.elim fun y hy=>V'.own a (.inr ⟨y,hcl y a hy⟩),⟨m,hns⟩,fun n a hn=>V'.cell n a (hcl n a hn),fun j v y hj hy=> ?_,by rw[List.length_set,V.len,ok.len],fun y z a hy hz=>V.apart y z a (hcl y a hy) (hcl z a hz),
  fun y hy=>(V.own C (.inr ⟨y,hcl y C hy⟩)).1.elim fun o q=>nn (hC.symm.trans q),fun y hy=>(ok.celled y hy).elim fun z hz=>(hcl' z hz.1 hz.2.1).imp fun a ha=>hz.2.2▸ha⟩
 have hjk:j≠k:=fun z=>by subst z;have hl:j<en.length:=Nat.lt_of_lt_of_eq (bP hj).1 List.length_set;exact nn (sj ((List.getElem?_set_self hl).symm.trans hj))
 obtain⟨s1,s2,s3,z,hz1,hz2,rfl⟩:=ok.slots j y hjk hy;obtain⟨c,hr,rv⟩:=V'.reads j v z.1 ((List.getElem?_set_ne (Ne.symm hjk)).symm.trans hj) s1;have ek:∀q,env.kindOf z.1=some q->nm.names.lookup z.1=some q:=fun q e=>(V.kindOf z.1).symm.trans e;refine⟨c,.inr ⟨(show(compEnvC scope cl C env).kindOf z.1=nmC.names.lookup z.1 from ag _ hnm)▸s3,(hcl' z hz1 hz2).elim fun a ha=>⟨a,ha,?_⟩⟩,rv⟩;rcases hr with⟨hl,_⟩ | ⟨_,b,hb,hv⟩
 ·exact s2.elim (fun q=>NameKind.noConfusion (sj (q.symm.trans (ek _ hl)))) fun q=>NameKind.noConfusion (sj (q.symm.trans (ek _ hl)))
 ·exact sj (hb.symm.trans (hcl z.1 a ha))▸hv
end
end
end
section
open PySem PySem.W PyProof.Rows
section
section
variable {f:V->H->Option (List V×H)}{chk:H->Bool}{h h':H}{j m:Nat}{ifs:List Expr}{elt:Expr}{E:Value->Shared->Prop}{s:Shared}{zs:List V}{cs:Array Value}{L:LC}{px:Pos}
variable {X:Cx}{gl:List (Str×G)}{nm nmC:Nm}{A:Around}{call:bV}
variable (X nmC A) in
noncomputable def s8 (ifs:List Expr) (elt:Expr) (k:Nat) (en:En) (f:V->H->Option (List V×H)):Prop:=∀ (env:Env) (ρ:dM) (σ:H) (s:Shared) (v:V) (zs:List V) (σ':H) (P:Option Value->Shared->Prop),
 b_ X nmC env (en.set k (some v)) ρ s.heap->Inv X ρ σ s.heap->f v σ=some (zs,σ')->
 (∀ρ' s',Go X [] ρ s ρ' σ' s'->zs=[]->P none s')->(∀ρ' s' c u,Go X [] ρ s ρ' σ' s'->zs=[u]->VR X ρ' s'.heap u c->P (some c) s')->
 wpAny (model X.prog X.w) A (forIn ifs true fun c r=>if r=true then do let ok<-isTrue c env (eval c env);pure (ForInStep.yield ok) else pure (ForInStep.yield r))
  (fun ok ew=>if ok=true then wpAny (model X.prog X.w) A (eval elt env) (fun x kX=>P (some x) kX) eD ew else P none ew) eD s
set_option genInjectivity false in
set_option genSizeOf false in
structure LC where
 nmC:Nm
 ρ:dM
 s:Shared
 it:Addr
 acc:Addr
 xv:V
 cx:Value
 o:Option O
 vs:List V
 f:V->H->Option (List V×H)
 chk:H->Bool
 all:List V
 σ₂:H
 env:Env
 en:En
 k:Nat
 x:Str
inductive CJ (X:Cx) (L:LC) (n:Nat) (s:Shared):Prop
 | mk (ρ':dM) (σ':H) (ys:List V) (cs:Array Value) (m j:Nat) (w:Option V) (zs:List V)
   (go:Go X [L.it,L.acc,L.env.locals] L.ρ L.s ρ' σ' s)
   (hit:dS s.heap L.it L.xv L.cx L.o j)
   (hacc:s.heap.get? L.acc=some (PySem.W.listOf cs m))
   (rel:cp X ρ' s.heap ys cs.toList)
   (env:b_ X L.nmC L.env (L.en.set L.k w) ρ' s.heap)
   (rest:dv L.f L.chk (L.vs.drop j) σ'=some (zs,L.σ₂))
   (tot:L.all=ys++zs)
   (cnt:n=L.vs.length+1-j)
   (oit:Off X ρ' s.heap L.it)
   (oacc:Off X ρ' s.heap L.acc)
structure EJ (X:Cx) (A:Around) (ifs:List Expr) (elt:Expr) (L:LC):Prop where
 turn:s8 X L.nmC A ifs elt L.k L.en L.f
 hh:A.handled=none
 at_:L.nmC.slots[L.k]?=some (some L.x)
 loc:L.nmC.names.lookup L.x=some .local
 only:dQ L.nmC L.k L.x=true
 nit:¬s9 L.env L.it
 nacc:¬s9 L.env L.acc
 ia:L.acc≠L.it
 size:L.all.length≤1000000
 items:kH L.xv L.o=some L.vs
 r:VR X L.ρ L.s.heap L.xv L.cx
 chk:∀σ,L.chk σ=true->eK σ L.xv L.o=true
 fresh:∀a∈[L.it,L.acc,L.env.locals],L.s.heap.get? a=none
 sys:L.acc≠sysModules
theorem wj {M:Model}{α:Type}{m:Sem α}{P:α->Shared->Prop}(h:wpAny M A m P eD s):wpAny M A m P E s:=wpAny_mono h (fun y y z=>z) fun y y z=>z.elim
theorem Ar {α:Type}{c:Bool}{a:Option α}{r:α}(h:(if c=true then a else none)=some r):c=true/\a=some r:=oi h
theorem tR {v:V}{r:List V}(e:dv f chk (v::r) h=some (zs,h')):
 u5 (fun xs ak ys=>f v h=some (xs,ak)) (fun xs ak ys=>dv f chk r ak=some (ys,h')) (fun xs ak ys=>zs=xs++ys):=by
 obtain⟨_,e⟩:=Ar e;obtain⟨xs,ak,hf,e⟩:=mY e;obtain⟨ys,aO,hr,e⟩:=mY e;cases sj e;exact⟨xs,ak,ys,hf,hr,rfl⟩
theorem v5 {l:List V}{r:List V×H}(e:dv f chk l h=some r):chk h=true:=by
 cases l with
 | nil=>exact(Ar e).1
 | cons v l=>exact(Ar e).1
theorem v4 (e:dv f chk [] h=some (zs,h')):zs=[]/\h'=h:=by cases sj (Ar e).2;exact⟨rfl,rfl⟩
theorem rt {α:Type}{l:List α}{u:α}(h:l[j]?=some u):l.drop j=u::l.drop (j+1):=by obtain⟨hj,rfl⟩:=bP h;exact List.drop_eq_getElem_cons hj
theorem cn {n a:Nat}(e:n=a+1-j)(h:j<a):a+1- (j+1)<n:=e▸Nat.sub_lt_sub_left (Nat.lt_succ_of_lt h) (Nat.lt_succ_self j)
theorem qS {h:Heap}{a:Addr}(e:h.get? a=some (PySem.W.listOf cs m)):∀o,h.get? a=some o->¬rJ o:=fun o q hi=>by cases sj (e.symm.trans q);exact hi.1.elim (fun z=>absurd (Value.type.inj z) (by decide)) fun z=>z.elim (fun z=>absurd (Value.type.inj z) (by decide)) fun z=>z.elim fun y z=>Value.noConfusion z
theorem BJ (K:EJ X A ifs elt L){ρ':dM}{s':Shared}{h':Heap}{tk:Nat}{w:Option V}(go:Go X [L.it,L.acc,L.env.locals] L.ρ L.s ρ' L.σ₂ s')(hit:dS s'.heap L.it L.xv L.cx L.o j)
 (hacc:s'.heap.get? L.acc=some (PySem.W.listOf cs m)) (rel:cp X ρ' s'.heap L.all cs.toList) (env:b_ X L.nmC L.env (L.en.set L.k w) ρ' s'.heap) (oit:Off X ρ' s'.heap L.it) (oacc:Off X ρ' s'.heap L.acc) (hxb:Heap.ExtBut L.it s'.heap h'):
 Go X [] L.ρ L.s (ρ'++[(L.acc,L.acc)]) (L.σ₂++[.list L.all]) {s' with heap:=h',toks:=tk}/\(ρ'++[(L.acc,L.acc)])[L.σ₂.length]?=some (L.acc,L.acc)/\Off X (ρ'++[(L.acc,L.acc)]) h' L.env.locals/\∃m,h'.Ns L.env.locals m:=by
 have S:mQ X ρ' s'.heap h' L.it:=⟨oit,fun o e=>hit.live.elim fun o' z=>sj (z.1.symm.trans e)▸z.2.1,hxb⟩;have V5:=env.but S K.nit;have app:∀ {P:Addr×Addr->Prop},(∀q∈ρ',P q)->P (L.acc,L.acc)->∀q∈ρ'++[(L.acc,L.acc)],P q:=fun a b q hq=>(ba hq).elim (a q) fun z=>aB z▸b;have xd:dY [] L.ρ ρ' L.s.heap h':=(go.ext.thenBut (fun b o hb e=>hxb b o hb e) (K.fresh _ (.head _))).drop fun a ha=>.inr (K.fresh a ha);obtain⟨o1,o2,o3⟩:=V5.own L.env.locals (.inl rfl)
 exact⟨⟨(go.inv.but S).adopt (o:=.list L.all) oacc.off oacc.nb K.sys ⟨rfl,K.size,cs,m,hxb _ _ K.ia hacc,(rel.map List.prefix_rfl S.imm).more⟩,
  ⟨xd.pre.trans (List.prefix_append _ _),xd.alive,xd.keep,xd.imm,app xd.new (.inr (K.fresh _ (.tail _ (.head _))))⟩,go.gens,go.os⟩,nk go.inv.len,⟨o1,app o2 fun z=>K.nacc (.inl z),o3⟩,V5.ns⟩
theorem zV {R:Result->Shared->Prop}(K:EJ X A ifs elt L)
 (fin:∀ρ' s',Go X [] L.ρ L.s ρ' (L.σ₂++[.list L.all]) s'->ρ'[L.σ₂.length]?=some (L.acc,L.acc)->Off X ρ' s'.heap L.env.locals->(∃m,s'.heap.Ns L.env.locals m)->R (.ok .next) s') (n:Nat) (s':Shared) (J:CJ X L n s'):
 wpAny (model X.prog X.w) A (pyNext (.ref L.it)) (fun r aR=>match r with
  | none=>R (.ok .next) aR
  | some v=>wpAny (model X.prog X.w) A (assign (.Name L.x px) L.env v) (fun t dw=>
   wpAny (model X.prog X.w) A (forIn ifs true fun c r=>if r=true then do let ok<-isTrue c L.env (eval c L.env);pure (ForInStep.yield ok) else pure (ForInStep.yield r)) (fun ok ew=>
    if ok=true then wpAny (model X.prog X.w) A (eval elt L.env) (fun x kX=>
     wpAny (model X.prog X.w) A (PySem.call (.builtin "list.append") [.ref L.acc,x]) (fun t DU=>∃m,m<n/\CJ X L m DU) E kX) E ew
    else ∃m,m<n/\CJ X L m ew) E dw) E aR) E s':=by
 obtain⟨ρ',σ'',ys,cs,m,j,w,zs,go,hit,hacc,rel,env,rest,tot,cnt,oit,oacc⟩:=J;refine wj (w_next K.hh go.inv (K.r.ext go.ext) K.items (K.chk _ (v5 rest)) hit (fun u h' tk c hu hit' hsb rc=> ?_) fun hn h' tk hxb=> ?_)
 ·have x1:dY [L.it] ρ' ρ' s'.heap h':=dY.own aK hsb (hit'.live.imp fun t z=>z.1) fun o e=>hit.live.elim fun o' z=>sj (z.1.symm.trans e)▸z.2.1
  have I1:=go.inv.own x1 hsb oit.off oit.nb;rw[rt hu] at rest;obtain⟨xs,σ3,zs',hf,hr,rfl⟩:=tR rest;have hjl:=(bP hu).1;refine wj ?_;rw[PySem.assign_Name];refine aq (wpAny_standAt (jf (env.ext x1 fun a ha z=>K.nit (aB ha▸z)) I1 K.at_ K.loc K.only (rc.ext x1) fun s2 g2 V2=> ?_));rw[List.set_set] at V2;have oit1:=oit.ext x1;have oacc1:=oacc.ext x1;have hacc2:s2.heap.get? L.acc=some (PySem.W.listOf cs m):=(oacc1.same g2.ext fun z=>K.nacc (.inl (aB z))).trans ((oacc.same x1 fun z=>K.ia (aB z)).trans hacc);have hit2:=hit'.keep (oit1.same g2.ext fun z=>K.nit (.inl (aB z)));have go2:Go X [L.it,L.acc,L.env.locals] L.ρ L.s ρ' σ'' s2:=(go.trans ⟨I1,x1.mono fun a ha=>aB ha▸ .head _,rfl,rfl⟩:Go X _ L.ρ L.s ρ' σ'' {s' with heap:=h',toks:=tk}).trans (g2.mono fun a ha=>aB ha▸ .tail _ (.tail _ (.head _)));have rel2:=(rel.ext x1).ext g2.ext;have oit2:=oit1.ext g2.ext;have oacc2:=oacc1.ext g2.ext
  refine wj (wpAny_mono (K.turn L.env ρ' σ'' s2 u xs σ3 (fun r s5=>match r with
   | none=>∃m',m'<n/\CJ X L m' s5
   | some c=>wpAny (model X.prog X.w) A (PySem.call (.builtin "list.append") [.ref L.acc,c]) (fun t s6=>∃m',m'<n/\CJ X L m' s6) eD s5) V2 g2.inv hf (fun ρ3 s3 g3 hx=> ?_) fun ρ3 s3 c3 u3 g3 hx r3=> ?_) (fun b s3 hb=> ?_) fun t t z=>z.elim)
  ·subst hx
   exact⟨_,cn cnt hjl,ρ3,σ3,ys,cs,m,j+1,some u,zs',go2.trans g3.of_nil,hit2.keep (oit2.same g3.ext List.not_mem_nil),(oacc2.same g3.ext List.not_mem_nil).trans hacc2,rel2.ext g3.ext,V2.go g3,hr,tot,rfl,oit2.ext g3.ext,oacc2.ext g3.ext⟩
  ·subst hx
   have hacc3:=(oacc2.same g3.ext List.not_mem_nil).trans hacc2;have oit3:=oit2.ext g3.ext;have oacc3:=oacc2.ext g3.ext;refine append_at hacc3 (fun h6 hs6 hg6=> ?_) (room (Nat.le_trans (Nat.le_of_eq rel2.size.symm) (Nat.le_trans (Nat.le_add_right _ _) (Nat.le_trans (Nat.le_of_eq ((ag List.length tot).trans bd).symm) K.size))));have x6:dY [L.acc] ρ3 ρ3 s3.heap h6:=dY.own (.head _) hs6 ⟨_,hg6⟩ (qS hacc3)
   exact⟨_,cn cnt hjl,ρ3,σ3,ys++[u3],cs.push c3,m+1,j+1,some u,zs',(go2.trans g3.of_nil).trans ⟨g3.inv.own x6 hs6 oacc3.off oacc3.nb,x6.mono fun a ha=>aB ha▸ .tail _ (.head _),rfl,rfl⟩,
    (hit2.keep (oit2.same g3.ext List.not_mem_nil)).keep (oit3.same x6 fun z=>K.ia (aB z).symm),hg6,(show cp X ρ3 h6 (ys++[u3]) (cs.push c3).toList from(Array.toList_push (xs:=cs) (x:=c3)).symm▸((rel2.ext g3.ext).ext x6).append (.cons (r3.ext x6) .nil)),(V2.go g3).ext x6 fun a ha z=>K.nacc (aB ha▸z),hr,tot.trans (aH _ _ _).symm,rfl,oit3.ext x6,oacc3.ext x6⟩
  ·cases b with
   | true=>exact wj (wpAny_mono hb (fun y s4 h4=>wj h4) fun t t z=>z.elim)
   | false=>exact hb
 ·rw[List.drop_eq_nil_of_le (List.getElem?_eq_none_iff.mp hn)] at rest
  obtain⟨rfl,rfl⟩:=v4 rest;obtain⟨a,b,c,d⟩:=BJ (tk:=tk) K go hit hacc ((tot.trans (List.append_nil _)).symm▸rel) env oit oacc hxb;exact fin _ _ a b c d
theorem mm {iter:Expr}{scope:Scope}{pos p:Pos}{x:Str}{k:Nat}{itX:Ex}{env:Env}{en:En}{ρ:dM}{σ aQ σ₂ σ':H}{xv v:V}{vs ys:List V}
 {use:Option (Value->Sem Unit)} {Q:Value->Shared->Prop} (ok:kS nm nmC scope k x) (turn:s8 X nmC A ifs elt k en f) (hs:∀z,foldedSetIterable iter env z=pure z) (ha:Ev X gl nm A call iter itX) (Hh:eX X gl A call)
 (V:b_ X nm env en ρ s.heap) (I:Inv X ρ σ s.heap) (e1:ax call itX en σ=some (xv,aQ)) (e2:items aQ xv=some vs) (e3:dv f (fun h=>eK h xv (fS aQ xv)) vs aQ=some (ys,σ₂)) (e4:dW σ₂ ys=some (v,σ'))
 (fin:∀ρ' s' c C,Go X [] ρ s ρ' σ' s'->VR X ρ' s'.heap v c->Off X ρ' s'.heap C->s.heap.get? C=none->(∃m,s'.heap.Ns C m)->compPost (model X.prog X.w) A eD use Q c C (.ok .next) s'):
 wpAny (model X.prog X.w) A (comprehension (.ListComp elt [⟨.Name x px,iter,ifs,0⟩] scope pos) scope env p (newList []) false (eval iter env) use) Q eD s:=by
 obtain⟨cl,hcl,cl1,cl2⟩:=tS (env:=env) (scope:=scope) fun y hy hf=>V.celled y.1 (ok.frees y hy hf);refine wpAny_comprehension_free rfl hs hcl ok.kind ok.nodup (ha.ok Hh env en ρ σ s xv aQ _ V I e1 fun aT aR cx aI bv=>th aI.inv bv e2 fun oi hit=> ?_);refine wpAny_newObj_type (wpAny_newFunctionEnv ok.nocell (fun y hy=>absurd hy List.not_mem_nil) (fun ak hns hsb=> ?_) ok.kind)
 dsimp only at hns hsb⊢
 have hz1:(aR.heap.push oi).objs.size=aR.heap.objs.size+1:=Heap.size_push ..;have up0:∀b o,aR.heap.get? b=some o->(aR.heap.push oi).get? b=some o:=fun b o=>Heap.get?_push_of_some _;obtain⟨o1,n0,_⟩:=hit.live
 generalize aR.heap.push oi=H2 at hz1 up0 n0 hit hns hsb⊢
 have hz3:(H2.push {cls:=.type "list",dict:=none,data:=.seq ([]:List Value).toArray}).objs.size=H2.objs.size+1:=Heap.size_push ..;have up2:∀b o,H2.get? b=some o->(H2.push {cls:=.type "list",dict:=none,data:=.seq ([]:List Value).toArray}).get? b=some o:=fun b o=>Heap.get?_push_of_some _;have n2:(H2.push {cls:=.type "list",dict:=none,data:=.seq ([]:List Value).toArray}).get? H2.objs.size=some (PySem.W.listOf #[] 0):=Heap.get?_push_size _ rfl
 generalize H2.push {cls:=.type "list",dict:=none,data:=.seq ([]:List Value).toArray}=H3 at hz3 up2 n2 hns hsb⊢
 have up3:∀b o,H3.get? b=some o->ak.get? b=some o:=fun b o e=>hsb.extBut b o (Nat.ne_of_lt (Heap.lt_size e)) (Heap.get?_push_of_some _ e);have keep:∀b o,aR.heap.get? b=some o->ak.get? b=some o:=fun b o e=>up3 b o (up2 b o (up0 b o e));have haccv:=up3 _ _ n2;have hitAt:=hit.keep ((up3 _ _ (up2 _ _ n0)).trans n0.symm);have hitv:=up3 _ _ (up2 _ _ n0)
 clear up3 up2 n2 up0 hsb hit n0
 generalize H2.objs.size=acc at*
 generalize H3.objs.size=C at*
 have ha1:aR.heap.objs.size≤acc:=hz1▸Nat.le_succ _;have hc1:aR.heap.objs.size≤C:=hz3▸Nat.le_succ_of_le ha1;have offn:∀a,aR.heap.objs.size≤a->(∃o,ak.get? a=some o)->Off X aT ak a:=fun a hle hl=>⟨hl,(aI.inv.fresh hle).1,(aI.inv.fresh hle).2.1⟩;have nown:∀a,aR.heap.objs.size≤a->a≠C->¬s9 (compEnvC scope cl C env) a:=fun a hle hne z=>z.elim hne fun z=>z.elim fun y z=>((V.go aI).own _ (.inr ⟨y,cl1 y _ z⟩)).1.elim fun o q=>nn ((cJ hle).symm.trans q);have g4:Go X [] aT aR aT aQ {aR with heap:=ak}:=Go.grow aI.inv keep rfl rfl;have E0:=xY ok (V.go aI) cl1 cl2 g4.ext (cJ hc1) (offn _ hc1 (hns.imp fun u z=>z.elim fun u z=>z.elim fun u z=>z.1)) hns;obtain⟨hl,e4⟩:=Mine.oi e4;cases sj e4
 have K:EJ X A ifs elt ⟨nmC,aT,aR,aR.heap.objs.size,acc,xv,cx,fS aQ xv,vs,f,fun h=>eK h xv (fS aQ xv),ys,σ₂,compEnvC scope cl C env,en,k,x⟩:=
  ⟨turn,Hh.hh,ok.at_,ok.loc,ok.only,nown _ (Nat.le_refl _) (Nat.ne_of_lt (hz3▸Nat.lt_succ_of_le ha1)),nown _ ha1 (hz3▸Nat.ne_of_lt (Nat.lt_succ_self _)),hz1▸Nat.succ_ne_self _,hl,(l_ _ _).symm.trans e2,bv,fun u z=>z,
   fun a ha=>(a_ ha).elim (fun z=>z▸cJ (Nat.le_refl _)) fun ha=>(a_ ha).elim (fun z=>z▸cJ ha1) fun ha=>aB ha▸cJ hc1,(aI.inv.fresh ha1).2.2⟩
 have loop:∀kX:Shared,kX={aR with heap:=ak,toks:=aR.toks+([]:List (Str×Value)).length}->
  codeAny (model X.prog X.w) A (.compLoop (.ListComp elt [⟨.Name x px,iter,ifs,0⟩] scope pos) 0 (.ref aR.heap.objs.size) (.ref acc) (compEnvC scope cl C env)) (compPost (model X.prog X.w) A eD use Q (.ref acc) C) kX:=fun kX hs₄=>
  codeAny_compLoop_tests _ (zV K fun ρ' s' g hr o m=>fin ρ' s' _ _ (aI.trans g) (VR.ref hr) o (by
   cases q:s.heap.get? C with
   | none=>rfl
   | some o=>exact(aI.ext.alive _ _ q).elim fun u z=>nn ((cJ hc1).symm.trans z)) m) (vs.length+1) (hs₄▸⟨aT,aQ,[],#[],0,0,none,ys,⟨g4.inv,g4.ext.mono (fun a z=>nomatch z),rfl,rfl⟩,hitAt,haccv,.nil,E0,e3,rfl,rfl,offn _ (Nat.le_refl _) ⟨_,hitv⟩,offn _ ha1 ⟨_,haccv⟩⟩)
 exact codeAny_compStart_list (loop _ rfl) (tf hitAt (loop _ rfl))
end
end
end
section
open PySem PySem.W PyProof.Rows
section
section
variable {k:Nat}{elt iter c:Expr}{eltX itX cX it:Ex}{en e:En}{v:V}{ρ ρ':dM}{h':Heap}{C:Addr}{m:Str->Option Value}{scope:Scope}{pos px:Pos}{x:Str}{h σ':H}{s s':Shared}
variable {X:Cx}{gl:List (Str×G)}{nm nmC:Nm}{A:Around}{call:bV}
noncomputable def Di (call:bV) (elt:Ex) (k:Nat) (e:En):V->H->Option (List V×H):=fun v h=>match ax call elt (e.set k (some v)) h with
 | some (y,h')=>some ([y],h')
 | none=>none
noncomputable def E7 (call:bV) (elt:Ex) (k:Nat) (c:Ex) (e:En):V->H->Option (List V×H):=fun v h=>match ax call c (e.set k (some v)) h with
 | some (t,h')=>match truthy h' t with
   | some true=>match ax call elt (e.set k (some v)) h' with
     | some (y,h'')=>some ([y],h'')
     | none=>none
   | some false=>some ([],h')
   | none=>none
 | none=>none
theorem pY (Hh:eX X gl A call)(he:Ev X gl nmC A call elt eltX):s8 X nmC A [] elt k en (Di call eltX k en):=fun env ρ σ s v zs σ' P V I hf h0 h1=>by obtain⟨y,h',hy,e⟩:=ip hf;cases sj e;rw[List.forIn_nil];exact aL (ap rfl▸he.ok Hh env _ ρ σ s y _ _ V I hy fun ρ' s' c g r=>h1 ρ' s' c y g rfl r)
theorem wB (Hh:eX X gl A call)(he:Ev X gl nmC A call elt eltX)(hc:Cd X gl nmC A call c cX):s8 X nmC A [c] elt k en (E7 call eltX k cX en):=fun env ρ σ s v zs σ' P V I hf h0 h1=>by
 obtain⟨t,h',ht,e⟩:=ip hf;rw[List.forIn_cons];refine aq ?_;rw[ap rfl];rcases vw e with⟨hb,e⟩ | ⟨hb,e⟩
 ·obtain⟨y,h'',hy,e⟩:=ip e
  cases sj e;refine aq (hc.ok Hh env _ ρ σ s t true _ _ V I ht hb fun aT aR aI=>aL ?_);exact aL (show if true=true then _ else _ from ap rfl▸he.ok Hh env _ aT _ aR y _ _ (V.go aI) aI.inv hy fun ρ' s' c g r=>h1 ρ' s' c y (aI.trans g) rfl r)
 ·cases sj e
  refine aq (hc.ok Hh env _ ρ σ s t false _ _ V I ht hb fun aT aR aI=>aL ?_);exact aL (show if false=true then _ else _ from h0 aT aR aI rfl)
theorem oR {elt:Ex}{h':H}(ev:ax call (.comp elt k it) e h=some (v,h')):ym (fun x ak vs ys aO=>ax call it e h=some (x,ak)) (fun x ak vs ys aO=>items ak x=some vs) (fun x ak vs ys aO=>dv (Di call elt k e) (fun h=>eK h x (fS ak x)) vs ak=some (ys,aO)) (fun x ak vs ys aO=>dW aO ys=some (v,h')):=by obtain⟨x,ak,hx,ev⟩:=ip ev;obtain⟨vs,hvs,ev⟩:=xe ev;obtain⟨ys,aO,hc,ev⟩:=mY ev;exact⟨x,ak,vs,ys,aO,hx,hvs,hc,ev⟩
theorem rp {elt:Ex}{c:Ex}{h':H}(ev:ax call (.compIf elt k it c) e h=some (v,h')):ym (fun x ak vs ys aO=>ax call it e h=some (x,ak)) (fun x ak vs ys aO=>items ak x=some vs) (fun x ak vs ys aO=>dv (E7 call elt k c e) (fun h=>eK h x (fS ak x)) vs ak=some (ys,aO)) (fun x ak vs ys aO=>dW aO ys=some (v,h')):=by obtain⟨x,ak,hx,ev⟩:=ip ev;obtain⟨vs,hvs,ev⟩:=xe ev;obtain⟨ys,aO,hc,ev⟩:=mY ev;exact⟨x,ak,vs,ys,aO,hx,hvs,hc,ev⟩
theorem nL {h:Heap}(O:Off X ρ h C)(hn:h.Ns C m)(hs:Heap.SameBut C h h'):mQ X ρ h h' C:=
 ⟨O,fun o' e hi=>hn.elim fun o z=>z.elim fun y z=>z.elim fun y z=>hi.2.1 _ _ (sj (e.symm.trans z.1)▸z.2.1),hs.extBut⟩
theorem ox {E:List Addr}(g:Go X E ρ s ρ' σ' s')(O:Off X ρ' s'.heap C)(hC:s.heap.get? C=none)(hn:s'.heap.Ns C m)(hs:Heap.SameBut C s'.heap h'):Go X E ρ s ρ' σ' {s' with heap:=h'}:=
 ⟨g.inv.but (nL O hn hs),g.ext.thenBut (fun b o hb e=>hs.extBut b o hb e) hC,g.gens,g.os⟩
theorem rV {c:Value}(r:VR X ρ' s'.heap v c)(O:Off X ρ' s'.heap C)(hn:s'.heap.Ns C m)(hs:Heap.SameBut C s'.heap h'):VR X ρ' h' v c:=r.map List.prefix_rfl (nL O hn hs).imm
theorem BG (nmC:Nm)(ok:kS nm nmC scope k x)(hs:∀env z,foldedSetIterable iter env z=pure z)(ha:Ev X gl nm A call iter itX)(he:Ev X gl nmC A call elt eltX):
 Ev X gl nm A call (.ListComp elt [⟨.Name x px,iter,[],0⟩] scope pos) (.comp eltX k itX):=.of fun Hh env en ρ σ s Q V I q9 e h=>by
 obtain⟨xv,aQ,vs,ys,σ₂,e1,e2,e3,e4⟩:=oR e;exact mm (use:=none) ok (pY Hh he) (hs env) ha Hh V I e1 e2 e3 e4 fun ρ' s' c C g r O hC hn=>hn.imp fun m hn=>⟨hn,fun h' hs'=>h ρ' _ c (ox g O hC hn hs') (rV r O hn hs')⟩
theorem xW (nmC:Nm)(ok:kS nm nmC scope k x)(hs:∀env z,foldedSetIterable iter env z=pure z)(ha:Ev X gl nm A call iter itX)(he:Ev X gl nmC A call elt eltX)(hc:Cd X gl nmC A call c cX):
 Ev X gl nm A call (.ListComp elt [⟨.Name x px,iter,[c],0⟩] scope pos) (.compIf eltX k itX cX):=.of fun Hh env en ρ σ s Q V I q9 e h=>by
 obtain⟨xv,aQ,vs,ys,σ₂,e1,e2,e3,e4⟩:=rp e;exact mm (use:=none) ok (wB Hh he hc) (hs env) ha Hh V I e1 e2 e3 e4 fun ρ' s' c C g r O hC hn=>hn.imp fun m hn=>⟨hn,fun h' hs'=>h ρ' _ c (ox g O hC hn hs') (rV r O hn hs')⟩
theorem ti {ifs:List Expr}{pt p0:Pos}{t:Str}{kt:Nat}{f:V->H->Option (List V×H)}{env:Env}{σ aQ σ₂:H}{xv:V}{vs ys:List V}
 {Q:Flow->Shared->Prop} (ok:kS nm nmC scope k x) (turn:s8 X nmC A ifs elt k en f) (hs:∀env z,foldedSetIterable iter env z=pure z) (ha:Ev X gl nm A call iter itX) (Hh:eX X gl A call)
 (V:b_ X nm env en ρ s.heap) (I:Inv X ρ σ s.heap) (e1:ax call itX en σ=some (xv,aQ)) (e2:items aQ xv=some vs) (e3:dv f (fun h=>eK h xv (fS aQ xv)) vs aQ=some (ys,σ₂)) (e4:dW σ₂ ys=some (v,σ'))
 (hts:nm.slots[kt]?=some (some t)) (htl:nm.names.lookup t=some .local) (hto:dQ nm kt t=true)
 (hsw:∀env:Env,env.scope.kind=.function->env.kindOf t=some .local->swapsWith (.ListComp elt [⟨.Name x px,iter,ifs,0⟩] scope pos) (some (.Name t pt)) p0.line env=pure true)
 (h:∀ρ' s',Go X (gx env) ρ s ρ' σ' s'->b_ X nm env (en.set kt (some v)) ρ' s'.heap->Q .next s'):
 wpAny (model X.prog X.w) A (PySem.exec (.Assign [.Name t pt] (.ListComp elt [⟨.Name x px,iter,ifs,0⟩] scope pos) p0) env) Q eD s:=by
 rw[exec_Assign_Name_used _ _ _ _ (hsw env V.kind ((V.kindOf t).trans htl))];refine aq (wpAny_standAt (aq ?_))
 show wpAny _ A (do let _<-comprehension _ scope env iter.pos (newList []) false (eval iter env) (some (assign (.Name t pt) env))) _ eD s
 refine aq (mm (use:=some (assign (.Name t pt) env)) (Q:=fun y s'=>wpAny (model X.prog X.w) A (pure ()) (fun y s'=>wpAny (model X.prog X.w) A (pure Flow.next) Q eD s') eD s') ok turn (hs env) ha Hh V I e1 e2 e3 e4 fun ρ' s' c C g r O hC hn=> ?_)
 show wpAny _ A (assign (.Name t pt) env c) _ eD s'
 rw[PySem.assign_Name];refine aq (wpAny_standAt (jf (V.go g) g.inv hts htl hto r fun s2 g2 V2=> ?_));have nown:¬s9 env C:=fun z=>(V.own C z).1.elim fun o q=>nn (hC.symm.trans q);have hsame:=O.same g2.ext fun z=>nown (.inl (aB z))
 exact hn.imp fun m hn=>
  have hn2:=tA (fun o q=>hsame.trans q) hn
  ⟨hn2,fun h' hs'=>aL (aL (h ρ' _ (ox (g.of_nil.trans (g2.mono fun a ha=>aB ha▸aK)) (O.ext g2.ext) hC hn2 hs') (V2.but (nL (O.ext g2.ext) hn2 hs') nown)))⟩
end
end
end
section
open PySem PySem.W PyProof.Rows
section
variable {pos apos cpos:Pos}{x y:Ex}{a t o i value l:Expr}{st:Stmt}{r:Fl×En×H}{env:Env}
variable {X:Cx}{gl:List (Str×G)}{nm nmC:Nm}{A:Around}{call:bV}
inductive rO (X:Cx) (ρ:dM) (h:Heap):Fl->Flow->Prop
 | next:rO X ρ h .next .next
 | cont:rO X ρ h .cont .cont
 | ret {v:V} {c:Value}:VR X ρ h v c->rO X ρ h (.ret v) (.ret c)
variable (X gl nm A call) in
structure rH (st:Stmt) (x:St):Prop where
 ok:eX X gl A call->∀ (N:Nat) (env:Env) (en:En) (ρ:dM) (σ:H) (s:Shared) (fl:Fl) (en':En) (σ':H) (Q:Flow->Shared->Prop),b_ X nm env en ρ s.heap->Inv X ρ σ s.heap->
 exec call N x en σ=some (fl,en',σ')->(∀ρ' s' f,Go X (gx env) ρ s ρ' σ' s'->b_ X nm env en' ρ' s'.heap->rO X ρ' s'.heap fl f->Q f s')->wpAny (model X.prog X.w) A (PySem.exec st env) Q eD s
variable (X gl nm A call) in
structure ij (sts:List Stmt) (xs:dz):Prop where
 ok:eX X gl A call->∀ (N:Nat) (env:Env) (en:En) (ρ:dM) (σ:H) (s:Shared) (fl:Fl) (en':En) (σ':H) (Q:Flow->Shared->Prop),b_ X nm env en ρ s.heap->Inv X ρ σ s.heap->
 execs call N xs en σ=some (fl,en',σ')->(∀ρ' s' f,Go X (gx env) ρ s ρ' σ' s'->b_ X nm env en' ρ' s'.heap->rO X ρ' s'.heap fl f->Q f s')->wpAny (model X.prog X.w) A (PySem.execs sts env) Q eD s
variable (X gl nm A call) in
structure BW (t:Expr) (x:Tg):Prop where
 ok:eX X gl A call->∀ (env:Env) (en:En) (ρ:dM) (σ:H) (s:Shared) (v:V) (c:Value) (en':En) (σ':H) (Q:Unit->Shared->Prop),b_ X nm env en ρ s.heap->Inv X ρ σ s.heap->VR X ρ s.heap v c->
 j_ call x v en σ=some (en',σ')->(∀ρ' s',Go X (gx env) ρ s ρ' σ' s'->b_ X nm env en' ρ' s'.heap->Q () s')->wpAny (model X.prog X.w) A (assign t env c) Q eD s
theorem rH.of {x:St}(H:eX X gl A call->∀ (N:Nat) (env:Env) (en:En) (ρ:dM) (σ:H) (s:Shared) (Q:Flow->Shared->Prop),b_ X nm env en ρ s.heap->Inv X ρ σ s.heap->∀r,exec call N x en σ=some r->
 (∀ρ' s' f,Go X (gx env) ρ s ρ' r.2.2 s'->b_ X nm env r.2.1 ρ' s'.heap->rO X ρ' s'.heap r.1 f->Q f s')->wpAny (model X.prog X.w) A (PySem.exec st env) Q eD s):rH X gl nm A call st x:=⟨fun Hh N env en ρ σ s fl en' σ' Q V I e h=>H Hh N env en ρ σ s Q V I (fl,en',σ') e h⟩
theorem ij.of {st:List Stmt}{x:dz}(H:eX X gl A call->∀ (N:Nat) (env:Env) (en:En) (ρ:dM) (σ:H) (s:Shared) (Q:Flow->Shared->Prop),b_ X nm env en ρ s.heap->Inv X ρ σ s.heap->∀r,execs call N x en σ=some r->
 (∀ρ' s' f,Go X (gx env) ρ s ρ' r.2.2 s'->b_ X nm env r.2.1 ρ' s'.heap->rO X ρ' s'.heap r.1 f->Q f s')->wpAny (model X.prog X.w) A (PySem.execs st env) Q eD s):ij X gl nm A call st x:=⟨fun Hh N env en ρ σ s fl en' σ' Q V I e h=>H Hh N env en ρ σ s Q V I (fl,en',σ') e h⟩
theorem BW.of {x:Tg}(H:eX X gl A call->∀ (env:Env) (en:En) (ρ:dM) (σ:H) (s:Shared) (v:V) (c:Value) (Q:Unit->Shared->Prop),b_ X nm env en ρ s.heap->Inv X ρ σ s.heap->VR X ρ s.heap v c->∀r,j_ call x v en σ=some r->
 (∀ρ' s',Go X (gx env) ρ s ρ' r.2 s'->b_ X nm env r.1 ρ' s'.heap->Q () s')->wpAny (model X.prog X.w) A (assign t env c) Q eD s):BW X gl nm A call t x:=⟨fun Hh env en ρ σ s v c en' σ' Q V I r e h=>H Hh env en ρ σ s v c Q V I r (en',σ') e h⟩
theorem rO.nextR {ρ:dM}{h:Heap}{fl:Fl}(r:rO X ρ h fl .next):fl=.next:=by cases r;rfl
theorem Bi {o:mx}{g:En->H->mx}(h:(match o with | some (.next,bt,ak)=>g bt ak | some (.cont,bt,ak)=>some (.cont,bt,ak) | some (.ret v,bt,ak)=>some (.ret v,bt,ak) | none=>none)=some r):
 (cD (fun bt ak=>o=some (.next,bt,ak)) (fun bt ak=>g bt ak=some r))\/(o=some r/\∀bt ak,r≠(.next,bt,ak)):=by
 cases o with
 | none=>exact nn h
 | some p=>
   obtain⟨fl,bt,ak⟩:=p;cases fl with
   | next=>exact .inl ⟨bt,ak,rfl,h⟩
   | _=>exact .inr ⟨h,fun y y z=>Fl.noConfusion (ag (·.1) (sj (h.trans (ag some z))))⟩
theorem zf {o:Option (En×H)}(h:(o.map fun(cK,aO)=>(Fl.next,cK,aO))=some r):bp (fun q=>o=some q) (fun q=>r=(.next,q)):=by
 cases o with
 | none=>exact nn h
 | some p=>exact⟨p,rfl,(sj h).symm⟩
theorem D2 {β:Type}{o:Option V}{g:Int->Option β}{r:β}(h:(match o with | some (.int x)=>g x | _=>none)=some r):bp (fun x=>o=some (.int x)) (fun x=>g x=some r):=by
 cases o with
 | none=>exact nn h
 | some v=>cases v with
   | int x=>exact⟨x,rfl,h⟩
   | _=>exact nn h
theorem ay:ij X gl nm A call [] .nil:=.of fun Hh N env en ρ σ s Q V I r e h=>by cases sj e;exact wpAny_execs_nil (h ρ s .next (Go.refl I) V .next)
theorem ai {sts:List Stmt}{x:St}{xs:dz}(h1:rH X gl nm A call st x)(h2:ij X gl nm A call sts xs):ij X gl nm A call (st::sts) (.cons x xs):=.of fun Hh N env en ρ σ s Q V I r e h=>by
 refine wpAny_execs_cons ?_;rcases Bi e with⟨bt,aQ,hx,e⟩ | ⟨hx,hn⟩
 ·refine h1.ok Hh N env en ρ σ s .next bt aQ _ V I hx fun aT aR f aI iP hf=> ?_
  cases hf;exact h2.ok Hh N env bt aT aQ aR r.1 r.2.1 r.2.2 Q iP aI.inv e fun ρ' s' f aZ ms hf=>h _ _ _ (aI.trans aZ) ms hf
 ·refine h1.ok Hh N env en ρ σ s r.1 r.2.1 r.2.2 _ V I hx fun aT aR f aI iP hf=> ?_
  have hf':=h _ _ _ aI iP hf;cases f with
  | next=>exact(hn r.2.1 r.2.2 (Prod.ext hf.nextR rfl)).elim
  | _=>exact hf'
theorem bc (k:Nat){x:Str}(hs:nm.slots[k]?=some (some x))(hk:nm.names.lookup x=some .local\/nm.names.lookup x=some .cell)(ho:dQ nm k x=true):BW X gl nm A call (.Name x pos) (.name k):=.of fun Hh env en ρ σ s v c Q V I r q e h=>by cases sj (oi e).2;rw[PySem.assign_Name];exact aq (wpAny_standAt (qx V I hs hk ho r fun s' g V'=>h ρ s' g V'))
theorem bQ {n:Str}{c f:Nat}(ho:Ev X gl nm A call o x)(hn:(cO c)[f]?=some n:=by exact rfl):BW X gl nm A call (.Attribute o n pos) (.attr x c f):=.of fun Hh env en ρ σ s v cv Q V I r q e h=>by
 obtain⟨u,aQ,hu,e⟩:=ip e;obtain⟨σ₂,hz,e⟩:=om e;cases e
 show wpAny _ A (do let ov<-holding [cv] (eval o env);standAt pos.atName;holding [cv,ov] (PySem.setAttr ov n cv);release [cv,ov] []) Q eD s
 refine aq (wpAny_holding (ho.ok Hh env en ρ σ s u aQ _ V I hu fun aT aR d aI bv=>aq (wpAny_standAt (aq (wpAny_holding ?_)))));exact u8 Hh.W.amb hn aI.inv bv (r.ext aI.ext) hz fun s' aZ=>wpAny_release' (h aT s' (aI.trans aZ).of_nil ((V.go aI).go aZ))
theorem gy (ho:Ev X gl nm A call o x)(hi:Ev X gl nm A call i y):BW X gl nm A call (.Subscript o i pos) (.sub x y):=.of fun Hh env en ρ σ s v cv Q V I r q e h=>by obtain⟨u,aQ,hu,e⟩:=ip e;obtain⟨w,σ₂,hw,e⟩:=ip e;obtain⟨mz,hz,e⟩:=om e;cases e;rw[PySem.assign_Subscript];refine aq (wpAny_holding (ho.ok Hh env en ρ σ s u aQ _ V I hu fun aT aR d aI bv=>aq (wpAny_holding (hi.ok Hh env en aT aQ aR w σ₂ _ (V.go aI) aI.inv hw fun dA dw Fu aZ fg=>aq (wpAny_standAt (aq (wpAny_holding ?_)))))));exact pV aZ.inv Hh.r9 (bv.ext aZ.ext) fg (r.ext (aI.trans aZ).ext) hz fun s' bZ=>wpAny_release' (h dA s' ((aI.trans aZ).trans bZ).of_nil (((V.go aI).go aZ).go bZ))
structure t_ (nm:Nm) (t:Expr) (value:Expr) (pos:Pos):Prop where
 swaps:∀env:Env,env.scope.kind=.function->env.scope.names=nm.names->swapsWith value (some t) pos.line env=pure false
 stores:∀env:Env,env.scope.kind=.function->env.scope.names=nm.names->swappedStores [t] value env=pure none
 star:cH t=true
theorem jJ {s:Shared}{Q:Flow->Shared->Prop}(P:t_ nm t value pos)(hk:env.scope.kind=.function)(hn:env.scope.names=nm.names)
 (h:wpAny (model X.prog X.w) A (eval value env) (fun c aR=>wpAny (model X.prog X.w) A (assign t env c) (fun y dw=>Q .next dw) eD aR) eD s):wpAny (model X.prog X.w) A (PySem.exec (.Assign [t] value pos) env) Q eD s:=by
 rw[exec_Assign];refine aq (wpAny_standAt ?_);rw[show swapsWithSole [t] value pos.line env=pure false from P.swaps env hk hn];refine aq (aL ?_);rw[au (by decide)]
 refine aq (wpAny_mono h (fun v aR ak=> ?_) fun y y x=>x);rw[P.stores env hk hn,gJ P.star];refine aq (aL ?_)
 show wpAny _ A (do assignAll v [assign t env];pure .next) Q eD aR
 exact aq (wpAny_mono ak (fun y y x=>aL x) fun y y x=>x)
theorem aG {tx:Tg}(hv:Ev X gl nm A call value x)(ht:BW X gl nm A call t tx)(P:t_ nm t value pos:=by exact⟨fun y y y=>rfl,fun y y y=>rfl,rfl⟩):rH X gl nm A call (.Assign [t] value pos) (.assign tx x):=.of fun Hh N env en ρ σ s Q V I r e h=>by
 obtain⟨v,aQ,hu,e⟩:=ip e;obtain⟨q,hz,rfl⟩:=zf e
 exact jJ P V.kind V.names (hv.ok Hh env en ρ σ s v aQ _ V I hu fun aT aR c aI bv=>
  ht.ok Hh env en aT aQ aR v c q.1 q.2 _ (V.go aI) aI.inv bv hz fun ρ' s' aZ ms=>h ρ' s' .next (aI.of_nil.trans aZ) ms .next)
theorem qJ {elt iter:Expr}{scope:Scope}{px pt p0:Pos}{x t:Str}{k kt:Nat}{eltX itX:Ex}(nmC:Nm)(ok:kS nm nmC scope k x)(hs:∀env z,foldedSetIterable iter env z=pure z)(ha:Ev X gl nm A call iter itX)(he:Ev X gl nmC A call elt eltX)
 (hts:nm.slots[kt]?=some (some t)) (htl:nm.names.lookup t=some .local) (hto:dQ nm kt t=true)
 (hsw:∀env:Env,env.scope.kind=.function->env.kindOf t=some .local->swapsWith (.ListComp elt [⟨.Name x px,iter,[],0⟩] scope pos) (some (.Name t pt)) p0.line env=pure true):
 rH X gl nm A call (.Assign [.Name t pt] (.ListComp elt [⟨.Name x px,iter,[],0⟩] scope pos) p0) (.assign (.name kt) (.comp eltX k itX)):=.of fun Hh N env en ρ σ s Q V I r e h=>by
 obtain⟨v,aQ,hu,e⟩:=ip e;obtain⟨q,hz,rfl⟩:=zf e;cases sj (oi hz).2;obtain⟨xv,aQ,vs,ys,σ₂,e1,e2,e3,e4⟩:=oR hu;exact ti ok (pY Hh he) hs ha Hh V I e1 e2 e3 e4 hts htl hto hsw fun ρ' s' g V'=>h ρ' s' .next g V' .next
theorem cG {c:Expr}{a b:List Stmt}{xa xb:dz}(hc:Cd X gl nm A call c x)(ha:ij X gl nm A call a xa)(hb:ij X gl nm A call b xb):rH X gl nm A call (.If c a b pos) (.if_ x xa xb):=.of fun Hh N env en ρ σ s Q V I r e h=>by
 obtain⟨v,aQ,hu,e⟩:=ip e;rcases vw e with⟨ht,e⟩ | ⟨ht,e⟩
 ·exact wpAny_If (hc.ok Hh env en ρ σ s v true aQ _ V I hu ht fun aT aR aI=>ha.ok Hh N env en aT aQ aR r.1 r.2.1 r.2.2 Q (V.go aI) aI.inv e fun ρ' s' f aZ ms hf=>h _ _ _ (aI.of_nil.trans aZ) ms hf)
 ·exact wpAny_If (hc.ok Hh env en ρ σ s v false aQ _ V I hu ht fun aT aR aI=>hb.ok Hh N env en aT aQ aR r.1 r.2.1 r.2.2 Q (V.go aI) aI.inv e fun ρ' s' f aZ ms hf=>h _ _ _ (aI.of_nil.trans aZ) ms hf)
theorem bI (ha:Ev X gl nm A call a x):rH X gl nm A call (.Return (some a) pos) (.ret x):=.of fun Hh N env en ρ σ s Q V I r e h=>by obtain⟨v,aQ,hu,e⟩:=ip e;cases sj e;exact wpAny_Return_some (ha.ok Hh env en ρ σ s v _ _ V I hu fun aT aR c aI bv=>h _ _ _ aI.of_nil (V.go aI) (.ret bv))
theorem lW:rH X gl nm A call (.Continue pos) .cont:=.of fun Hh N env en ρ σ s Q V I r e h=>by cases sj e;exact wpAny_Continue (h _ _ _ (Go.refl I) V .cont)
theorem CT:rH X gl nm A call st .bad:=.of fun Hh N env en ρ σ s Q V I r e h=>by exact nn e
theorem eH (h:env.scope.kind=.function):interactive env=false:=by unfold interactive;rw[h];rfl
theorem cj (he:fy l "append" apos cpos [a])(hs:cH a=true)(hl:Ev X gl nm A call l x)(ha:Ev X gl nm A call a y):
 rH X gl nm A call (.Expr (.Call (.Attribute l "append" apos) [a] [] cpos) pos) (.append x y):=.of fun Hh N env en ρ σ s Q V I r e h=>by
 obtain⟨b,aQ,hu,e⟩:=n6 e;obtain⟨vs0,hz0,e⟩:=tz e;obtain⟨v,σ₂,hv,e⟩:=ip e;obtain⟨vs,hz,e⟩:=tz e;obtain⟨hlen,e⟩:=oi e;cases sj e;refine wpAny_Expr (lS F.plainAttrs_list F.slot_list_append F.type_list_append he (by rw[eF hs];rfl) (hl.ok Hh env en ρ σ s _ _ _ V I hu fun aT aR c aI bv=> ?_)) (eH V.kind)
 obtain⟨k1,k2⟩:=hY aI.inv bv hz0;exact⟨k1,k2,ni hs (ha.ok Hh env en aT _ aR _ _ _ (V.go aI) aI.inv hv fun dA dw d aZ fg=>wx aZ.inv (bv.ext aZ.ext) fg hz hlen fun s' bZ=>h _ _ _ ((aI.trans aZ).trans bZ).of_nil (((V.go aI).go aZ).go bZ) .next)⟩
theorem nO (he:fy l "extend" apos cpos [a])(hs:cH a=true)(hl:Ev X gl nm A call l x)(ha:Ev X gl nm A call a y):
 rH X gl nm A call (.Expr (.Call (.Attribute l "extend" apos) [a] [] cpos) pos) (.extend x y):=.of fun Hh N env en ρ σ s Q V I r e h=>by
 obtain⟨b,aQ,hu,e⟩:=n6 e;obtain⟨vs0,hz0,e⟩:=tz e;obtain⟨b',σ₂,hv,e⟩:=n6 e;obtain⟨vs,us,hz,hz',e⟩:=Bg e;obtain⟨hlen,e⟩:=oi e;cases sj e;refine wpAny_Expr (lS F.plainAttrs_list F.slot_list_extend F.type_list_extend he (by rw[eF hs];rfl) (hl.ok Hh env en ρ σ s _ _ _ V I hu fun aT aR c aI bv=> ?_)) (eH V.kind)
 obtain⟨k1,k2⟩:=hY aI.inv bv hz0;exact⟨k1,k2,ni hs (ha.ok Hh env en aT _ aR _ _ _ (V.go aI) aI.inv hv fun dA dw d aZ fg=>ww aZ.inv (bv.ext aZ.ext) fg hz hz' hlen.2 fun s' bZ=>h _ _ _ ((aI.trans aZ).trans bZ).of_nil (((V.go aI).go aZ).go bZ) .next)⟩
theorem CU {z:Ex}{pos':Pos}(hst:∀ov iv new,augStore i ov iv new=(do holding [new,ov,iv] (setItem ov iv new);release [new,ov,iv] [];pure .next))(ho:Ev X gl nm A call o x)(hi:Ev X gl nm A call i y)(ha:Ev X gl nm A call a z):
 rH X gl nm A call (.AugAssign (.Subscript o i pos') .Add a pos) (.augAdd x y z):=.of fun Hh N env en ρ σ s Q V I r e h=>by
 obtain⟨b,aQ,hu,e⟩:=n6 e;obtain⟨j,σ₂,hw,e⟩:=vz e;obtain⟨kvs,hz,e⟩:=EU e;obtain⟨n,hn,e⟩:=D2 e;obtain⟨m,mz,hm,e⟩:=vz e;obtain⟨CB,hq,e⟩:=om e;cases e
 show wpAny _ A (do
  standAt pos
  let ov<-eval o env
  let iv<-holding [ov] (eval i env)
  let new<-holding [ov,iv] do
   standAt pos'
   let old<-getItem ov iv
   let v<-holding [old] (eval a env)
   standAt pos
   operate [old,v] (inplaceOp .Add old v)
  standAt pos'
  augStore i ov iv new) Q eD s
 refine aq (wpAny_standAt (aq (ho.ok Hh env en ρ σ s _ _ _ V I hu fun aT aR c aI bv=>aq (wpAny_holding (hi.ok Hh env en aT _ aR _ _ _ (V.go aI) aI.inv hw fun dA dw d aZ fg=> ?_)))));refine aq (wpAny_holding (aq (wpAny_standAt (aq ?_))));have r₁':=bv.ext aZ.ext;obtain⟨p,hp,rfl⟩:=r₁'.ref_inv;obtain⟨e1,ks,hd,hk,hv⟩:=aZ.inv.obj _ _ p hz hp;obtain⟨t,rfl⟩:=fg.int_inv;obtain⟨c,hc,rc⟩:=l8 hk hv hn;obtain⟨t',rfl⟩:=rc.int_inv;rw[e1] at r₁'⊢;refine wpAny_getItem_of (knd:=intKind X.prog X.w) (fq j t) hd.dictOf.mapOf hc ?_;have bZ:Go X [] dA dw dA σ₂ {dw with toks:=dw.toks+1}:=Go.toks aZ.inv _;refine aq (wpAny_holding (ha.ok Hh env en dA σ₂ _ _ _ _ (((V.go aI).go aZ).go bZ) bZ.inv hm fun rP kX Fw jn DW=> ?_));obtain⟨t'',rfl⟩:=DW.int_inv;refine aq (wpAny_standAt (wpAny_operate' (iadd_int ?_)));rw[hst];have zB:Go X [] rP kX rP mz {kX with toks:=kX.toks+1}:=Go.toks jn.inv _;have x5:=((bZ.trans jn).trans zB).ext
 exact aq (wpAny_standAt (aq (wpAny_holding (pV zB.inv Hh.r9 (r₁'.ext x5) (fg.ext x5) (.int _ _) hq fun s' Df=>aq (wpAny_release' (aL
  (h _ _ _ (((((aI.trans aZ).trans bZ).trans jn).trans zB).trans Df).of_nil ((((((V.go aI).go aZ).go bZ).go jn).go zB).go Df) .next)))))))
end
end
section
open PySem PySem.W PyProof.Rows
section
variable {r:Fl×En×H}{b:List Stmt}{xb:dz}{px pos:Pos}{k:Nat}{g:En->H->mx}{e:En}{h:H}{ρ:dM}{xn:Str}
variable {X:Cx}{gl:List (Str×G)}{nm nmC:Nm}{A:Around}{call:bV}
inductive Cz (g:En->H->mx) (r:Fl×En×H):Fl->En->H->Prop
 | next {e:En} {h:H}:g e h=some r->Cz g r .next e h
 | cont {e:En} {h:H}:g e h=some r->Cz g r .cont e h
 | ret {v:V} {e:En} {h:H}:r=(.ret v,e,h)->Cz g r (.ret v) e h
theorem Av {o:mx}(q:(match o with | some (.next,cK,aO)=>g cK aO | some (.cont,cK,aO)=>g cK aO | some (.ret v,cK,aO)=>some (.ret v,cK,aO) | none=>none)=some r):
 pA (fun f e h=>o=some (f,e,h)) (fun f e h=>Cz g r f e h):=by
 cases o with
 | none=>exact nn q
 | some p=>
   obtain⟨fl,bt,ak⟩:=p;cases fl with
   | next=>exact⟨_,_,_,rfl,.next q⟩
   | cont=>exact⟨_,_,_,rfl,.cont q⟩
   | ret v=>exact⟨_,_,_,rfl,.ret (sj q).symm⟩
theorem Cz.flow {f:Fl}(a:Cz g r f e h){hp:Heap}{fl:Flow}(q:rO X ρ hp f fl):((fl=.next\/fl=.cont)/\g e h=some r)\/((∃c,fl=.ret c)/\r=(f,e,h)):=by
 cases q with
 | next=>cases a with | next z=>exact .inl ⟨.inl rfl,z⟩
 | cont=>cases a with | cont z=>exact .inl ⟨.inr rfl,z⟩
 | ret q=>cases a with | ret z=>exact .inr ⟨⟨_,rfl⟩,z⟩
theorem xg {o:Option (V×H)}{u:Bool×H}(q:(match o with | some (x,ak)=>(truthy ak x).map fun t=>(t,ak) | none=>none)=some u):bp (fun x=>o=some (x,u.2)) (fun x=>truthy u.2 x=some u.1):=by obtain⟨x,ak,e,q⟩:=ip q;obtain⟨t,e',q⟩:=om q;cases q;exact⟨x,e,e'⟩
theorem D0 {o:Option (Bool×H)}{g:H->mx}{f:H->mx}(q:(match o with | some (true,ak)=>g ak | some (false,ak)=>f ak | none=>none)=some r):(bp (fun ak=>o=some (true,ak)) (fun ak=>g ak=some r))\/bp (fun ak=>o=some (false,ak)) (fun ak=>f ak=some r):=by
 cases o with
 | none=>exact nn q
 | some p=>
   obtain⟨b,ak⟩:=p;cases b with
   | true=>exact .inl ⟨ak,rfl,q⟩
   | false=>exact .inr ⟨ak,rfl,q⟩
inductive WJ (X:Cx) (nm:Nm) (env:Env) (ρ:dM) (s:Shared) (F:Nat->En->H->mx) (r:Fl×En×H) (n:Nat) (s':Shared):Prop
 | mk (ρ':dM) (e':En) (σ':H) (g:Go X (gx env) ρ s ρ' σ' s') (V:b_ X nm env e' ρ' s'.heap) (hw:F n e' σ'=some r)
theorem gz {c:Expr}{x:Ex}(hc:Cd X gl nm A call c x)(hb:ij X gl nm A call b xb):rH X gl nm A call (.While c b [] pos) (.while_ x xb):=.of fun Hh N env en ρ σ s Q V I r e h=>by
 refine wpAny_While (codeAny_whileLoop (WJ X nm env ρ s (dB (fun e h=>match ax call x e h with
  | some (x,ak)=>(truthy ak x).map fun t=>(t,ak)
  | none=>none) fun e h=>execs call N xb e h) r) (fun n s' J=> ?_) N ⟨ρ,en,σ,Go.refl I,V,e⟩)
 obtain⟨aT,bt,aQ,g,iP,hw⟩:=J;cases n with
 | zero=>exact nn hw
 | succ n=>
   rcases D0 hw with⟨σ₂,hcd,hw⟩ | ⟨σ₂,hcd,hw⟩
   ·obtain⟨u,hev,ht⟩:=xg hcd
    obtain⟨BA,cK,mz,hbd,a⟩:=Av hw;refine wj (hc.ok Hh env bt aT aQ s' u true σ₂ _ iP g.inv hev ht fun dA dw aZ=> ?_);rw[ap rfl];refine wj (hb.ok Hh N env bt dA σ₂ dw BA cK mz _ (iP.go aZ) aZ.inv hbd fun wn ew f bZ pT hf=> ?_);have g4:=(g.trans aZ.of_nil).trans bZ;rcases a.flow hf with⟨rfl | rfl,hw⟩ | ⟨⟨c,rfl⟩,rfl⟩
    ·exact⟨n,Nat.lt_succ_self _,wn,cK,mz,g4,pT,hw⟩
    ·exact⟨n,Nat.lt_succ_self _,wn,cK,mz,g4,pT,hw⟩
    ·exact h _ _ _ g4 pT hf
   ·obtain⟨u,hev,ht⟩:=xg hcd
    cases sj hw;exact wj (hc.ok Hh env bt aT aQ s' u false σ₂ _ iP g.inv hev ht fun dA dw aZ=>wpAny_execs_nil (h _ _ _ (g.trans aZ.of_nil) (iP.go aZ) .next))
inductive FJ (X:Cx) (nm:Nm) (env:Env) (it:Addr) (ρ:dM) (s:Shared) (xv:V) (cx:Value) (o:Option O) (vs:List V) (F:List V->En->H->mx) (r:Fl×En×H) (n:Nat) (s':Shared):Prop
 | mk (ρ':dM) (e':En) (σ':H) (j:Nat) (g:Go X (it::gx env) ρ s ρ' σ' s') (V:b_ X nm env e' ρ' s'.heap) (hit:dS s'.heap it xv cx o j) (off:Off X ρ' s'.heap it) (hn:n=vs.length+1-j) (hf:F (vs.drop j) e' σ'=some r)
theorem xM {body:En->H->mx}{chk:H->Bool}{l:List V}{o:Fl×En×H}(q:dR k body chk l e h=some o):chk h=true:=by
 cases l with
 | nil=>exact(Ar q).1
 | cons v r=>exact(Ar q).1
theorem xL {N:Nat}(Hh:eX X gl A call)(ht:nm.slots[k]?=some (some xn))(hk:nm.names.lookup xn=some .local\/nm.names.lookup xn=some .cell)(ho:dQ nm k xn=true)
 (hb:ij X gl nm A call b xb) {env:Env} {it:Addr} {s:Shared} {xv:V} {cx:Value} {o:Option O} {vs:List V} {P:Flow->Shared->Prop} {E E1 E2 E3 E4:Value->Shared->Prop} (rx:VR X ρ s.heap xv cx) (hvs:kH xv o=some vs) (nown:¬s9 env it)
 (hitn:s.heap.get? it=none) (h:∀ρ' s' f,Go X (gx env) ρ s ρ' r.2.2 s'->b_ X nm env r.2.1 ρ' s'.heap->rO X ρ' s'.heap r.1 f->P f s') (n:Nat) (s':Shared)
 (J:FJ X nm env it ρ s xv cx o vs (dR k (fun e h=>execs call N xb e h) fun h=>eK h xv o) r n s'):
 wpAny (model X.prog X.w) A (pyNext (.ref it)) (fun q aR=>match q with
  | none=>wpAny (model X.prog X.w) A (PySem.execs [] env) (fun f ew=>P f ew) E1 aR
  | some v=>wpAny (model X.prog X.w) A (letOwnedTupleGo (.Name xn px) (.ref it) v) (fun y s₁'=>
   wpAny (model X.prog X.w) A (assign (.Name xn px) env v) (fun y dw=>wpAny (model X.prog X.w) A (PySem.execs b env) (fun f ew=>match f with
    | .next | .cont=>∃m,m<n/\FJ X nm env it ρ s xv cx o vs (dR k (fun e h=>execs call N xb e h) fun h=>eK h xv o) r m ew
    | .brk=>P .next ew
    | .ret v=>P (.ret v) ew) E4 dw) E3 s₁') E2 aR) E s':=by
 obtain⟨ρ',e',σ',j,g,V',hit,off,hn,hf⟩:=J;have dr:∀ {ρ'':dM} {h':Heap},dY (it::gx env) ρ ρ'' s.heap h'->dY (gx env) ρ ρ'' s.heap h':=fun x=>x.drop fun a ha=>(a_ ha).elim (fun z=>.inr (z▸hitn)) .inl;refine wj (w_next Hh.hh g.inv (rx.ext g.ext) hvs (xM hf) hit (fun u h' tk c hu hit2 hsb rc=> ?_) fun hnn h' tk hxb=> ?_)
 ·refine aL (wj ?_)
  have x1:dY [it] ρ' ρ' s'.heap h':=dY.own aK hsb (hit2.live.imp fun y z=>z.1) fun o e=>hit.live.elim fun o' z=>sj (z.1.symm.trans e)▸z.2.1;have I1:=g.inv.own x1 hsb off.off off.nb;rw[rt hu] at hf;obtain⟨BA,cK,σ₂,hbd,a⟩:=Av (Ar hf).2;have hjl:=(bP hu).1;rw[PySem.assign_Name];refine aq (wpAny_standAt (qx (V'.ext x1 fun a ha z=>nown (aB ha▸z)) I1 ht hk ho (rc.ext x1) fun s3 g3 V3=> ?_));have hnin:it∉gx env:=fun z=>nown (qR z);have off1:=off.ext x1;have off3:=off1.ext g3.ext;have go3:Go X (it::gx env) ρ s ρ' σ' s3:=(g.trans ⟨I1,x1.mono fun a ha=>aB ha▸aK,rfl,rfl⟩:Go X _ ρ s ρ' σ' {s' with heap:=h',toks:=tk}).trans (g3.mono fun a ha=>aP _ ha);refine wj (hb.ok Hh N env _ ρ' σ' s3 BA cK σ₂ _ V3 g3.inv hbd fun rP kX f jn wd hfr=> ?_);have go4:=go3.trans (jn.mono fun a ha=>aP it ha);have hit4:=(hit2.keep (off1.same g3.ext hnin)).keep (off3.same jn.ext hnin);rcases a.flow hfr with⟨rfl | rfl,hw⟩ | ⟨⟨c,rfl⟩,rfl⟩
  ·exact⟨_,cn hn hjl,rP,cK,σ₂,j+1,go4,wd,hit4,off3.ext jn.ext,rfl,hw⟩
  ·exact⟨_,cn hn hjl,rP,cK,σ₂,j+1,go4,wd,hit4,off3.ext jn.ext,rfl,hw⟩
  ·exact h _ _ _ ⟨go4.inv,dr go4.ext,go4.gens,go4.os⟩ wd hfr
 ·rw[List.drop_eq_nil_of_le (List.getElem?_eq_none_iff.mp hnn)] at hf
  cases sj (Ar hf).2;have S:mQ X ρ' s'.heap h' it:=⟨off,fun o e=>hit.live.elim fun o' z=>sj (z.1.symm.trans e)▸z.2.1,hxb⟩;exact wj (wpAny_execs_nil (h _ _ _ ⟨g.inv.but S,dr (g.ext.thenBut (fun b o hb e=>hxb b o hb e) hitn),g.gens,g.os⟩ (V'.but S nown) .next))
theorem dZ {iter:Expr}{itX:Ex}(hs:∀env z,foldedSetIterable iter env z=pure z)(ht:nm.slots[k]?=some (some xn))(hk:nm.names.lookup xn=some .local\/nm.names.lookup xn=some .cell)(ho:dQ nm k xn=true)
 (hi:Ev X gl nm A call iter itX) (hb:ij X gl nm A call b xb):rH X gl nm A call (.For (.Name xn px) iter b [] pos) (.for_ k itX xb):=.of fun Hh N env en ρ σ s Q V I r e h=>by
 obtain⟨xv,aQ,hx,e⟩:=ip e;obtain⟨vs,hvs,e⟩:=xe e;obtain⟨hlen,e⟩:=oi e;refine wpAny_For (hi.ok Hh env en ρ σ s xv aQ _ V I hx fun aT aR cx aI bv=>th aI.inv bv hvs fun oi hit=> ?_) (hs env);have iP:=V.go aI;have hfr:=aI.inv.fresh (Nat.le_refl aR.heap.objs.size);have hitn:aR.heap.get? aR.heap.objs.size=none:=cJ (Nat.le_refl _);have g2:Go X [] aT aR aT aQ {aR with heap:=aR.heap.push oi}:=Go.grow aI.inv bT rfl rfl
 exact codeAny_forLoop_any _ (xL Hh ht hk ho hb bv ((l_ _ _).symm.trans hvs) (fun z=>(iP.own _ z).1.elim fun y q=>nn (hitn.symm.trans q)) hitn fun ρ' s' f g V' hf=>h _ _ _ (aI.of_nil.trans g) V' hf) (vs.length+1)
  ⟨aT,en,aQ,0,g2.of_nil,iP.go g2,hit,⟨hit.live.imp fun y z=>z.1,hfr.1,hfr.2.1⟩,rfl,e⟩
end
end
section
open PySem PySem.W PyProof.Rows
section
variable {σ:H}{vs:List V}{x:V}{ρ:dM}{cx:Value}{E:Value->Shared->Prop}{ts:List Tg}{s:Shared}{n k:Nat}{en:En}{p:En×H}{elts:List Expr}{value:Expr}{tp pos:Pos}
variable {X:Cx}{gl:List (Str×G)}{nm nmC:Nm}{A:Around}{call:bV}
theorem Au (e:k8 σ x=some vs):x=.tup vs\/bp (fun a=>x=.ref a) (fun a=>σ[a]?=some (.list vs)):=by
 cases x with
 | tup us=>exact .inl (ag V.tup (sj e))
 | ref a=>
   obtain⟨us,q,e⟩:=tz e;exact .inr ⟨a,rfl,sj e▸q⟩
 | _=>exact nn e
theorem sg (e:k8 σ x=some vs):items σ x=some vs/\eK σ x (fS σ x)=true:=by
 rcases Au e with rfl | ⟨a,rfl,q⟩
 ·exact⟨rfl,rfl⟩
 ·exact⟨by show(match σ[a]? with | some (.list vs)=>_ | some (.idict kvs)=>_ | _=>_)=_;rw[q],@decide_eq_true _ (Classical.propDecidable _) (by show yh σ[a]? σ[a]?;rw[q];exact .list)⟩
theorem qI {Q:Bool->Shared->Prop}(I:Inv X ρ σ s.heap)(r:VR X ρ s.heap x cx)(e:k8 σ x=some vs)(h:Q false s):
 wpAny (model X.prog X.w) A (notIterableAtAll cx) Q E s:=by
 unfold notIterableAtAll;rcases Au e with rfl | ⟨a,rfl,q⟩
 ·obtain⟨a,cs,rfl,ht,hr⟩:=r.tup_inv
  exact aq (wpAny_specialOf ht.typeIs slot_tuple_iter.lookup (aL h))
 ·obtain⟨p,cs,n,hp,rfl,e1,h1,r1,_⟩:=r.list_at I q
  exact aq (wpAny_specialOf (bN h1).typeIs slot_list_iter.lookup (aL h))
theorem AZ {o:Option O}{it:Addr}(hh:A.handled=none)(e:kH x o=some vs)(st:eK σ x o=true):
 ∀ {k:Nat} {s:Shared} {Q:List Value->Shared->Prop},Inv X ρ σ s.heap->VR X ρ s.heap x cx->dS s.heap it x cx o k->Off X ρ s.heap it->k+n≤vs.length->
 (∀s' cs,Go X [it] ρ s ρ σ s'->dS s'.heap it x cx o (k+n)->Off X ρ s'.heap it->cp X ρ s'.heap ((vs.drop k).take n) cs->Q cs s')->wpAny (model X.prog X.w) A (draw (.ref it) n) Q E s:=by
 induction n with
 | zero=>
   intro k s Q I r hit off hl h;exact aL (h s [] (Go.refl I) hit off (List.take_zero (l:=vs.drop k)▸cp.nil))
 | succ n ih=>
   intro k s Q I r hit off hl h;refine aq (w_next hh I r e st hit (fun v h' tk c hv hit' hs rc=> ?_) fun hn=>absurd (List.getElem?_eq_none_iff.mp hn) (Nat.not_le.mpr (Nat.lt_of_lt_of_le (Nat.lt_add_of_pos_right (Nat.succ_pos n)) hl)));have x1:dY [it] ρ ρ s.heap h':=dY.own (.head _) hs (hit'.live.imp fun y z=>z.1) fun o e=>hit.live.elim fun o' z=>sj (z.1.symm.trans e)▸z.2.1;have I1:=I.own x1 hs off.off off.nb;have ek:k+(n+1)=k+1+n:=Nat.add_right_comm k n 1;refine aq (wpAny_holding (ih I1 (r.ext x1) hit' (off.ext x1) (ek▸hl) fun s' cs g hit2 off2 rs=>aL ?_));exact h s' (c::cs) ((⟨I1,x1,rfl,rfl⟩:Go X [it] ρ s ρ σ {s with heap:=h',toks:=tk}).trans g) (ek▸hit2) off2 (rt hv▸List.take_succ_cons▸ .cons ((rc.ext x1).ext g.ext) rs)
theorem j9 {Q:List Value->Shared->Prop}(hh:A.handled=none)(I:Inv X ρ σ s.heap)(r:VR X ρ s.heap x cx)(e:k8 σ x=some vs)(hn:n=vs.length)
 (h:∀s' cs,Go X [] ρ s ρ σ s'->cp X ρ s'.heap vs cs->Q cs s'):wpAny (model X.prog X.w) A (unpackItems cx n none) Q E s:=by
 subst hn;obtain⟨e1,e2⟩:=sg e;have eO:kH x (fS σ x)=some vs:=(l_ _ _).symm.trans e1;unfold unpackItems;refine aq (qI I r e ?_);rw[au Bool.false_ne_true];refine aq (wpAny_holding (th I r e1 fun oi hit=> ?_));have g1:Go X [] ρ s ρ σ {s with heap:=s.heap.push oi}:=Go.grow I bT rfl rfl;have hitn:s.heap.get? s.heap.objs.size=none:=cJ (Nat.le_refl _);have hfr:=I.fresh (Nat.le_refl s.heap.objs.size);refine aq (wpAny_holding (AZ hh eO e2 g1.inv (r.ext g1.ext) hit ⟨hit.live.imp fun y z=>z.1,hfr.1,hfr.2.1⟩ (Nat.le_of_eq (Nat.zero_add _)) fun s2 cs g2 hit2 off2 rs=> ?_));rw[List.drop_zero,List.take_of_length_le (Nat.le_refl _)] at rs;rw[Nat.zero_add] at hit2;rw[au (Nat.not_lt.mpr (Nat.le_of_eq rs.length))];refine aq (wpAny_holding (w_next hh g2.inv ((r.ext g1.ext).ext g2.ext) eO e2 hit2 (fun v h' tk c hv=>absurd (bP hv).1 (Nat.lt_irrefl _)) fun y h' tk hxb=> ?_));have S:mQ X ρ s2.heap h' s.heap.objs.size:=⟨off2,fun o e=>hit2.live.elim fun o' z=>sj (z.1.symm.trans e)▸z.2.1,hxb⟩;have x4:dY [] ρ ρ s.heap h':=((((g1.mono (E':=[s.heap.objs.size]) fun y z=>nomatch z).trans g2).ext.thenBut (fun b o hb e=>hxb b o hb e) hitn)).drop fun a ha=>.inr (aB ha▸hitn);exact aL (h _ cs ⟨g2.inv.but S,x4,g2.gens,g2.os⟩ (rs.map List.prefix_rfl S.imm))
variable (X gl nm A call) in
structure DK (elts:List Expr) (ts:List Tg):Prop where
 len:∀env,(assignEach elts env).length=ts.length
 star:∀env,(assignEach elts env).findIdx? (·.1)=none
 ok:eX X gl A call->∀ (env:Env) (en:En) (ρ:dM) (σ:H) (s:Shared) (vs:List V) (cs:List Value) (en':En) (σ':H) (Q:Unit->Shared->Prop),b_ X nm env en ρ s.heap->Inv X ρ σ s.heap->cp X ρ s.heap vs cs->
  Mine.stores call ts vs en σ=some (en',σ')->(∀ρ' s',Go X (gx env) ρ s ρ' σ' s'->b_ X nm env en' ρ' s'.heap->Q () s')->wpAny (model X.prog X.w) A (assignInOrder ((assignEach elts env).map (·.2)) cs) Q eD s
theorem D_ {β:Type}{o:Option (En×H)}{g:En->H->Option β}{r:β}(h:(match o with | some (x,ak)=>g x ak | none=>none)=some r):cD (fun x ak=>o=some (x,ak)) (fun x ak=>g x ak=some r):=by
 cases o with
 | none=>exact nn h
 | some p=>exact⟨p.1,p.2,rfl,h⟩
theorem ze {t:Tg}(e:Mine.stores call (t::ts) vs en σ=some p):AM (fun v r bt aQ=>vs=v::r) (fun v r bt aQ=>j_ call t v en σ=some (bt,aQ)) (fun v r bt aQ=>Mine.stores call ts r bt aQ=some p):=by
 cases vs with
 | nil=>exact nn e
 | cons v r=>
   obtain⟨bt,aQ,h1,h2⟩:=D_ e;exact⟨v,r,bt,aQ,rfl,h1,h2⟩
theorem Bf (e:Mine.stores call [] vs en σ=some p):vs=[]/\p=(en,σ):=by
 cases vs with
 | nil=>exact⟨rfl,(sj e).symm⟩
 | cons v r=>exact nn e
theorem fY:DK X gl nm A call [] []:=⟨fun y=>rfl,fun y=>rfl,fun Hh env en ρ σ s vs cs en' σ' Q V I rs e h=>by obtain⟨rfl,z⟩:=Bf e;cases z;cases rs.nil_inv;exact aL (h ρ s (Go.refl I) V)⟩
theorem bB {t:Expr}{x:Tg}{xs:List Tg}(hn:cH t=true)(h1:BW X gl nm A call t x)(h2:DK X gl nm A call elts xs):DK X gl nm A call (t::elts) (x::xs):=
 ⟨fun env=>by rw[gJ hn];exact ag (· +1) (h2.len env),fun env=>by rw[gJ hn,List.findIdx?_cons];simp[h2.star env],fun Hh env en ρ σ s vs cs en' σ' Q V I rs e h=>by
  obtain⟨v,r,bt,aQ,rfl,hx,e'⟩:=ze e;obtain⟨d,ds,rfl,rv,rs'⟩:=rs.cons_inv;rw[gJ hn]
  exact(show wpAny _ A (do holding _ (assign t env _);assignInOrder _ _) Q eD s from
   aq (wpAny_holding (h1.ok Hh env en ρ σ s v _ bt aQ _ V I rv hx fun aT aR aI iP=>h2.ok Hh env bt aT aQ aR r _ en' σ' Q iP aI.inv (rs'.ext aI.ext) e' fun ρ' s' aZ ms=>h ρ' s' (aI.trans aZ) ms)))⟩
theorem pG:∀ {vs:List V} {en:En} {σ:H} {p:En×H},Mine.stores call ts vs en σ=some p->vs.length=ts.length:=by
 induction ts with
 | nil=>intro vs en σ p e;rw[(Bf e).1];rfl
 | cons t ts ih=>exact fun e=>(ze e).casesOn fun v r bt aQ z y q=>z▸ag (· +1) (ih q)
theorem ei {x:Ex}(P:t_ nm (.Tuple elts k tp) value pos)(hv:Ev X gl nm A call value x)(ht:DK X gl nm A call elts ts):rH X gl nm A call (.Assign [.Tuple elts k tp] value pos) (.assigns ts x):=.of fun Hh N env en ρ σ s Q V I r e h=>by
 obtain⟨v,aQ,hu,e⟩:=ip e;obtain⟨vs,hvs,e⟩:=xe e;obtain⟨q,hz,rfl⟩:=zf e;refine jJ P V.kind V.names (hv.ok Hh env en ρ σ s v aQ _ V I hu fun aT aR c aI bv=> ?_)
 show wpAny _ A (do standAt tp;unpack c (assignEach elts env)) _ eD aR
 refine aq (wpAny_standAt ?_);unfold unpack;rw[ht.star]
 exact aq (wpAny_holding (j9 Hh.hh aI.inv bv hvs ((ht.len env).trans (pG hz).symm) fun dw cs aZ rs=>
  ht.ok Hh env en aT aQ dw vs cs q.1 q.2 _ ((V.go aI).go aZ) aZ.inv rs hz fun ρ' s' bZ pT=>h ρ' s' .next ((aI.trans aZ).of_nil.trans bZ) pT .next))
theorem fZ {x y:Str}{kx ky:Nat}{px py:Pos}{vx:Ex}
 (hsw:∀env:Env,env.scope.kind=.function->env.scope.names=nm.names->swapsWithSole [.Tuple [.Name x px,.Name y py] k tp] value pos.line env=pure false)
 (hst:∀env:Env,env.scope.kind=.function->env.scope.names=nm.names->swappedStores [.Tuple [.Name x px,.Name y py] k tp] value env=pure (some [x,y]))
 (hx:nm.slots[kx]?=some (some x)) (hxl:nm.names.lookup x=some .local) (hxo:dQ nm kx x=true) (hy:nm.slots[ky]?=some (some y)) (hyl:nm.names.lookup y=some .local) (hyo:dQ nm ky y=true) (hne:kx≠ky)
 (hv:Ev X gl nm A call value vx):rH X gl nm A call (.Assign [.Tuple [.Name x px,.Name y py] k tp] value pos) (.assigns [.name kx,.name ky] vx):=.of fun Hh N env en ρ σ s Q V I r e h=>by
 obtain⟨v,aQ,hu,e⟩:=ip e;obtain⟨vs,hvs,e⟩:=xe e;obtain⟨q,hz,rfl⟩:=zf e;obtain⟨a,vs1,bt,σ₁',rfl,hs1,hz1⟩:=ze hz;obtain⟨b,vs2,cK,σ₂',rfl,hs2,hz2⟩:=ze hz1;obtain⟨rfl,rfl⟩:=Bf hz2;cases sj (oi hs1).2;cases sj (oi hs2).2;refine Assign_Tuple_swapped (names:=[x,y]) (hv.ok Hh env en ρ σ s v aQ _ V I hu fun aT aR c aI bv=> ?_) (hsw env V.kind V.names) (hst env V.kind V.names);refine j9 Hh.hh aI.inv bv hvs rfl fun dw cs aZ rs=> ?_;obtain⟨ca,ds1,rfl,ra,rs1⟩:=rs.cons_inv;obtain⟨cb,ds2,rfl,rb,rs2⟩:=rs1.cons_inv;cases rs2.nil_inv
 show wpAny _ A (do holding [ca] (bindName env y cb);assignInOrder [fun v=>bindName env x v] [ca]) _ eD dw
 refine aq (wpAny_holding (jf ((V.go aI).go aZ) aZ.inv hy hyl hyo rb fun ew bZ pT=> ?_))
 show wpAny _ A (do holding [] (bindName env x ca);pure ()) _ eD ew
 refine aq (wpAny_holding (jf pT bZ.inv hx hxl hxo (ra.ext bZ.ext) fun kX jn wd=>aL ?_));rw[List.set_comm _ _ (Ne.symm hne)] at wd;exact h aT kX .next ((aI.trans aZ).of_nil.trans ((bZ.trans jn).mono fun a ha=>aB ha▸aK)) wd .next
end
end
section
open PySem PySem.W PyProof.Rows
section
theorem pJ:Slot "reversed" "__init__" "object.__init__" :=
 .of (owner:= "object") (n:= "__init__") (by rw[typeLookup_type,builtinLookup_eq_fast];kernel_rfl) (by decide+kernel) (by decide+kernel) (by decide+kernel)
  (by first | exact .inl (by decide+kernel) | exact .inr (by decide+kernel)) (by rw[isSubtype_type];kernel_rfl)
theorem m8:TypeCalled "reversed" "reversed.__new__" "object.__init__" :=
 ⟨by decide+kernel,PySem.F.create_reversed,⟨_,_,PySem.F.mro_reversed⟩,PySem.F.made_reversed,PySem.F.plain_reversed_new,PySem.F.sub_reversed_self,pJ⟩
section
variable {t:Addr}{items:Array Value}
variable {prog:Program}{w:World}{A:Around}{E:Value->Shared->Prop}{s:Shared}
noncomputable def Ba (t:Addr) (i:Int):Obj:={cls:=.type "reversed",data:=.fields #[.ref t,rawInt i]}
theorem nC:isSubtype (.type "tuple") (.type "dict")=pure false:=by rw[isSubtype_type];kernel_rfl
theorem qy:typeLookup (.type "tuple") "__reversed__" =pure none:=by rw[typeLookup_type,builtinLookup_eq_fast];kernel_rfl
theorem kF:MeetsIn prog w (Builtin.«reversed.__new__» ⟨[.type "reversed",.ref t],[]⟩)
 (fun A R s=>IsTup s.heap t items/\items.size≤1000000/\∀k,R (.ok (.ret (.ref s.heap.objs.size))) {s with heap:=s.heap.push (Ba t ((items.size:Int)-1)),toks:=k}):=fun A R s ⟨ht,hz,h⟩=>by
 unfold Builtin.«reversed.__new__»;refine aq (wpAny_of_eq (PySem.newClass_reversed _) ?_)
 try dsimp only
 refine aq (wpAny_of_eq (a:=()) (by first | rfl | kernel_rfl) ?_)
 refine aq (wpAny_of_eq (a:=()) (by first | rfl | kernel_rfl) ?_)
 try dsimp only
 refine aq (wpAny_specialOf ht.typeIs qy ?_)
 try dsimp only
 refine aq (show wpAny _ _ (isInstance (.ref t) (.type "dict")>>=_) _ _ s from aq (wpAny_isInstance ht.typeIs nC ?_));rw[au Bool.false_ne_true];refine aq (wpAny_specialOf ht.typeIs PySem.F.slot_tuple_getitem.lookup ?_);refine(show wpAny _ _ (pure true) _ _ s from aL ?_);rw[au Bool.false_ne_true];refine aq (PyProof.Rows.len_tuple ht (by omega) ?_)
 refine aq (show wpAny _ _ (pure (some (items.size:Int))) _ _ _ from aL ?_)
 dsimp only
 refine aq (show wpAny _ _ (newObj (.type "reversed") (.fields #[.ref t,rawInt ((items.size:Int)-1)])) _ _ _ from wpAny_newObj_type ?_);exact aL (h _)
theorem j7 {Q:Value->Shared->Prop}(ht:IsTup s.heap t items)(hz:items.size≤1000000)
 (h:∀k,Q (.ref s.heap.objs.size) {s with heap:=s.heap.push (Ba t ((items.size:Int)-1)),toks:=k}):wpAny (model prog w) A (call (.type "reversed") [.ref t]) Q E s:=
 callType_newIn m8 (by decide) (PySem.F.typeCall_reversed_1 _) (PySem.F.newCall_reversed_1 _) (fun obj=>PySem.F.args_object_init_2 obj _) PySem.F.entry_reversed_new kF
  ⟨ht,hz,fun k=>⟨⟨_,Heap.get?_push_size _ rfl,rfl⟩,h k⟩⟩
end
end
end
section
open PySem PySem.W PyProof.Rows
theorem lZ:Manifest.owners.lookup (String.ofList ['d','e','s','r','e','v','e','r'].reverse)=some Manifest.sig_reversed:=by kernel_rfl
theorem eG:Slot "reversed" "__next__" "reversed.__next__" :=
 .of (owner:= "reversed") (n:= "__next__") (by rw[typeLookup_type,builtinLookup_eq_fast];kernel_rfl) (by decide+kernel) (by decide+kernel) (by decide+kernel)
  (by first | exact .inl (by decide+kernel) | exact .inr (by decide+kernel)) (by rw[isSubtype_type];kernel_rfl)
theorem jy:entryFor table "reversed.__next__" =some Builtin.«reversed.__next__» :=entryFor_of_tree (by kernel_rfl)
theorem i9 (a:Value):argsOk "reversed.__next__" ⟨[a],[]⟩:=by unfold argsOk;rw[signature?_of (id:= "reversed.__next__") (n:=['_','_','t','x','e','n','_','_']) (o:=['d','e','s','r','e','v','e','r']) (by kernel_rfl) lZ];kernel_rfl
theorem ke:Slot "reversed" "__iter__" "reversed.__iter__" :=
 .of (owner:= "reversed") (n:= "__iter__") (by rw[typeLookup_type,builtinLookup_eq_fast];kernel_rfl) (by decide+kernel) (by decide+kernel) (by decide+kernel)
  (by first | exact .inl (by decide+kernel) | exact .inr (by decide+kernel)) (by rw[isSubtype_type];kernel_rfl)
theorem m_ (a:Value):argsOk "reversed.__iter__" ⟨[a],[]⟩:=by unfold argsOk;rw[signature?_of (id:= "reversed.__iter__") (n:=['_','_','r','e','t','i','_','_']) (o:=['d','e','s','r','e','v','e','r']) (by kernel_rfl) lZ];kernel_rfl
theorem tB:typeLookup (.type "reversed") "__len__" =pure none:=by rw[typeLookup_type,builtinLookup_eq_fast];kernel_rfl
theorem gL:Slot "reversed" "__length_hint__" "reversed.__length_hint__" :=
 .of (owner:= "reversed") (n:= "__length_hint__") (by rw[typeLookup_type,builtinLookup_eq_fast];kernel_rfl) (by decide+kernel) (by decide+kernel) (by decide+kernel)
  (by first | exact .inl (by decide+kernel) | exact .inr (by decide+kernel)) (by rw[isSubtype_type];kernel_rfl)
theorem oT:entryFor table "reversed.__length_hint__" =some Builtin.«reversed.__length_hint__» :=entryFor_of_tree (by kernel_rfl)
theorem nc (a:Value):argsOk "reversed.__length_hint__" ⟨[a],[]⟩:=by unfold argsOk;rw[signature?_of (id:= "reversed.__length_hint__") (n:=['_','_','t','n','i','h','_','h','t','g','n','e','l','_','_']) (o:=['d','e','s','r','e','v','e','r']) (by kernel_rfl) lZ];kernel_rfl
end
section
open PySem PySem.W PyProof.Rows
section
theorem oS:entryFor table "reversed.__iter__" =some Builtin.«dict_keyiterator.__iter__» :=
 entryFor_alias (id':= "dict_keyiterator.__iter__") (by kernel_rfl) (by first | rfl | decide+kernel | (unfold String.splitOn;simp+decide [String.splitOnAux])) (by decide+kernel) (by kernel_rfl)
section
variable {l it a t:Addr}{i:Int}{Q:Option Value->Shared->Prop}
variable {prog:Program}{w:World}{A:Around}{E:Value->Shared->Prop}{s:Shared}
noncomputable def fe (h:Heap) (a t:Addr) (i:Int):Prop:=∃o,h.get? a=some o/\o.cls=.type "reversed" /\o.data=.fields #[.ref t,rawInt i]
theorem fe.typeIs (x:fe s.heap a l i):s.TypeIs (.ref a) "reversed" :=let ⟨o,ho,hc,_⟩:=x;⟨o,ho,hc⟩
theorem fe.at {h h':Heap}(x:fe h a l i)(e:∀o,h.get? a=some o->h'.get? a=some o):fe h' a l i:=let ⟨o,ho,r⟩:=x;⟨o,e _ ho,r⟩
theorem nU {Q:Value->Shared->Prop}(hit:fe s.heap it l i)(h:Q (.ref it) s):wpAny (model prog w) A (pyIter (.ref it)) Q E s:=by
 refine wpAny_pyIter_slot hit.typeIs ke (wpAny_call_entry ke hit.typeIs oS ?_ (m_ _))
 show wpAny _ _ (ret (.ref it)) _ _ s
 exact aL ⟨_,rfl, "reversed",_,hit.typeIs,eG.lookup,h⟩
theorem pM {i:Nat}{items:Array Value}{x:Value}(hit:fe s.heap it t (i:Int))(ht:IsTup s.heap t items)(hz:items.size≤1000000)(hx:items[i]?=some x)
 (hQ:∀h' tk,fe h' it t ((i:Int)-1)->Heap.SameBut it s.heap h'->Q (some x) {s with heap:=h',toks:=tk}):wpAny (model prog w) A (pyNext (.ref it)) Q E s:=by
 obtain⟨o,ho,hc,hd⟩:=id hit;have hlt:i<items.size:=(Array.getElem?_eq_some_iff.mp hx).1;unfold pyNext
 refine aq (wpAny_attempt (wpAny_callSpecial?_slot (name:=Str.ofString "__next__") hit.typeIs eG
  (wpAny_call_entry eG hit.typeIs jy ?_ (i9 _))))
 unfold Builtin.«reversed.__next__»;refine aq (wpAny_of_eq (a:=(Value.ref it,[])) rfl ?_)
 try dsimp only
 refine aq (wpAny_field ho hd (x:=.ref t) rfl ?_);refine aq (wpAny_field ho hd (x:=rawInt (i:Int)) rfl ?_)
 show wpAny _ _ (if(i:Int)<0 then _ else _) _ _ s
 rw[au (by lia)]
 refine aq (wpAny_specialOf ht.typeIs PySem.F.slot_tuple_getitem.lookup ?_);rw[au Bool.false_ne_true];refine aq (wpAny_mkInt ?_)
 have hj:seqIndex? (i:Int) items.size=some i:=by
  unfold seqIndex?;rw[au (show ¬ (i:Int)<0 by lia)]
  rw[ap (by simp;lia)]
  simp
 refine aq (wpAny_attempt (getItem_tuple (s:={s with toks:=s.toks+1}) ht (by lia) (by lia) hj hx ?_))
 dsimp only
 refine aq (wpAny_field (s:={s with toks:=s.toks+1}) ho hd (x:=rawInt (i:Int)) rfl ?_)
 show wpAny _ _ (setField (Value.ref it) 1 (rawInt ((i:Int)-1))>>=fun y=>ret x) _ _ _
 refine aq (wpAny_setField (s:={s with toks:=s.toks+1}) ho hd (by simp) ?_)
 refine aL ⟨x,rfl,aL (hQ _ _ ?_ (Heap.SameBut.update ..))⟩
 exact⟨_,Heap.get?_update_self _ ho (Obj.isFreed_of_fields (Obj.data_mapFields hd _)),(Obj.cls_mapFields ..).trans hc,by rw[Obj.data_mapFields hd];simp⟩
theorem qV (hh:A.handled=none)(hit:fe s.heap it t (-1))
 (hQ:∀h' tk,Heap.ExtBut it s.heap h'->Q none {s with heap:=h',toks:=tk}):wpAny (model prog w) A (pyNext (.ref it)) Q E s:=by
 obtain⟨o,ho,hc,hd⟩:=id hit;unfold pyNext
 refine aq (wpAny_attempt (wpAny_callSpecial?_slot (name:=Str.ofString "__next__") hit.typeIs eG
  (wpAny_call_entry eG hit.typeIs jy ?_ (i9 _))))
 unfold Builtin.«reversed.__next__»;refine aq (wpAny_of_eq (a:=(Value.ref it,[])) rfl ?_)
 try dsimp only
 refine aq (wpAny_field ho hd (x:=.ref t) rfl ?_);refine aq (wpAny_field ho hd (x:=rawInt (-1)) rfl ?_)
 show wpAny _ _ (if(-1:Int)<0 then _ else _) _ _ s
 rw[ap (by decide)]
 refine aq (wpAny_rule ?_);refine aq (show wpAny _ _ (setField (Value.ref it) 1 (rawInt (-1))>>=fun y=>setField (Value.ref it) 0 .none) _ _ _ from aq (wpAny_setField ho hd (by simp) ?_))
 have ho1:=Heap.get?_update_self (Obj.mapFields fun vs=>vs.setIfInBounds 1 (rawInt (-1))) ho (Obj.isFreed_of_fields (Obj.data_mapFields hd _));have hd1:=Obj.data_mapFields hd fun vs=>vs.setIfInBounds 1 (rawInt (-1));refine wpAny_setField (s:={s with heap:=s.heap.update it (Obj.mapFields fun vs=>vs.setIfInBounds 1 (rawInt (-1)))}) ho1 hd1 (by simp) ?_
 first
 | show wpAny _ _ (newExc (.type "StopIteration") []>>=_) _ _ _
 | (refine aq ?_;show wpAny _ _ (newExc (.type "StopIteration") []>>=_) _ _ _)
 refine aq ?_
 dsimp only[newExc,newTuple]
 refine aq (wpAny_newObj_type ?_ (by size_fits))
 refine aq (m:=firstArgMember _ _) (wpAny_of_eq (a:=Value.none) (by first | rfl | (simp only[firstArgMember];rfl)) ?_)
 refine wpAny_newObj_type ?_ (by size_fits)
 dsimp only[raiseNew]
 refine aq (wpAny_handled ?_)
 first | rw[show A.in1.handled=none from hh] | rw[hh]
 refine aq (aL (wpAny_throw ?_));refine aq (wpAny_isInstance (T:= "StopIteration") (b:=true) ⟨_,Heap.get?_push_size _ rfl,rfl⟩ isSubtype_stop ?_);exact aL (hQ _ _ (((((Heap.SameBut.update ..).trans (Heap.SameBut.update ..)).extBut).push _).push _))
end
end
end
section
open PySem PySem.W PyProof.Rows
section
variable {it t:Addr}{items:Array Value}
variable {prog:Program}{w:World}{A:Around}{E:Value->Shared->Prop}{s:Shared}
theorem yM:isSubtype (.type "reversed") (.type "reversed")=pure true:=PySem.F.sub_reversed_self
theorem pQ {Q:Value->Shared->Prop}(hit:fe s.heap it t ((items.size:Int)-1))(ht:IsTup s.heap t items)(hz:items.size≤1000000)
 (hQ:∀tk t',Q (.int items.size t') {s with toks:=tk}):wpAny (model prog w) A (call (.builtin "reversed.__length_hint__") [.ref it]) Q E s:=by
 obtain⟨o,ho,hc,hd⟩:=id hit;refine wpAny_call_entry gL hit.typeIs oT ?_ (nc _);unfold Builtin.«reversed.__length_hint__»;refine aq (wpAny_of_eq (a:=Value.ref it) rfl ?_);refine aq (wpAny_field ho hd (x:=.ref t) rfl ?_)
 show wpAny _ _ (if(Value.ref t==Value.none)=true then _ else _) _ _ s
 rw[au (show ¬ ((Value.ref t==Value.none)=true) from Bool.false_ne_true)];refine aq (PyProof.Rows.len_tuple ht (by lia) ?_)
 refine aq (show wpAny _ _ (pure (some (items.size:Int))) _ _ _ from aL ?_)
 dsimp only
 refine aq (wpAny_field (s:={s with toks:=s.toks+1+1}) ho hd (x:=rawInt ((items.size:Int)-1)) rfl ?_)
 show wpAny _ _ (if(items.size:Int)< (items.size:Int)-1+1 then _ else _) _ _ _
 rw[au (by lia),show(items.size:Int)-1+1=items.size by lia]
 exact aq (wpAny_mkInt (aL ⟨_,rfl,hQ _ _⟩))
theorem xG {Q:Bool->Shared->Prop}(hit:fe s.heap it t ((items.size:Int)-1))(ht:IsTup s.heap t items)(hz:items.size≤1000000)
 (hQ:∀tk b,Q b {s with toks:=tk}):wpAny (model prog w) A (Builtin.List.listLengthHint (.ref it)) Q E s:=by
 unfold Builtin.List.listLengthHint;refine aq (wpAny_specialOf hit.typeIs tB ?_)
 show wpAny _ _ (specialOf (Value.ref it) (Str.ofString "__length_hint__")>>=_) _ _ _
 refine aq (wpAny_specialOf hit.typeIs gL.lookup ?_);have hsp:splitId "reversed.__length_hint__" =some ("reversed", "__length_hint__"):=by decide+kernel
 dsimp only
 rw[hsp]
 dsimp only
 refine aq (wpAny_isInstance hit.typeIs yM ?_);rw[au Bool.false_ne_true];rw[au (by decide+kernel)]
 refine aq (wpAny_rule ?_);refine aq (wpAny_of_eq (gL.bind _) ?_)
 dsimp only
 refine aq (wpAny_attempt (pQ hit ht hz fun tk t'=> ?_))
 dsimp only
 have ha:asInt? (Value.int (items.size:Int) t')=pure (some (items.size:Int)):=rfl;rw[ha,pure_bind]
 dsimp only
 have hf:Builtin.List.listFitsIndex (items.size:Int)=true:=by unfold Builtin.List.listFitsIndex;simp;lia
 have hl:Builtin.List.listTooLong (items.size:Int).toNat=false:=by unfold Builtin.List.listTooLong;rw[sizeLine_eq];simp;lia
 rw[hf,hl];rw[au Bool.false_ne_true];rw[au (by lia)]
 exact aL (hQ _ _)
end
end
section
open PySem PySem.W PyProof.Rows
section
variable {prog:Program}{w:World}{A:Around}{E:Value->Shared->Prop}{s:Shared}
theorem wQ (hh:A.handled=none)(I t:Addr)(hne:t≠I)(items orig:Array Value)(hz:items.size≤1000000):
 Walks prog w A I [I,t] [I] (orig.size+items.size) (fun i v=>if i<orig.size then orig[i]?=some v else items[items.size-1- (i-orig.size)]?=some v)
  (fun i h=>orig.size≤i/\i≤orig.size+items.size/\fe h I t ((items.size:Int)-1- ((i-orig.size:Nat):Int))/\IsTup h t items) where
 sub:=fun b hb=>by simp at hb;simp[hb]
 frame:=fun y y y x hk=>⟨x.1,x.2.1,x.2.2.1.at fun o e=>hk I (by simp) o e,let ⟨o,ho,r⟩:=x.2.2.2;⟨o,hk t (by simp) o ho,r⟩⟩
 item:=fun i s Q E hi x hQ=>by
  obtain⟨h1,h2,hit,ht⟩:=x;have e:(items.size:Int)-1- ((i-orig.size:Nat):Int)=((items.size-1- (i-orig.size):Nat):Int):=by lia
  rw[e] at hit;have hx:items[items.size-1- (i-orig.size)]?=some (items[items.size-1- (i-orig.size)]'(by lia)):=Array.getElem?_eq_getElem (by lia)
  refine pM hit ht hz hx fun h' tk hit' hs'=> ?_;have e2:((items.size-1- (i-orig.size):Nat):Int)-1=(items.size:Int)-1- ((i+1-orig.size:Nat):Int):=by lia
  rw[e2] at hit';refine hQ _ h' tk ?_ ⟨by lia,by lia,hit',let ⟨o,ho,r⟩:=ht;⟨o,(hs'.2 t hne).trans ho,r⟩⟩ fun b o hb eo=>hs'.extBut b o (fun h=>hb (by simp[h])) eo
  rw[au (by lia)];exact hx
 done:=fun s Q E x hQ=>by
  obtain⟨h1,h2,hit,ht⟩:=x;have e:(items.size:Int)-1- ((orig.size+items.size-orig.size:Nat):Int)= -1:=by lia
  rw[e] at hit;exact qV hh hit fun h' tk he'=>hQ h' tk fun b o hb eo=>he' b o (fun h=>hb (by simp[h])) eo
 self:=fun y y y y x hQ=>nU x.2.2.1 hQ
end
end
section
set_option backward.match.sparseCases true
open PySem PySem.W PyProof.Rows
section
variable {orig items:Array Value}
variable {prog:Program}{w:World}{A:Around}{E:Value->Shared->Prop}{s:Shared}
theorem vM {acc:Array Value}(h:ItemsOf (fun i v=>if i<orig.size then orig[i]?=some v else items[items.size-1- (i-orig.size)]?=some v) acc (orig.size+items.size)):acc=orig++items.reverse:=by
 refine Array.ext ?_ fun i h1 h2=> ?_
 ·rw[h.1];simp
 ·have:=h.2 i acc[i] (by simp[h1])
  simp only at this;rw[Array.getElem_append]
  split at this
  ·rename_i hi
   rw[dif_pos hi];rw[Array.getElem?_eq_getElem hi] at this;exact(Option.some.inj this).symm
  ·rename_i hi
   rw[dif_neg hi,Array.getElem_reverse];have hlt:items.size-1- (i-orig.size)<items.size:=by rw[h.1] at h1;omega
   rw[Array.getElem?_eq_getElem hlt] at this;exact(Option.some.inj this).symm
theorem tO {S I t:Addr}{BI:Nat}{Q:Value->Shared->Prop}(hh:A.handled=none)(hS:s.heap.get? S=some {cls:=.type "list",data:=.seq orig BI})(hit:fe s.heap I t ((items.size:Int)-1))(ht:IsTup s.heap t items)
 (hSI:S≠I) (hSt:S≠t) (hne:t≠I) (hz:orig.size+items.size≤1000000)
 (hQ:∀h' tk c',(∀b o,b≠S->b≠I->s.heap.get? b=some o->h'.get? b=some o)->h'.get? S=some {cls:=.type "list",data:=.seq (orig++items.reverse) c'}->Q .none {s with heap:=h',toks:=tk}):
 wpAny (model prog w) A (call (.builtin "list.extend") [.ref S,.ref I]) Q E s:=by
 have hSf:S∉ [I,t]:=by simp only[List.mem_cons,List.not_mem_nil,or_false,not_or];exact⟨hSI,hSt⟩
 have W:=wQ (prog:=prog) (w:=w) (A:=A.in1) hh I t hne items orig (by lia)
 have st0:∀h:Heap,(∀b o,b≠S->s.heap.get? b=some o->h.get? b=some o)->fe h I t ((items.size:Int)-1- ((orig.size-orig.size:Nat):Int))/\IsTup h t items:=fun h hk=>by
  refine⟨?_,let ⟨o,ho,r⟩:=ht;⟨o,hk t o (Ne.symm hSt) ho,r⟩⟩;rw[Nat.sub_self,show(items.size:Int)-1- ((0:Nat):Int)=(items.size:Int)-1 by simp]
  exact hit.at fun o e=>hk I o (Ne.symm hSI) e
 refine wpAny_call (codeAny_call_builtin PySem.F.slot_list_extend.plain PySem.F.entry_list_extend (PySem.F.slot_list_extend.check _ _ _ _ _ _ _ _ ⟨_,hS,rfl⟩ (PySem.F.args_list_extend_2 _ _) ?_))
 show wpAny _ _ (Builtin.List.listExtendWith (.ref S) (.ref I) .none) _ _ s
 have key:∀ (h:Heap) (BH tk:Nat),(∀b o,b≠S->s.heap.get? b=some o->h.get? b=some o)->h.get? S=some {cls:=.type "list",data:=.seq orig BH}->
  codeAny (model prog w) A (.builtin "list.extend.loop" ⟨[.ref S,.ref I,.none],[]⟩) (fun r s'=>match r with | .ok (.ret v)=>Q v s' | .ok _=>False | .error e=>E e s') {s with heap:=h,toks:=tk}:=by
  intro h BH tk hk hS₁;refine codeAny_extend_loopS W.toS (by rw[sizeLine_eq];lia) S hSf .none items.size orig.size _ orig BH (by lia) (by lia) ⟨Nat.le_refl _,by lia,(st0 h hk).1,(st0 h hk).2⟩ hS₁ ⟨rfl,fun j v hj=> ?_⟩ fun s' acc' c' hm hS' hacc=> ?_
  ·have:=(Array.getElem?_eq_some_iff.mp hj).1
   show if j<orig.size then _ else _
   rw[ap this];exact hj
  ·rw[vM hacc] at hS'
   rw[Moved.eq_with hm];refine hQ s'.heap s'.toks c' (fun b o hb hbI e=>hm.heap b o (fun hmem=> ?_) (hk b o hb e)) hS';rcases a_ hmem with e' | hmem
   ·exact hb e'
   ·exact hbI (aB hmem)
 unfold Builtin.List.listExtendWith;refine aq (wpAny_typeOf (T:= "reversed") hit.typeIs ?_);have h1:Builtin.List.listSameRef (.ref S) (.ref I)=false:=by simp[Builtin.List.listSameRef,hSI]
 have h2:(Value.type "reversed" ==Value.type "list")=false:=by decide
 have h3:(Value.type "reversed" ==Value.type "tuple")=false:=by decide
 rw[h1,h2,h3];refine aq (nU hit ?_);refine aq (wpAny_holding (xG hit ht (by lia) fun tk b=> ?_))
 refine wpAny_ite_split (fun y=> ?_) (fun y=>aL ⟨plainId_quiet PySem.F.plain_extend_loop _,key _ BI _ (fun b o y e=>e) hS⟩);refine aq (wpAny_rule ?_);refine aq ?_
 show wpAny _ _ (updateSeq S (·.push .none)>>=fun y=>updateSeq S (·.pop)) _ _ _
 have hzo:orig.size≤1000000:=by lia
 refine aq (wpAny_updateSeq hS rfl ?_ (by rw[sizeLine_eq];lia) (by show(orig.push Value.none).size≤_;rw[sizeLine_eq,Array.size_push];lia))
 have hS₂:=Heap.get?_update_self (Obj.mapSeq (·.push Value.none)) hS rfl;refine wpAny_updateSeq (s:={s with heap:=s.heap.update S (Obj.mapSeq (·.push Value.none)),toks:=tk}) hS₂ rfl ?_ (by show(orig.push Value.none).size≤_;rw[sizeLine_eq,Array.size_push];lia) (by show(orig.push Value.none).pop.size≤_;rw[sizeLine_eq,Array.pop_push];lia)
 have hS₃:=Heap.get?_update_self (Obj.mapSeq (·.pop)) hS₂ rfl;refine aL ⟨plainId_quiet PySem.F.plain_extend_loop _,key _ _ _ (fun b o hb e=> ?_) (hS₃.trans (by simp only[Obj.mapSeq,Array.pop_push];rfl))⟩
 exact(Heap.get?_update_other _ _ (Ne.symm hb)).trans ((Heap.get?_update_other _ _ (Ne.symm hb)).trans e)
end
end
section
open PySem PySem.W PyProof.Rows
section
variable {X:Cx}{gl:List (Str×G)}{nm nmC:Nm}{A:Around}{call:bV}
theorem rU {ρ:dM}{σ:H}{s:Shared}{a:Nat}{vs us:List V}{c d:Value}{Q:Value->Shared->Prop}{E:Value->Shared->Prop}(hh:A.handled=none)(I:Inv X ρ σ s.heap)(r:VR X ρ s.heap (.ref a) c)(rd:VR X ρ s.heap (.tup us) d)(e:σ[a]?=some (.list vs))
 (hz:vs.length+us.length≤1000000) (h:∀s',Go X [] ρ s ρ (σ.set a (.list (vs++us.reverse))) s'->Q .none s'):
 wpAny (model X.prog X.w) A (PySem.call (.type "reversed") [d]) (fun rv aR=>wpAny (model X.prog X.w) A (PySem.call (.builtin "list.extend") [c,rv]) Q E aR) E s:=by
 obtain⟨p,cs,n,hp,rfl,e1,h1,r1,_⟩:=r.list_at I e;obtain⟨t,ds,rfl,ht,r2⟩:=rd.tup_inv;have l1:=r1.size;have l2:=r2.size;refine j7 ht (by lia) fun k=> ?_
 have hSt:p.2≠t:=fun z=>ht.elim fun o q=>absurd (Value.type.inj ((ag Obj.cls (sj (h1.symm.trans ((ag _ z).trans q.1)))).trans q.2.1)) (by decide)
 have hSI:p.2≠s.heap.objs.size:=Nat.ne_of_lt (Heap.lt_size h1);have htI:t≠s.heap.objs.size:=ht.elim fun o q=>Nat.ne_of_lt (Heap.lt_size q.1);have kp:∀b o,s.heap.get? b=some o->(s.heap.push (Ba t ((ds.size:Int)-1))).get? b=some o:=bT;refine tO (items:=ds) (orig:=cs) (BI:=n) hh (kp _ _ h1) ⟨_,Heap.get?_push_size _ rfl,rfl,rfl⟩ (ht.imp fun o q=>⟨kp _ _ q.1,q.2⟩) hSI hSt htI (by lia) fun h' tk c' hk hg=> ?_
 have hs:∀b o,b≠p.2->s.heap.get? b=some o->h'.get? b=some o:=fun b o hb e=>hk b o hb (Nat.ne_of_lt (Heap.lt_size e)) (kp b o e);obtain⟨J,x⟩:=I.writeX (o:=.list (vs++us.reverse)) hp hs ⟨_,hg⟩ fun x=>⟨e1,by simp;lia,_,c',hg,by rw[Array.toList_append,Array.toList_reverse];exact(r1.ext x).append (r2.ext x).reverse⟩
 exact h _ ⟨J,x,rfl,rfl⟩
theorem mC {l a:Expr}{x y:Ex}{f:Str}{apos cpos pos p1 p2:Pos}(he:fy l "extend" apos cpos [.Call (.Name f p1) [a] [] p2])(hs:cH a=true)(hk:nm.names.lookup f=some .globalImplicit)(hg:gl.lookup f=some (.ty "reversed"))(hx:eM f=true)
 (hl:Ev X gl nm A call l x) (ha:Ev X gl nm A call a y):rH X gl nm A call (.Expr (.Call (.Attribute l "extend" apos) [.Call (.Name f p1) [a] [] p2] [] cpos) pos) (.extendRev x y):=.of fun Hh N env en ρ σ s Q V I r e h=>by
 obtain⟨b,aQ,hu,e⟩:=n6 e;obtain⟨vs0,hz0,e⟩:=tz e;obtain⟨us,σ₂,hv,e⟩:=D9 e;obtain⟨vs,hz,e⟩:=tz e;obtain⟨hlen,e⟩:=oi e;cases sj e;refine wpAny_Expr (lS F.plainAttrs_list F.slot_list_extend F.type_list_extend he (by rw[eF rfl];rfl) (hl.ok Hh env en ρ σ s _ _ _ V I hu fun aT aR c aI bv=> ?_)) (eH V.kind)
 obtain⟨k1,k2⟩:=hY aI.inv bv hz0
 exact⟨k1,k2,ni rfl (jI (.type "reversed") (.inr ⟨_,rfl,rfl⟩) Hh aI.inv (V.go aI) hk hg hx hs (ha.ok Hh env en aT _ aR _ _ _ (V.go aI) aI.inv hv fun dA dw d aZ fg=>
  rU Hh.hh aZ.inv (bv.ext aZ.ext) fg hz hlen fun s' bZ=>h _ _ _ ((aI.trans aZ).trans bZ).of_nil (((V.go aI).go aZ).go bZ) .next))⟩
end
end
section
set_option backward.match.sparseCases true
open PySem PySem.W PyProof.Rows
variable {x:Str}{c:Value}
theorem v_ (kd:Str->Option NameKind)(x:Str):∀ (b:List (Str×Value)) (m:Str->Option Value),x∉b.map (·.1)->bindL kd b m x=m x:=by
 intro b
 induction b with
 | nil=>
   intro _ _;exact rfl
 | cons hd9 r ih=>
   obtain⟨n,v⟩:=hd9;intro m h;rw[List.map_cons,List.mem_cons,not_or] at h;rw[bindL,ih _ h.2]
   split
   ·exact au h.1
   ·rfl
theorem sV (kd:Str->Option NameKind)(hk:kd x=some .local):∀ (b:List (Str×Value)) (m:Str->Option Value),(b.map (·.1)).Nodup->(x,c)∈b->bindL kd b m x=some c
 | (n,v)::r,m,nd,h=>by
   rw[List.map_cons,List.nodup_cons] at nd;rw[bindL];rcases a_ h with e | h
   ·cases e
    rw[v_ kd x r _ nd.1,ap hk,ap rfl]
   ·exact sV kd hk r _ nd.2 h
theorem wa (kd:Str->Option NameKind)(x:Str):∀ (b:List (Str×Value)) (m:Str->Option Value),x∉b.map (·.1)->bindC kd b m x=m x:=by
 intro b
 induction b with
 | nil=>
   intro _ _;exact rfl
 | cons hd9 r ih=>
   obtain⟨n,v⟩:=hd9;intro m h;rw[List.map_cons,List.mem_cons,not_or] at h;rw[bindC,ih _ h.2]
   split
   ·rfl
   ·exact au h.1
theorem sW (kd:Str->Option NameKind)(hk:kd x≠some .local):∀ (b:List (Str×Value)) (m:Str->Option Value),(b.map (·.1)).Nodup->(x,c)∈b->bindC kd b m x=some c
 | (n,v)::r,m,nd,h=>by
   rw[List.map_cons,List.nodup_cons] at nd;rw[bindC];rcases a_ h with e | h
   ·cases e
    rw[wa kd x r _ nd.1,au hk,ap rfl]
   ·exact sW kd hk r _ nd.2 h
theorem pP:∀ (names:List (Str×NameKind)) (n:Nat) (acc:List (Str×Addr)) (x:Str),(x∈acc.map (·.1)\/(x,NameKind.cell)∈names)->x∈(cellsFrom n names acc).map (·.1):=by
 intro names
 induction names with
 | nil=>
   intro n acc x h;rcases h with h | h
   ·exact h
   ·simp at h
 | cons hd9 r ih=>
   obtain⟨m,k⟩:=hd9;intro n acc x h;rw[cellsFrom]
   split
   ·rename_i hk
    refine ih _ _ x ?_;rcases h with h | h
    ·exact .inl (by rw[List.map_cons];exact aP _ h)
    ·rcases a_ h with e | h
     ·cases e;exact .inl (by rw[List.map_cons];exact aK)
     ·exact .inr h
   ·rename_i hk
    refine ih _ _ x ?_;rcases h with h | h
    ·exact .inl h
    ·rcases a_ h with e | h
     ·cases e;simp at hk
     ·exact .inr h
theorem sY:∀ {cs:List (Str×Addr)},(cs.Pairwise fun x y=>x.2≠y.2)->∀ {x y:Str} {a:Addr},(x,a)∈cs->(y,a)∈cs->x=y
 | z::cs,h,x,y,a,hx,hy=>by
   rw[List.pairwise_cons] at h;rcases a_ hx with e1 | hx'
   ·rcases a_ hy with e2 | hy'
    ·rw[<-e2] at e1;cases e1;rfl
    ·exact absurd (by rw[<-e1]) (h.1 _ hy')
   ·rcases a_ hy with e2 | hy'
    ·exact absurd (by rw[<-e2]) (h.1 _ hx')
    ·exact sY h.2 hx' hy'
section
variable {j n:Nat}
variable {X:Cx}{gl:List (Str×G)}{A:Around}{call:bV}
structure kT (X:Cx) (k:Nat) (fd:FD) (nm:Nm) (body:List Stmt) (f:FuncData) (ps:List Str) (dcs:List Value):Prop where
 obj:mR (fun oc od osl=>X.K.lookup (X.fn k)=some ⟨oc,od,.func f,osl⟩)
 code:codeIn X.K f.code f.qualname=true
 body:f.body=.stmts body
 glo:f.globals=mainGlobals
 bui:f.builtins=builtinsNs
 clo:f.closure=[]
 kind:f.scope.kind=.function
 co:f.scope.isCoroutine=false
 gen:f.scope.isGenerator=false
 names:f.scope.names=nm.names
 params:nm.slots.take fd.np=ps.map some
 plen:ps.length=fd.np
 slen:nm.slots.length=fd.ns
 le:fd.np≤fd.ns
 nodup:ps.Nodup
 pk:∀x∈ps,nm.names.lookup x=some .local\/nm.names.lookup x=some .cell
 cells:∀x,nm.names.lookup x=some .cell->(x,NameKind.cell)∈nm.names
 nofree:∀x,nm.names.lookup x≠some .free
 dflt:∀ρ h,cp X ρ h fd.dflt dcs
 dle:dcs.length≤fd.np
 bind:∀ (s:Shared) (cs:List Value),X.K.In s.heap->cs.length≤fd.np->fd.np≤cs.length+dcs.length->BindsTo s f ⟨cs,[]⟩ (ps.zip (cs++dcs.drop (cs.length+dcs.length-fd.np)))
theorem yw {α β:Type}{xs:List α}{ys:List β}{a:α}{b:β}(h1:xs[j]?=some a)(h2:ys[j]?=some b):(a,b)∈xs.zip ys:=
 List.mem_of_getElem? (i:=j) (List.getElem?_zip_eq_some.mpr ⟨h1,h2⟩)
theorem z_ {α:Type}{a b:List α}(h1:a.length≤n)(h2:n≤a.length+b.length):(a++b.drop (a.length+b.length-n)).length=n:=by rw[bd,List.length_drop];obtain⟨m,rfl⟩:=Nat.exists_eq_add_of_le h1;rw[Nat.add_sub_add_left,Nat.sub_sub_self (Nat.le_of_add_le_add_left h2)]
theorem yO {α:Type}{l:List α}{v:α}(h:(l.map some++List.replicate n none)[j]?=some (some v)):l[j]?=some v:=by
 by_cases q:j< (l.map some).length
 ·rw[List.getElem?_append_left q,List.getElem?_map] at h
  obtain⟨w,hw,e⟩:=om h;exact hw.trans e
 ·rw[List.getElem?_append_right (Nat.not_lt.mp q)] at h
  exact nn (List.mem_replicate.mp (List.mem_of_getElem? h)).2.symm
theorem v7 {k:Nat}{fd:FD}{nm:Nm}{body:List Stmt}{f:FuncData}{ps:List Str}{dcs:List Value}{N:Nat}{vs:List V}{cs:List Value}{e:En}{fl:Fl}{en':En}{ρ:dM}{σ σ':H}{s:Shared}{R:Result->Shared->Prop}(W:fO X gl)(FK:kT X k fd nm body f ps dcs)
 (hroom:A.depth<recursionLimit) (Hh:∀env,eX X gl (A.deeper env) call) (hb:∀A,ij X gl nm A call body fd.body) (I:Inv X ρ σ s.heap) (rs:cp X ρ s.heap vs cs)
 (hbind:Mine.bindArgs fd vs=some e) (hx:Mine.execs call N fd.body e σ=some (fl,en',σ'))
 (h:∀ρ' s' r,Go X [] ρ s ρ' σ' s'->rO X ρ' s'.heap fl r->R (.ok (.ret (match r with | .ret v=>v | _=>.none))) s'):
 codeAny (model X.prog X.w) A (.call (.ref (X.fn k)) ⟨cs,[]⟩) R s:=by
 obtain⟨oc,od,osl,hobj⟩:=FK.obj;have Kin:X.K.In s.heap:=fun a o q=>I.base a o (W.amb.kin a o q);have hl:=rs.length;have hdl:=(FK.dflt ρ s.heap).length;obtain⟨hcond,hbind⟩:=oi hbind;cases sj hbind;have hBT:=FK.bind s cs Kin (hl▸hcond.1) (hl▸hdl▸hcond.2);refine codeAny_call_function hroom (Kin _ _ hobj) rfl FK.co FK.gen FK.body (codeRec_of Kin FK.code) (hBT _ _ _ _ ?_);rw[FK.clo]
 have rall:cp X ρ s.heap (vs++fd.dflt.drop (vs.length+fd.dflt.length-fd.np)) (cs++dcs.drop (cs.length+dcs.length-fd.np)):=by rw[hl,hdl];exact rs.append ((FK.dflt ρ s.heap).drop _)
 have alen:=z_ hcond.1 hcond.2;rw[<-List.map_append] at hx
 generalize vs++fd.dflt.drop (vs.length+fd.dflt.length-fd.np)=all at rall alen hx
 generalize cs++dcs.drop (cs.length+dcs.length-fd.np)=cal at rall
 have hbl:(ps.zip cal).map (·.1)=ps:=List.map_fst_zip (Nat.le_of_eq (FK.plen.trans (alen.symm.trans rall.length)));have cellAt:∀x,nm.names.lookup x=some .cell->∃a,(cellsFrom (s.heap.objs.size+1) f.scope.names []).lookup x=some a:=fun x q=>FK.names▸iZ (List.mem_map.mp (pP nm.names _ [] x (.inr (FK.cells _ q))));refine wpAny_newFunctionEnv_cells FK.kind (fun x hx=> ?_) fun env henv s' J=> ?_
 ·rw[FK.names]
  exact(FK.pk _ (List.of_mem_zip (a:=x.1) (b:=x.2) hx).1).imp id fun q=>⟨q,(cellAt _ q).elim fun a ha=>by rw[FK.names] at ha;rw[ha];rfl⟩
 have keep:=J.toInCall.keep;obtain⟨hh,tk,rfl⟩:=J.toInCall.same;have elocals:env.locals=s.heap.objs.size:=by rw[henv];rfl
 have ecells:env.cells=cellsFrom (s.heap.objs.size+1) f.scope.names []:=by rw[henv];rfl
 have escope:env.scope=f.scope:=by rw[henv];rfl
 have eglo:env.globals=f.globals:=by rw[henv];rfl
 have ebui:env.builtins=f.builtins:=by rw[henv];rfl
 clear henv
 have ekind:∀x,env.kindOf x=nm.names.lookup x:=fun x=>by unfold Env.kindOf;rw[escope,FK.names]
 have g0:Go X [] ρ s ρ σ {s with heap:=hh,toks:=tk}:=Go.grow I keep rfl rfl;have abv:∀a,s9 env a->s.heap.objs.size≤a:=fun a ha=>ha.elim (fun z=>Nat.le_of_eq (z.trans elocals).symm) fun z=>z.elim fun x hx=>elocals▸Nat.le_of_lt (J.above x a (mem_of_lookup hx));refine⟨(W.nolimit.keeps fun a o q=>keep a o (I.base a o q)),codeAny_func ?_⟩
 have V:b_ X nm env (all.map some++List.replicate (fd.ns-fd.np) none) ρ hh:=by
  refine⟨escope▸FK.kind,escope▸FK.names,eglo.trans FK.glo,ebui.trans FK.bui,fun a ha=>⟨ha.elim (fun z=>z▸J.toInCall.ns.imp fun u z=>z.elim fun u z=>z.elim fun u z=>z.1) fun z=>z.elim fun x hx=>(J.cell x a hx).imp fun u z=>z.1,(I.fresh (abv a ha)).1,(I.fresh (abv a ha)).2.1⟩,
   ⟨_,J.toInCall.ns⟩,fun x a hx=>⟨_,J.cell x a hx⟩,fun j v x hj hs=> ?_,?_,fun x y a hx hy=>sY J.apart (mem_of_lookup hx) (mem_of_lookup hy),fun x hx=>absurd (J.above x env.locals (mem_of_lookup hx)) (Nat.lt_irrefl _),fun x hx=>hx.elim (fun q=>ecells▸cellAt x q) fun q=>absurd q (FK.nofree x)⟩
  ·have hv':=yO hj
   obtain⟨c,hc,rc⟩:=rall.get hv'
   have hpsx:ps[j]?=some x:=by have h1:(nm.slots.take fd.np)[j]?=some (some x):=(List.getElem?_take_of_lt (Nat.lt_of_lt_of_eq (bP hv').1 alen)).trans hs;rw[FK.params,List.getElem?_map] at h1;exact(om h1).elim fun y z=>sj z.2▸z.1
   have hmem:=yw hpsx hc;refine⟨c,(FK.pk x (List.mem_of_getElem? hpsx)).imp (fun q=>⟨(ekind x).trans q,_,J.toInCall.ns,sV _ ((ekind x).trans q) _ _ (hbl.symm▸FK.nodup) hmem⟩) fun q=>⟨.inl ((ekind x).trans q),(cellAt x q).elim fun a ha=> ?_⟩,rc.ext g0.ext⟩;rw[<-ecells] at ha;exact⟨a,ha,sW env.kindOf (by rw[ekind,q];decide) (ps.zip cal) (fun u=>none) (hbl.symm▸FK.nodup) hmem▸J.cell x a ha⟩
  ·rw[bd,aD,List.length_replicate,alen,FK.slen]
   exact Nat.add_sub_cancel' FK.le
 refine wpAny_mono ((hb (A.deeper env)).ok (Hh env) N env _ ρ σ {s with heap:=hh,toks:=tk} fl en' σ' _ V g0.inv hx fun ρ' s' r g V' hf=>h ρ' s' r ?_ hf) (fun u u z=>z) fun u u z=>z.elim;have g1:Go X (gx env) ρ s ρ' σ' s':=g0.of_nil.trans g;exact⟨g1.inv,g1.ext.drop fun a ha=>.inr (cJ (abv a (qR ha))),g1.gens,g1.os⟩
end
end
section
open PySem PySem.W PyProof.Rows
section
variable {n a c k:Nat}{v:V}{ρ:dM}{vs:List V}{σ σ':H}{h:Heap}{f:Flow}
variable {X:Cx}{gl:List (Str×G)}{A:Around}{call:bV}{fs:List FD}{N:Nat}
inductive Ck (X:Cx) (gl:List (Str×G)) (k:Nat) (fd:FD):Prop
 | mk {nm:Nm} {body:List Stmt} {f:FuncData} {ps:List Str} {dcs:List Value} (FK:kT X k fd nm body f ps dcs) (ss:∀A call,ij X gl nm A call body fd.body):Ck X gl k fd
inductive wi (P:Nat->FD->Prop):Nat->List FD->Prop
 | nil {i:Nat}:wi P i []
 | cons {i:Nat} {x:FD} {l:List FD} (h:P i x) (r:wi P (i+1) l):wi P i (x::l)
theorem wi.at {P:Nat->FD->Prop}{i:Nat}{l:List FD}(h:wi P i l):∀ {k:Nat} {x:FD},l[k]?=some x->P (i+k) x:=
 h.rec (motive:=fun i l z=>∀ {k:Nat} {x:FD},l[k]?=some x->P (i+k) x) (fun e=>nn e) fun{i x l} h z ih {k y} e=>by
  cases k with
  | zero=>exact sj e▸h
  | succ k=>exact(Nat.add_right_comm i 1 k▸ih e:P (i+k+1) y)
structure uW (X:Cx) (gl:List (Str×G)) (fs:List FD):Prop where
 W:fO X gl
 fn:∀k fd,fs[k]?=some fd->Ck X gl k fd
 keep:∀k,(∃x,gl.lookup x=some (.fn k))->keepIn X.K (.ref (X.fn k))=true
 keepc:∀c,c<2->keepIn X.K (.ref (X.cls c))=true
 make:∀c,c<2->makesIn X.K (X.cls c)=true/\findIn X.K (.ref (X.cls c)) "__init__" =some (some (.ref (X.fn c)))/\typeIn X.K (.ref (X.fn c))=some (.type "function")
theorem D7 {β:Type}{o:Option FD}{g:FD->Option β}{r:β}(h:(match o with | some x=>g x | none=>none)=some r):bp (fun x=>o=some x) (fun x=>g x=some r):=by
 cases o with
 | none=>exact nn h
 | some x=>exact⟨x,rfl,h⟩
theorem D8 {β:Type}{o:Option En}{g:En->Option β}{r:β}(h:(match o with | some x=>g x | none=>none)=some r):bp (fun x=>o=some x) (fun x=>g x=some r):=by
 cases o with
 | none=>exact nn h
 | some x=>exact⟨x,rfl,h⟩
theorem C0 {o:mx}{r:V×H}(h:(match o with | some (.next,_,ak)=>some (V.none,ak) | some (.ret v,_,ak)=>some (v,ak) | _=>none)=some r):cD (fun fl en'=>o=some (fl,en',r.2)) (fun fl en'=>((fl=.next/\r.1=.none)\/fl=.ret r.1)):=by
 cases o with
 | none=>exact nn h
 | some p=>
   obtain⟨f,e,ak⟩:=p;cases f with
   | next=>cases sj h;exact⟨_,_,rfl,.inl ⟨rfl,rfl⟩⟩
   | ret v=>cases sj h;exact⟨_,_,rfl,.inr rfl⟩
   | cont=>exact nn h
theorem tT (e:av fs N (n+1) k vs σ=some (v,σ')):uZ (fun fd en fl en'=>fs[k]?=some fd) (fun fd en fl en'=>Mine.bindArgs fd vs=some en) (fun fd en fl en'=>Mine.execs (av fs N n) N fd.body en σ=some (fl,en',σ')) (fun fd en fl en'=>((fl=.next/\v=.none)\/fl=.ret v)):=by obtain⟨fd,hfd,e⟩:=D7 e;obtain⟨en,hen,e⟩:=D8 e;obtain⟨fl,en',hx,hv⟩:=C0 e;exact⟨fd,en,fl,en',hfd,hen,hx,hv⟩
theorem rO.retR (r:rO X ρ h (.ret v) f):bp (fun c=>f=.ret c) (fun c=>VR X ρ h v c):=by cases r with | ret r=>exact⟨_,rfl,r⟩
theorem rO.nextL (r:rO X ρ h .next f):f=.next:=by cases r;rfl
theorem uO {cs:List Value}{s:Shared}{R:Result->Shared->Prop}(P:uW X gl fs)(Hh:∀env,eX X gl (A.deeper env) (av fs N n))(hroom:A.depth<recursionLimit)
 (e:av fs N (n+1) k vs σ=some (v,σ')) (I:Inv X ρ σ s.heap) (rs:cp X ρ s.heap vs cs) (h:∀ρ' s' c,Go X [] ρ s ρ' σ' s'->VR X ρ' s'.heap v c->R (.ok (.ret c)) s'):
 codeAny (model X.prog X.w) A (.call (.ref (X.fn k)) ⟨cs,[]⟩) R s:=by
 obtain⟨fd,en,fl,en',hfd,hen,hx,hv⟩:=tT e;obtain⟨FK,hb⟩:=P.fn k fd hfd;refine v7 P.W FK hroom Hh (fun A=>hb A _) I rs hen hx fun ρ' s' r g hf=> ?_;rcases hv with⟨rfl,rfl⟩ | rfl
 ·cases hf.nextL;exact h ρ' s' _ g .none
 ·obtain⟨c,rfl,r⟩:=hf.retR
  exact h ρ' s' c g r
theorem p_ (c:Addr)(cs:List Value):(Code.builtin "type.__call__" ⟨.ref c::cs,[]⟩).frames=0:=rfl
theorem vd (c:Addr)(cs:List Value):(Code.builtin "type.__call__" ⟨.ref c::cs,[]⟩).weight≤2:=by
 have h3:(Code.builtin "type.__call__" ⟨.ref c::cs,[]⟩).isGuard=false:=by show guardIds.contains "type.__call__" =false;decide
 have h4:(Code.builtin "type.__call__" ⟨.ref c::cs,[]⟩).isCaller=false:=rfl;unfold Code.weight;rw[p_,h3,h4]
 split<;>simp
theorem EL (h:a+10*n+60<c):a+40<c:=by lia
theorem Fc (h:a+10*(n+1)+60<c):a+3+10*n+60<c:=by lia
theorem Fb (h:a+10*(n+1)+60<c)(hk:k≤4):a+k+3+10*n+60<c:=by lia
theorem E8 (h:a+3*(n+1)+3<c):a+1+3*n+3<c/\a<c:=by lia
theorem Fv (h:a+3*(n+1)+3<c)(hk:k≤2):a+k+1+3*n+3<c/\a+k<c:=by lia
theorem zA (P:uW X gl fs):∀ {A:Around},A.handled=none->A.units+10*n+60<cLine->A.depth+3*n+3<recursionLimit->eX X gl A (av fs N n):=by
 induction n with
 | zero=>exact fun{A} hh hu hd=>⟨P.W,hh,EL (n:=0) hu,fun k vs σ v σ' cs ρ s Q e=>nn e,P.keep,fun c vs σ σ' cs ρ s Q e=>nn e,P.keepc⟩
 | succ n ih=>
   intro A hh hu hd;refine⟨P.W,hh,EL hu,fun k vs σ v σ' cs ρ s Q e I rs h=>wpAny_call (uO P (fun env=>ih (A:=A.deeper env) hh (Fc hu) (E8 hd).1) (E8 hd).2 e I rs h),P.keep,fun c vs σ σ' cs ρ s Q e hc I rs h=> ?_,P.keepc⟩;obtain⟨m1,m2,m3⟩:=P.make c hc;have Kin:X.K.In s.heap:=fun a o q=>I.base a o (P.W.amb.kin a o q);obtain⟨hh',g,d,t,os⟩:=s;refine wpAny_call (make_core (makes_of Kin m1) (looks_findIn Kin m2) (fun self=>bind_fn Kin self m3) (.inl rfl) ?_)
   obtain⟨J,x⟩:=I.alloc (h':=(hh'.push emptyDict).push (instObj (X.cls c) hh'.objs.size)) (o:=.inst c []) (p:=(hh'.objs.size+1,hh'.objs.size)) (fun a o q=>Heap.get?_push_of_some _ (Heap.get?_push_of_some _ q)) (Nat.le_refl _) fun x=>
    ⟨(Heap.size_push (h:=hh') (o:=emptyDict))▸Heap.get?_push_size (hh'.push emptyDict) (o:=instObj (X.cls c) hh'.objs.size) rfl,[],0,Heap.get?_push_of_some _ (Heap.get?_push_size _ rfl),.nil⟩
   have hr:=nk (p:=(hh'.objs.size+1,hh'.objs.size)) I.len;have g0:Go X [] ρ ⟨hh',g,d,t,os⟩ (ρ++[(hh'.objs.size+1,hh'.objs.size)]) (σ++[.inst c []]) ⟨(hh'.push emptyDict).push (instObj (X.cls c) hh'.objs.size),g,d,t,os⟩:=⟨J,x,rfl,rfl⟩;have hw:=Fv hd (vd (X.cls c) cs);refine uO (A:=A.under (.builtin "type.__call__" ⟨.ref (X.cls c)::cs,[]⟩)) P (fun env=>ih (A:=(A.under (.builtin "type.__call__" ⟨.ref (X.cls c)::cs,[]⟩)).deeper env) hh (Fb hu (by show 1+3*Code.frames _≤4;rw[p_];decide)) hw.1) hw.2 e J (.cons (.ref hr) (rs.ext x)) fun ρ' s' cv g1 r=> ?_
   rw[r.none_inv];exact⟨rfl,h ρ' s' _ (g0.trans g1) (VR.ref (p:=(hh'.objs.size+1,hh'.objs.size)) (g1.ext.pre.elim fun q hq=>hq▸(List.getElem?_append_left (bP hr).1).trans hr))⟩
end
end
section
open PySem PySem.W PyProof.Rows
section
noncomputable def cA (K:Frag) (a:Addr):FuncData:=match K.lookup a with
 | some ⟨_,_,.func f,_⟩=>f
 | _=>default
noncomputable def bl (f:FuncData):List Stmt:=match f.body with
 | .stmts b=>b
 | _=>[]
section
variable {scope:Scope}{k:Nat}{x:Str}{elt iter:Expr}{pos px:Pos}{eltX itX:Ex}
variable {X:Cx}{gl:List (Str×G)}{nm:Nm}{A:Around}{call:bV}
theorem pv {call:bV}(k:Nat):∀ (en:En) (σ:H) (v:V) (σ':H),ax call (.var k) en σ=some (v,σ')->σ'=σ:=fun en σ v σ' e=>(As e).elim fun y z=>(ag (·.2) z.2).symm
theorem pa {call:bV}{a:Ex}{c f:Nat}(h:∀ (en:En) (σ:H) (v:V) (σ':H),ax call a en σ=some (v,σ')->σ'=σ):∀ (en:En) (σ:H) (v:V) (σ':H),ax call (.attr a c f) en σ=some (v,σ')->σ'=σ:=fun en σ v σ' e=>by obtain⟨u,aQ,hu,e⟩:=ip e;exact(om e).elim fun y z=>(ag (·.2) z.2).symm.trans (h _ _ _ _ hu)
noncomputable def tF (k:Option NameKind):Bool:=k==some .cell || k==some .free
theorem q8 {k:Option NameKind}(h:tF k=true):k=some .cell\/k=some .free:=by
 unfold tF at h
 simpa using h
noncomputable def lH (nm nmC:Nm) (scope:Scope) (k:Nat) (x:Str):Bool:=
 scope.kind== .function&&(scope.names.all fun y=>y.2 != .cell)&&(scope.names.all fun y=>y.2 != .local || scope.names.lookup y.1==some .local)&&
 (scope.names.all fun y=>y.2 != .free || tF (nm.names.lookup y.1))&&(nmC.names.all fun y=> !(tF (some y.2)) || scope.names.any fun z=>z.2== .free&&z.1==y.1)&&
 nmC.slots.length==nm.slots.length&&nmC.slots[k]?==some (some x)&&nmC.names.lookup x==some .local&&dQ nmC k x&&nm.slots[k]?==some none&&
 (nmC.slots.zipIdx.all fun p=>p.2==k || match p.1 with
  | none=>true
  | some y=>nm.slots[p.2]?==some (some y)&&tF (nm.names.lookup y)&&tF (nmC.names.lookup y)&&scope.names.any fun z=>z.2== .free&&z.1==y)
theorem mn {nm:Nm}{slots:List (Option Str)}(h:lH nm ⟨dI nm scope,slots⟩ scope k x=true):kS nm ⟨dI nm scope,slots⟩ scope k x:=by
 unfold lH at h;simp only[Bool.and_eq_true,beq_iff_eq] at h;obtain⟨⟨⟨⟨⟨⟨⟨⟨⟨⟨h1,h2⟩,h3⟩,h4⟩,h5⟩,h6⟩,h7⟩,h8⟩,h9⟩,h10⟩,h11⟩:=h
 have any_of:∀ {y:Str},(scope.names.any fun z=>z.2== .free&&z.1==y)=true->∃z∈scope.names,z.2=.free/\z.1=y:=fun q=>by rw[List.any_eq_true] at q;obtain⟨z,hz,hz'⟩:=q;simp only[Bool.and_eq_true,beq_iff_eq] at hz';exact⟨z,hz,hz'⟩
 refine⟨h1,fun y hy=> ?_,fun y hy hl=> ?_,fun y hy hf=> ?_,rfl,fun y hy=> ?_,h6,h7,h8,h9,h10,fun j y hjk hy=> ?_⟩
 ·have:=List.all_eq_true.mp h2 y hy;simpa using this
 ·have:=List.all_eq_true.mp h3 y hy
  rw[hl] at this;simpa using this
 ·have:=List.all_eq_true.mp h4 y hy
  rw[hf] at this;exact q8 (by simpa using this)
 ·have key:bp (fun kd=>(y,kd)∈dI nm scope) (fun kd=>tF (some kd)=true):=by
   rcases hy with q | q
   ·exact⟨_,mem_of_lookup q,rfl⟩
   ·exact⟨_,mem_of_lookup q,rfl⟩
  obtain⟨kd,hm,hc⟩:=key;have:=List.all_eq_true.mp h5 (y,kd) hm;simp only[hc,Bool.not_true,Bool.false_or] at this;exact any_of this
 ·have:=List.all_eq_true.mp h11 (some y,j) (List.mem_zipIdx_iff_getElem?.mpr hy)
  simp only[Bool.or_eq_true,beq_iff_eq,Bool.and_eq_true] at this;rcases this with q | ⟨⟨⟨q1,q2⟩,q3⟩,q4⟩
  ·exact absurd q hjk
  ·exact⟨q1,q8 q2,q8 q3,any_of q4⟩
theorem mj (slots:List (Option Str))(ok:lH nm ⟨dI nm scope,slots⟩ scope k x=true)(hs:∀env z,foldedSetIterable iter env z=pure z)(ha:Ev X gl nm A call iter itX)(he:Ev X gl ⟨dI nm scope,slots⟩ A call elt eltX):
 Ev X gl nm A call (.ListComp elt [⟨.Name x px,iter,[],0⟩] scope pos) (.comp eltX k itX):=BG _ (mn ok) hs ha he
theorem oX {c:Expr}{cX:Ex}(slots:List (Option Str))(ok:lH nm ⟨dI nm scope,slots⟩ scope k x=true)(hs:∀env z,foldedSetIterable iter env z=pure z)(ha:Ev X gl nm A call iter itX)(he:Ev X gl ⟨dI nm scope,slots⟩ A call elt eltX)(hc:Cd X gl ⟨dI nm scope,slots⟩ A call c cX):
 Ev X gl nm A call (.ListComp elt [⟨.Name x px,iter,[c],0⟩] scope pos) (.compIf eltX k itX cX):=xW _ (mn ok) hs ha he hc
theorem lG {pt p0:Pos}{t:Str}{kt:Nat}(slots:List (Option Str))(ok:lH nm ⟨dI nm scope,slots⟩ scope k x=true)(hs:∀env z,foldedSetIterable iter env z=pure z)(ha:Ev X gl nm A call iter itX)(he:Ev X gl ⟨dI nm scope,slots⟩ A call elt eltX)
 (hts:nm.slots[kt]?=some (some t)) (htl:nm.names.lookup t=some .local) (hto:dQ nm kt t=true)
 (hsw:(pt.line==pos.line&& !(scope.names.any fun(n,k)=>n==t&&(k== .local || k== .cell)))=true):
 rH X gl nm A call (.Assign [.Name t pt] (.ListComp elt [⟨.Name x px,iter,[],0⟩] scope pos) p0) (.assign (.name kt) (.comp eltX k itX)):=
 qJ _ (mn ok) hs ha he hts htl hto fun env hk hl=>by
  show(pure (env.blockKind== .function&&env.kindOf t==some .local&&pt.line==pos.line&& !(scope.names.any fun(n,k)=>n==t&&(k== .local || k== .cell))):Sem Bool)=pure true
  have hb:(env.blockKind==ScopeKind.function)=true:=by unfold Env.blockKind;rw[hk];rfl
  rw[hl,hb];simp only[Bool.and_eq_true] at hsw;simp[hsw.1,hsw.2]
end
end
end
section
open PySem PySem.W PyProof.Rows
section
noncomputable def gh:List (Str×G):=[(Str.ofString "INST_ALT",G.int 0),(Str.ofString "INST_RANGE",G.int 1),(Str.ofString "INST_CAPTURE",G.int 2),(Str.ofString "INST_EMPTY",G.int 3),(Str.ofString "INST_MATCH",G.int 4),(Str.ofString "INST_NOP",G.int 5),(Str.ofString "INST_FAIL",G.int 6),(Str.ofString "EMPTY_ALL",G.int 63),
 (Str.ofString "FLATTEN_STEPS",G.tup [1,2,3]),(Str.ofString "Inst",G.cls 0),(Str.ofString "Program",G.cls 1),(Str.ofString "len",G.bi "len"),(Str.ofString "bytes",G.ty "bytes"),(Str.ofString "int",G.ty "int"),(Str.ofString "list",G.ty "list"),(Str.ofString "range",G.ty "range"),(Str.ofString "reversed",G.ty "reversed"),
 (Str.ofString "program_twin",G.fn 2),(Str.ofString "program_counts",G.fn 3),(Str.ofString "program_heads",G.fn 4),(Str.ofString "inst_fault",G.fn 5),(Str.ofString "program_ways_fault",G.fn 6),(Str.ofString "program_faults",G.fn 7),(Str.ofString "nops_end",G.fn 8),(Str.ofString "without_nops",G.fn 9),(Str.ofString "flatten_ways",G.fn 10),(Str.ofString "first_roots",G.fn 11),(Str.ofString "shared_ways",G.fn 12),(Str.ofString "all_roots",G.fn 13),
 (Str.ofString "flatten_key",G.fn 14),(Str.ofString "flatten_list",G.fn 15),(Str.ofString "flattened",G.fn 16),(Str.ofString "_law_digits",G.fn 17),(Str.ofString "_law_inst",G.fn 18),(Str.ofString "_law_marks",G.fn 19),(Str.ofString "_law_key",G.fn 20),(Str.ofString "_law_told",G.fn 21),(Str.ofString "_law_list",G.fn 22),(Str.ofString "_law_ways",G.fn 23),(Str.ofString "_law_found",G.fn 24),(Str.ofString "_law_reached",G.fn 25),(Str.ofString "_law_leads_to_nop",G.fn 26),(Str.ofString "_law_is_laid_well",G.fn 27)]
noncomputable def fN:dz:=(.cons (.assign (.attr (.var 0) 0 0) (.var 1)) (.cons (.assign (.attr (.var 0) 0 1) (.var 2)) (.cons (.assign (.attr (.var 0) 0 2) (.var 3)) (.cons (.assign (.attr (.var 0) 0 3) (.var 4)) (.cons (.assign (.attr (.var 0) 0 4) (.var 5)) (.cons (.assign (.attr (.var 0) 0 5) (.var 6)) (.cons (.assign (.attr (.var 0) 0 6) (.lit (.bool false))) (.nil))))))))
noncomputable def eI:FD:={np:=7,ns:=7,dflt:=[(.int 0),(.int 0),(.int 0),(.int 0),(.bool false)],body:=fN}
noncomputable def gw:dz:=(.cons (.assign (.attr (.var 0) 1 0) (.list (.cons (.new 0 (.cons (.lit (.int 6)) (.nil))) (.nil)))) (.cons (.assign (.attr (.var 0) 1 1) (.lit (.int 0))) (.cons (.assign (.attr (.var 0) 1 2) (.lit (.int 0))) (.cons (.assign (.attr (.var 0) 1 3) (.lit (.bool false))) (.cons (.assign (.attr (.var 0) 1 4) (.lit (.bool false))) (.cons (.assign (.attr (.var 0) 1 5) (.lit (.bool false))) (.cons (.assign (.attr (.var 0) 1 6) (.lit (.bool false))) (.cons (.assign (.attr (.var 0) 1 7) (.list .nil)) (.cons (.assign (.attr (.var 0) 1 8) (.lit (.bytes []))) (.cons (.assign (.attr (.var 0) 1 9) (.lit (.bool false))) (.cons (.assign (.attr (.var 0) 1 10) (.lit .none)) (.nil))))))))))))
noncomputable def gm:FD:={np:=1,ns:=1,dflt:=[],body:=gw}
noncomputable def jF:dz:=(.cons (.assign (.name 1) (.new 1 .nil)) (.cons (.assign (.attr (.var 1) 1 3) (.attr (.var 0) 1 3)) (.cons (.assign (.attr (.var 1) 1 4) (.attr (.var 0) 1 4)) (.cons (.assign (.attr (.var 1) 1 5) (.attr (.var 0) 1 5)) (.cons (.assign (.attr (.var 1) 1 8) (.attr (.var 0) 1 8)) (.cons (.assign (.attr (.var 1) 1 9) (.attr (.var 0) 1 9)) (.cons (.ret (.var 1)) (.nil))))))))
noncomputable def jr:FD:={np:=1,ns:=2,dflt:=[],body:=jF}
noncomputable def et:dz:=(.cons (.assign (.name 1) (.dict .nil)) (.cons (.for_ 2 (.tup (.cons (.lit (.int 0)) (.cons (.lit (.int 1)) (.cons (.lit (.int 2)) (.cons (.lit (.int 3)) (.cons (.lit (.int 4)) (.cons (.lit (.int 5)) (.cons (.lit (.int 6)) (.nil))))))))) (.cons (.assign (.sub (.var 1) (.var 2)) (.lit (.int 0))) (.nil))) (.cons (.for_ 3 (.attr (.var 0) 1 0) (.cons (.augAdd (.var 1) (.attr (.var 3) 0 0) (.lit (.int 1))) (.nil))) (.cons (.ret (.var 1)) (.nil)))))
noncomputable def ic:FD:={np:=1,ns:=4,dflt:=[],body:=et}
noncomputable def fM:dz:=(.cons (.assign (.name 1) (.list (.cons (.lit (.int 0)) (.nil)))) (.cons (.for_ 2 (.range (.bin .sub (.len (.attr (.var 0) 1 0)) (.lit (.int 1)))) (.cons (.if_ (.attr (.sub (.attr (.var 0) 1 0) (.var 2)) 0 6) (.cons (.append (.var 1) (.bin .add (.var 2) (.lit (.int 1)))) (.nil)) .nil) (.nil))) (.cons (.ret (.var 1)) (.nil))))
noncomputable def i5:FD:={np:=1,ns:=3,dflt:=[],body:=fM}
noncomputable def lN:dz:=(.cons (.if_ (.and (.cons (.cmp (.attr (.var 0) 0 0) (.one .eq (.lit (.int 1)))) (.cons (.not (.cmp (.lit (.int 0)) (.more .le (.attr (.var 0) 0 3) (.more .le (.attr (.var 0) 0 4) (.one .le (.lit (.int 255))))))) (.nil)))) (.cons (.ret (.bad)) (.nil)) .nil) (.cons (.if_ (.and (.cons (.cmp (.attr (.var 0) 0 0) (.one .eq (.lit (.int 2)))) (.cons (.cmp (.attr (.var 0) 0 2) (.one .lt (.lit (.int 2)))) (.nil)))) (.cons (.ret (.bad)) (.nil)) .nil) (.cons (.if_ (.and (.cons (.cmp (.attr (.var 0) 0 0) (.one .eq (.lit (.int 3)))) (.cons (.or (.cons (.cmp (.attr (.var 0) 0 2) (.one .eq (.lit (.int 0)))) (.cons (.cmp (.bin .band (.attr (.var 0) 0 2) (.lit (.int 63))) (.one .ne (.attr (.var 0) 0 2))) (.nil)))) (.nil)))) (.cons (.ret (.bad)) (.nil)) .nil) (.cons (.if_ (.and (.cons (.cmp (.attr (.var 0) 0 0) (.one .eq (.lit (.int 4)))) (.cons (.cmp (.attr (.var 0) 0 2) (.one .lt (.lit (.int 0)))) (.nil)))) (.cons (.ret (.bad)) (.nil)) .nil) (.cons (.ret (.lit .none)) (.nil))))))
noncomputable def lD:FD:={np:=1,ns:=1,dflt:=[],body:=lN}
noncomputable def fG:dz:=(.cons (.assign (.name 3) (.sub (.attr (.var 0) 1 0) (.var 1))) (.cons (.if_ (.cmp (.attr (.var 3) 0 0) (.one .isIn (.tup (.cons (.lit (.int 4)) (.cons (.lit (.int 6)) (.nil)))))) (.cons (.ret (.lit .none)) (.nil)) .nil) (.cons (.for_ 4 (.ite (.cmp (.attr (.var 3) 0 0) (.one .eq (.lit (.int 0)))) (.list (.cons (.attr (.var 3) 0 1) (.cons (.attr (.var 3) 0 2) (.nil)))) (.list (.cons (.attr (.var 3) 0 1) (.nil)))) (.cons (.if_ (.not (.cmp (.lit (.int 0)) (.more .le (.var 4) (.one .lt (.len (.attr (.var 0) 1 0)))))) (.cons (.ret (.bad)) (.nil)) .nil) (.cons (.if_ (.and (.cons (.attr (.var 0) 1 6) (.cons (.cmp (.var 4) (.one .notIn (.var 2))) (.nil)))) (.cons (.ret (.bad)) (.nil)) .nil) (.nil)))) (.cons (.ret (.lit .none)) (.nil)))))
noncomputable def fF:FD:={np:=3,ns:=5,dflt:=[],body:=fG}
noncomputable def dC:dz:=(.cons (.assign (.name 1) (.list .nil)) (.cons (.if_ (.or (.cons (.cmp (.attr (.var 0) 1 0) (.one .eq (.list .nil))) (.cons (.cmp (.attr (.sub (.attr (.var 0) 1 0) (.lit (.int 0))) 0 0) (.one .ne (.lit (.int 6)))) (.nil)))) (.cons (.ret (.list (.cons (.bad) (.nil)))) (.nil)) .nil) (.cons (.assign (.name 2) (.call 4 (.cons (.var 0) (.nil)))) (.cons (.assign (.name 3) (.dict .nil)) (.cons (.for_ 4 (.var 2) (.cons (.assign (.sub (.var 3) (.var 4)) (.lit (.bool true))) (.nil))) (.cons (.for_ 4 (.range (.len (.attr (.var 0) 1 0))) (.cons (.assign (.name 5) (.sub (.attr (.var 0) 1 0) (.var 4))) (.cons (.for_ 6 (.tup (.cons (.call 5 (.cons (.var 5) (.nil))) (.cons (.call 6 (.cons (.var 0) (.cons (.var 4) (.cons (.var 3) (.nil))))) (.nil)))) (.cons (.if_ (.cmp (.var 6) (.one .isNot (.lit .none))) (.cons (.append (.var 1) (.bad)) (.nil)) .nil) (.nil))) (.cons (.if_ (.and (.cons (.attr (.var 0) 1 6) (.cons (.cmp (.attr (.var 5) 0 0) (.one .eq (.lit (.int 0)))) (.nil)))) (.cons (.append (.var 1) (.bad)) (.nil)) .nil) (.nil))))) (.cons (.for_ 4 (.tup (.cons (.attr (.var 0) 1 1) (.cons (.attr (.var 0) 1 2) (.nil)))) (.cons (.if_ (.or (.cons (.not (.cmp (.lit (.int 0)) (.more .le (.var 4) (.one .lt (.len (.attr (.var 0) 1 0)))))) (.cons (.and (.cons (.attr (.var 0) 1 6) (.cons (.cmp (.var 4) (.one .notIn (.var 3))) (.nil)))) (.nil)))) (.cons (.append (.var 1) (.bad)) (.nil)) .nil) (.nil))) (.cons (.if_ (.and (.cons (.attr (.var 0) 1 6) (.cons (.or (.cons (.cmp (.attr (.var 0) 1 7) (.one .ne (.var 2))) (.cons (.not (.attr (.sub (.attr (.var 0) 1 0) (.neg (.lit (.int 1)))) 0 6)) (.nil)))) (.nil)))) (.cons (.append (.var 1) (.bad)) (.nil)) .nil) (.cons (.ret (.var 1)) (.nil))))))))))
noncomputable def ib:FD:={np:=1,ns:=7,dflt:=[],body:=dC}
noncomputable def d_:dz:=(.cons (.assign (.name 3) (.list .nil)) (.cons (.while_ (.and (.cons (.cmp (.attr (.sub (.var 0) (.var 1)) 0 0) (.one .eq (.lit (.int 5)))) (.cons (.cmp (.var 1) (.one .notIn (.var 2))) (.nil)))) (.cons (.assign (.sub (.var 2) (.var 1)) (.lit (.int 0))) (.cons (.append (.var 3) (.var 1)) (.cons (.assign (.name 1) (.attr (.sub (.var 0) (.var 1)) 0 1)) (.nil))))) (.cons (.assign (.name 4) (.getd (.var 2) (.var 1) (.var 1))) (.cons (.for_ 5 (.var 3) (.cons (.assign (.sub (.var 2) (.var 5)) (.var 4)) (.nil))) (.cons (.ret (.var 4)) (.nil))))))
noncomputable def kL:FD:={np:=3,ns:=6,dflt:=[],body:=d_}
noncomputable def gv:dz:=(.cons (.if_ (.attr (.var 0) 1 6) (.cons (.bad) (.nil)) .nil) (.cons (.assigns [.name 1,.name 2] (.tup (.cons (.dict .nil) (.cons (.list .nil) (.nil))))) (.cons (.for_ 3 (.attr (.var 0) 1 0) (.cons (.assigns [.name 4,.name 5] (.tup (.cons (.lit (.int 0)) (.cons (.attr (.var 3) 0 2) (.nil))))) (.cons (.if_ (.cmp (.attr (.var 3) 0 0) (.one .notIn (.tup (.cons (.lit (.int 4)) (.cons (.lit (.int 6)) (.nil)))))) (.cons (.assign (.name 4) (.call 8 (.cons (.attr (.var 0) 1 0) (.cons (.attr (.var 3) 0 1) (.cons (.var 1) (.nil)))))) (.nil)) .nil) (.cons (.if_ (.cmp (.attr (.var 3) 0 0) (.one .eq (.lit (.int 0)))) (.cons (.assign (.name 5) (.call 8 (.cons (.attr (.var 0) 1 0) (.cons (.var 5) (.cons (.var 1) (.nil)))))) (.nil)) .nil) (.cons (.append (.var 2) (.new 0 (.cons (.attr (.var 3) 0 0) (.cons (.var 4) (.cons (.var 5) (.cons (.attr (.var 3) 0 3) (.cons (.attr (.var 3) 0 4) (.cons (.attr (.var 3) 0 5) (.nil))))))))) (.nil)))))) (.cons (.assign (.name 6) (.call 2 (.cons (.var 0) (.nil)))) (.cons (.assign (.attr (.var 6) 1 0) (.var 2)) (.cons (.assign (.attr (.var 6) 1 1) (.call 8 (.cons (.attr (.var 0) 1 0) (.cons (.attr (.var 0) 1 1) (.cons (.var 1) (.nil)))))) (.cons (.assign (.attr (.var 6) 1 2) (.call 8 (.cons (.attr (.var 0) 1 0) (.cons (.attr (.var 0) 1 2) (.cons (.var 1) (.nil)))))) (.cons (.ret (.var 6)) (.nil)))))))))
noncomputable def jq:FD:={np:=1,ns:=7,dflt:=[],body:=gv}
noncomputable def jG:dz:=(.cons (.if_ (.cmp (.attr (.var 0) 0 0) (.one .eq (.lit (.int 0)))) (.cons (.ret (.tup (.cons (.attr (.var 0) 0 1) (.cons (.attr (.var 0) 0 2) (.nil))))) (.nil)) .nil) (.cons (.if_ (.cmp (.attr (.var 0) 0 0) (.one .eq (.lit (.int 5)))) (.cons (.ret (.tup (.cons (.attr (.var 0) 0 1) (.nil)))) (.nil)) .nil) (.cons (.ret (.tup .nil)) (.nil))))
noncomputable def ju:FD:={np:=1,ns:=1,dflt:=[],body:=jG}
noncomputable def gR:dz:=(.cons (.assign (.name 1) (.dict (.cons (.lit (.int 0)) (.cons (.lit (.bool true)) (.cons (.attr (.var 0) 1 2) (.cons (.lit (.bool true)) (.cons (.attr (.var 0) 1 1) (.cons (.lit (.bool true)) (.nil))))))))) (.cons (.assigns [.name 2,.name 3] (.tup (.cons (.dict .nil) (.cons (.list (.cons (.attr (.var 0) 1 1) (.cons (.attr (.var 0) 1 2) (.nil)))) (.nil))))) (.cons (.while_ (.var 3) (.cons (.assign (.name 4) (.pop (.var 3))) (.cons (.if_ (.cmp (.var 4) (.one .isIn (.var 2))) (.cons (.cont) (.nil)) .nil) (.cons (.assign (.sub (.var 2) (.var 4)) (.lit (.bool true))) (.cons (.assign (.name 5) (.sub (.attr (.var 0) 1 0) (.var 4))) (.cons (.if_ (.cmp (.attr (.var 5) 0 0) (.one .isIn (.lit (.tup [.int 1,.int 2,.int 3])))) (.cons (.assign (.sub (.var 1) (.attr (.var 5) 0 1)) (.lit (.bool true))) (.cons (.append (.var 3) (.attr (.var 5) 0 1)) (.nil))) .nil) (.cons (.extendRev (.var 3) (.call 10 (.cons (.var 5) (.nil)))) (.nil)))))))) (.cons (.ret (.var 1)) (.nil)))))
noncomputable def ko:FD:={np:=1,ns:=6,dflt:=[],body:=gR}
noncomputable def dN:dz:=(.cons (.assigns [.name 2,.name 3] (.tup (.cons (.dict .nil) (.cons (.dict .nil) (.nil))))) (.cons (.for_ 4 (.var 1) (.cons (.assign (.name 5) (.list (.cons (.var 4) (.nil)))) (.cons (.while_ (.var 5) (.cons (.for_ 6 (.call 10 (.cons (.sub (.var 0) (.pop (.var 5))) (.nil))) (.cons (.if_ (.or (.cons (.cmp (.var 6) (.one .isIn (.var 1))) (.cons (.cmp (.var 6) (.one .isIn (.var 3))) (.nil)))) (.cons (.cont) (.nil)) .nil) (.cons (.if_ (.cmp (.var 6) (.one .notIn (.var 2))) (.cons (.assign (.sub (.var 2) (.var 6)) (.var 4)) (.cons (.append (.var 5) (.var 6)) (.nil))) (.cons (.if_ (.cmp (.sub (.var 2) (.var 6)) (.one .ne (.var 4))) (.cons (.assign (.sub (.var 3) (.var 6)) (.lit (.bool true))) (.nil)) .nil) (.nil))) (.nil)))) (.nil))) (.nil)))) (.cons (.ret (.listOf (.var 3))) (.nil))))
noncomputable def kl:FD:={np:=2,ns:=7,dflt:=[],body:=dN}
noncomputable def jH:dz:=(.cons (.assign (.name 1) (.call 11 (.cons (.var 0) (.nil)))) (.cons (.assign (.name 2) (.call 12 (.cons (.attr (.var 0) 1 0) (.cons (.var 1) (.nil))))) (.cons (.while_ (.var 2) (.cons (.for_ 3 (.var 2) (.cons (.assign (.sub (.var 1) (.var 3)) (.lit (.bool true))) (.nil))) (.cons (.assign (.name 2) (.call 12 (.cons (.attr (.var 0) 1 0) (.cons (.var 1) (.nil))))) (.nil)))) (.cons (.ret (.var 1)) (.nil)))))
noncomputable def mN:FD:={np:=1,ns:=4,dflt:=[],body:=jH}
noncomputable def kz:dz:=(.cons (.ret (.tup (.cons (.attr (.var 0) 0 0) (.cons (.attr (.var 0) 0 1) (.cons (.attr (.var 0) 0 2) (.cons (.attr (.var 0) 0 3) (.cons (.attr (.var 0) 0 4) (.cons (.attr (.var 0) 0 5) (.nil))))))))) (.nil))
noncomputable def kn:FD:={np:=1,ns:=1,dflt:=[],body:=kz}
noncomputable def c8:dz:=(.cons (.assigns [.name 3,.name 4,.name 5,.name 6] (.tup (.cons (.list .nil) (.cons (.dict .nil) (.cons (.dict .nil) (.cons (.list (.cons (.var 2) (.nil))) (.nil))))))) (.cons (.while_ (.var 6) (.cons (.assign (.name 7) (.pop (.var 6))) (.cons (.assign (.name 8) (.sub (.var 0) (.var 7))) (.cons (.if_ (.or (.cons (.cmp (.var 7) (.one .isIn (.var 5))) (.cons (.cmp (.attr (.var 8) 0 0) (.one .eq (.lit (.int 6)))) (.nil)))) (.cons (.cont) (.nil)) .nil) (.cons (.assign (.sub (.var 5) (.var 7)) (.lit (.bool true))) (.cons (.if_ (.and (.cons (.cmp (.var 7) (.one .ne (.var 2))) (.cons (.cmp (.var 7) (.one .isIn (.var 1))) (.nil)))) (.cons (.assign (.name 9) (.new 0 (.cons (.lit (.int 5)) (.cons (.var 7) (.nil))))) (.nil)) (.cons (.if_ (.or (.cons (.cmp (.attr (.var 8) 0 0) (.one .eq (.lit (.int 0)))) (.cons (.cmp (.attr (.var 8) 0 0) (.one .eq (.lit (.int 5)))) (.nil)))) (.cons (.extendRev (.var 6) (.call 10 (.cons (.var 8) (.nil)))) (.cons (.cont) (.nil))) (.cons (.assign (.name 10) (.ite (.cmp (.attr (.var 8) 0 0) (.one .eq (.lit (.int 4)))) (.lit (.int 0)) (.attr (.var 8) 0 1))) (.cons (.assign (.name 9) (.new 0 (.cons (.attr (.var 8) 0 0) (.cons (.var 10) (.cons (.attr (.var 8) 0 2) (.cons (.attr (.var 8) 0 3) (.cons (.attr (.var 8) 0 4) (.cons (.attr (.var 8) 0 5) (.nil))))))))) (.nil)))) (.nil))) (.cons (.if_ (.cmp (.call 14 (.cons (.var 9) (.nil))) (.one .notIn (.var 4))) (.cons (.assign (.sub (.var 4) (.call 14 (.cons (.var 9) (.nil)))) (.lit (.bool true))) (.cons (.append (.var 3) (.var 9)) (.nil))) .nil) (.nil)))))))) (.cons (.if_ (.not (.var 3)) (.cons (.append (.var 3) (.new 0 (.cons (.lit (.int 6)) (.nil)))) (.nil)) .nil) (.cons (.assign (.attr (.sub (.var 3) (.neg (.lit (.int 1)))) 0 6) (.lit (.bool true))) (.cons (.ret (.var 3)) (.nil))))))
noncomputable def gk:FD:={np:=3,ns:=11,dflt:=[],body:=c8}
noncomputable def gI:dz:=(.cons (.if_ (.attr (.var 0) 1 6) (.cons (.ret (.var 0)) (.nil)) .nil) (.cons (.assign (.name 1) (.call 13 (.cons (.var 0) (.nil)))) (.cons (.assigns [.name 2,.name 3] (.tup (.cons (.dict .nil) (.cons (.list .nil) (.nil))))) (.cons (.for_ 4 (.var 1) (.cons (.assign (.sub (.var 2) (.var 4)) (.len (.var 3))) (.cons (.extend (.var 3) (.call 15 (.cons (.attr (.var 0) 1 0) (.cons (.var 1) (.cons (.var 4) (.nil)))))) (.nil)))) (.cons (.for_ 5 (.var 3) (.cons (.if_ (.or (.cons (.cmp (.attr (.var 5) 0 0) (.one .isIn (.lit (.tup [.int 1,.int 2,.int 3])))) (.cons (.cmp (.attr (.var 5) 0 0) (.one .eq (.lit (.int 5)))) (.nil)))) (.cons (.assign (.attr (.var 5) 0 1) (.sub (.var 2) (.attr (.var 5) 0 1))) (.nil)) .nil) (.nil))) (.cons (.assign (.name 6) (.call 2 (.cons (.var 0) (.nil)))) (.cons (.assign (.attr (.var 6) 1 0) (.var 3)) (.cons (.assign (.attr (.var 6) 1 1) (.sub (.var 2) (.attr (.var 0) 1 1))) (.cons (.assign (.attr (.var 6) 1 2) (.sub (.var 2) (.attr (.var 0) 1 2))) (.cons (.assign (.attr (.var 6) 1 6) (.lit (.bool true))) (.cons (.assign (.attr (.var 6) 1 7) (.comp (.sub (.var 2) (.var 7)) 7 (.var 1))) (.cons (.ret (.var 6)) (.nil)))))))))))))
noncomputable def mM:FD:={np:=1,ns:=8,dflt:=[],body:=gI}
noncomputable def eu:dz:=(.cons (.assign (.name 2) (.list .nil)) (.cons (.for_ 3 (.var 1) (.cons (.append (.var 2) (.bin .mod (.var 0) (.var 3))) (.cons (.assign (.name 0) (.bin .fdiv (.var 0) (.var 3))) (.nil)))) (.cons (.ret (.var 2)) (.nil))))
noncomputable def iG:FD:={np:=2,ns:=4,dflt:=[],body:=eu}
noncomputable def bO:dz:=(.cons (.assign (.name 3) (.list (.cons (.lit (.int 1)) (.cons (.lit (.int 0)) (.cons (.lit (.int 2)) (.cons (.lit (.int 0)) (.cons (.lit (.int 5)) (.cons (.lit (.int 1)) (.cons (.lit (.int 3)) (.nil)))))))))) (.cons (.assign (.name 3) (.bin .add (.var 3) (.list (.cons (.lit (.int 0)) (.cons (.lit (.int 2)) (.cons (.lit (.int 5)) (.cons (.lit (.int 1)) (.cons (.lit (.int 0)) (.cons (.lit (.int 4)) (.cons (.lit (.int 6)) (.nil))))))))))) (.cons (.assign (.name 4) (.list (.cons (.tup (.cons (.lit (.int 97)) (.cons (.lit (.int 98)) (.cons (.lit (.bool false)) (.nil))))) (.cons (.tup (.cons (.lit (.int 97)) (.cons (.lit (.int 97)) (.cons (.lit (.bool false)) (.nil))))) (.cons (.tup (.cons (.lit (.int 98)) (.cons (.lit (.int 98)) (.cons (.lit (.bool false)) (.nil))))) (.cons (.tup (.cons (.lit (.int 97)) (.cons (.lit (.int 97)) (.cons (.lit (.bool true)) (.nil))))) (.cons (.tup (.cons (.lit (.int 0)) (.cons (.lit (.int 255)) (.cons (.lit (.bool false)) (.nil))))) (.cons (.tup (.cons (.lit (.int 98)) (.cons (.lit (.int 122)) (.cons (.lit (.bool true)) (.nil))))) (.nil))))))))) (.cons (.assign (.name 4) (.bin .add (.var 4) (.list (.cons (.tup (.cons (.lit (.int 10)) (.cons (.lit (.int 65)) (.cons (.lit (.bool false)) (.nil))))) (.nil))))) (.cons (.assign (.name 5) (.list (.cons (.lit (.int 1)) (.cons (.lit (.int 2)) (.cons (.lit (.int 4)) (.cons (.lit (.int 8)) (.cons (.lit (.int 16)) (.cons (.lit (.int 32)) (.cons (.lit (.int 5)) (.cons (.lit (.int 10)) (.cons (.lit (.int 40)) (.cons (.lit (.int 63)) (.nil))))))))))))) (.cons (.assigns [.name 6,.name 7,.name 8,.name 9,.name 10,.name 11,.name 12] (.call 17 (.cons (.var 2) (.cons (.list (.cons (.lit (.int 14)) (.cons (.lit (.int 12)) (.cons (.lit (.int 12)) (.cons (.lit (.int 7)) (.cons (.lit (.int 4)) (.cons (.lit (.int 10)) (.cons (.lit (.int 3)) (.nil))))))))) (.nil))))) (.cons (.assigns [.name 13,.name 7] (.tup (.cons (.sub (.var 3) (.var 6)) (.cons (.bin .mod (.bin .add (.bin .add (.var 0) (.lit (.int 1))) (.var 7)) (.var 1)) (.nil))))) (.cons (.if_ (.cmp (.var 13) (.one .eq (.lit (.int 0)))) (.cons (.ret (.new 0 (.cons (.var 13) (.cons (.var 7) (.cons (.bin .mod (.bin .add (.bin .add (.var 0) (.lit (.int 2))) (.var 8)) (.var 1)) (.nil)))))) (.nil)) .nil) (.cons (.if_ (.cmp (.var 13) (.one .eq (.lit (.int 1)))) (.cons (.ret (.new 0 (.cons (.var 13) (.cons (.var 7) (.cons (.lit (.int 0)) (.cons (.sub (.sub (.var 4) (.var 9)) (.lit (.int 0))) (.cons (.sub (.sub (.var 4) (.var 9)) (.lit (.int 1))) (.cons (.sub (.sub (.var 4) (.var 9)) (.lit (.int 2))) (.nil))))))))) (.nil)) .nil) (.cons (.if_ (.cmp (.var 13) (.one .eq (.lit (.int 2)))) (.cons (.ret (.new 0 (.cons (.var 13) (.cons (.var 7) (.cons (.bin .add (.lit (.int 2)) (.var 10)) (.nil)))))) (.nil)) .nil) (.cons (.if_ (.cmp (.var 13) (.one .eq (.lit (.int 3)))) (.cons (.ret (.new 0 (.cons (.var 13) (.cons (.var 7) (.cons (.sub (.var 5) (.var 11)) (.nil)))))) (.nil)) .nil) (.cons (.if_ (.cmp (.var 13) (.one .eq (.lit (.int 5)))) (.cons (.ret (.new 0 (.cons (.var 13) (.cons (.var 7) (.nil))))) (.nil)) .nil) (.cons (.ret (.new 0 (.cons (.var 13) (.cons (.lit (.int 0)) (.cons (.ite (.cmp (.var 13) (.one .eq (.lit (.int 4)))) (.var 12) (.lit (.int 0))) (.nil)))))) (.nil))))))))))))))
noncomputable def kN:FD:={np:=3,ns:=14,dflt:=[],body:=bO}
noncomputable def mP:dz:=(.cons (.ret (.tup (.cons (.attr (.var 0) 1 3) (.cons (.attr (.var 0) 1 4) (.cons (.attr (.var 0) 1 5) (.cons (.attr (.var 0) 1 8) (.cons (.attr (.var 0) 1 9) (.nil)))))))) (.nil))
noncomputable def mL:FD:={np:=1,ns:=1,dflt:=[],body:=mP}
noncomputable def qs:dz:=(.cons (.ret (.tup (.cons (.attr (.var 0) 0 0) (.cons (.attr (.var 0) 0 1) (.cons (.attr (.var 0) 0 2) (.cons (.attr (.var 0) 0 3) (.cons (.attr (.var 0) 0 4) (.cons (.attr (.var 0) 0 5) (.nil))))))))) (.nil))
noncomputable def qk:FD:={np:=1,ns:=1,dflt:=[],body:=qs}
noncomputable def pg:dz:=(.cons (.assign (.name 2) (.comp (.bin .add (.call 20 (.cons (.var 1) (.nil))) (.tup (.cons (.attr (.var 1) 0 6) (.nil)))) 1 (.attr (.var 0) 1 0))) (.cons (.ret (.tup (.cons (.var 2) (.cons (.attr (.var 0) 1 1) (.cons (.attr (.var 0) 1 2) (.cons (.attr (.var 0) 1 6) (.cons (.listOf (.attr (.var 0) 1 7)) (.cons (.call 19 (.cons (.var 0) (.nil))) (.nil))))))))) (.nil)))
noncomputable def oP:FD:={np:=1,ns:=3,dflt:=[],body:=pg}
noncomputable def fx:dz:=(.cons (.if_ (.not (.attr (.var 0) 1 6)) (.cons (.ret (.list (.cons (.sub (.attr (.var 0) 1 0) (.var 1)) (.nil)))) (.nil)) .nil) (.cons (.assign (.name 2) (.list (.cons (.sub (.attr (.var 0) 1 0) (.var 1)) (.nil)))) (.cons (.while_ (.not (.attr (.sub (.var 2) (.neg (.lit (.int 1)))) 0 6)) (.cons (.append (.var 2) (.sub (.attr (.var 0) 1 0) (.bin .add (.var 1) (.len (.var 2))))) (.nil))) (.cons (.ret (.var 2)) (.nil)))))
noncomputable def kM:FD:={np:=2,ns:=3,dflt:=[],body:=fx}
noncomputable def pd:dz:=(.cons (.if_ (.cmp (.attr (.var 0) 0 0) (.one .eq (.lit (.int 0)))) (.cons (.ret (.list (.cons (.tup (.cons (.attr (.var 0) 0 1) (.cons (.var 1) (.cons (.var 2) (.nil))))) (.cons (.tup (.cons (.attr (.var 0) 0 2) (.cons (.var 1) (.cons (.var 2) (.nil))))) (.nil))))) (.nil)) .nil) (.cons (.if_ (.or (.cons (.cmp (.attr (.var 0) 0 0) (.one .eq (.lit (.int 5)))) (.cons (.and (.cons (.cmp (.attr (.var 0) 0 0) (.one .eq (.lit (.int 3)))) (.cons (.cmp (.bin .band (.sub (.var 4) (.var 1)) (.attr (.var 0) 0 2)) (.one .eq (.attr (.var 0) 0 2))) (.nil)))) (.nil)))) (.cons (.ret (.list (.cons (.tup (.cons (.attr (.var 0) 0 1) (.cons (.var 1) (.cons (.var 2) (.nil))))) (.nil)))) (.nil)) .nil) (.cons (.if_ (.cmp (.attr (.var 0) 0 0) (.one .eq (.lit (.int 2)))) (.cons (.ret (.list (.cons (.tup (.cons (.attr (.var 0) 0 1) (.cons (.var 1) (.cons (.bin .add (.bin .add (.sliceTo (.var 2) (.bin .sub (.attr (.var 0) 0 2) (.lit (.int 2)))) (.tup (.cons (.var 1) (.nil)))) (.sliceFrom (.var 2) (.bin .sub (.attr (.var 0) 0 2) (.lit (.int 1))))) (.nil))))) (.nil)))) (.nil)) .nil) (.cons (.if_ (.cmp (.attr (.var 0) 0 0) (.one .eq (.lit (.int 4)))) (.cons (.ret (.list (.cons (.tup (.cons (.bin .sub (.neg (.lit (.int 1))) (.attr (.var 0) 0 2)) (.cons (.var 1) (.cons (.var 2) (.nil))))) (.nil)))) (.nil)) .nil) (.cons (.if_ (.and (.cons (.cmp (.attr (.var 0) 0 0) (.one .eq (.lit (.int 1)))) (.cons (.cmp (.var 1) (.one .lt (.len (.var 3)))) (.nil)))) (.cons (.assign (.name 5) (.ite (.and (.cons (.attr (.var 0) 0 5) (.cons (.cmp (.lit (.int 65)) (.more .le (.sub (.var 3) (.var 1)) (.one .le (.lit (.int 90))))) (.nil)))) (.bin .add (.sub (.var 3) (.var 1)) (.lit (.int 32))) (.sub (.var 3) (.var 1)))) (.cons (.if_ (.cmp (.attr (.var 0) 0 3) (.more .le (.var 5) (.one .le (.attr (.var 0) 0 4)))) (.cons (.ret (.list (.cons (.tup (.cons (.attr (.var 0) 0 1) (.cons (.bin .add (.var 1) (.lit (.int 1))) (.cons (.var 2) (.nil))))) (.nil)))) (.nil)) .nil) (.nil))) .nil) (.cons (.ret (.list .nil)) (.nil)))))))
noncomputable def oO:FD:={np:=5,ns:=6,dflt:=[],body:=pd}
noncomputable def eW:dz:=(.cons (.assigns [.name 4,.name 5,.name 6,.name 7] (.tup (.cons (.list .nil) (.cons (.dict .nil) (.cons (.dict .nil) (.cons (.list (.cons (.tup (.cons (.var 1) (.cons (.lit (.int 0)) (.cons (.tup (.cons (.neg (.lit (.int 1))) (.cons (.neg (.lit (.int 1))) (.cons (.neg (.lit (.int 1))) (.cons (.neg (.lit (.int 1))) (.nil)))))) (.nil))))) (.nil))) (.nil))))))) (.cons (.while_ (.cmp (.var 7) (.one .ne (.list .nil))) (.cons (.assigns [.name 8,.name 9,.name 10] (.pop (.var 7))) (.cons (.if_ (.cmp (.tup (.cons (.var 8) (.cons (.var 9) (.nil)))) (.one .isIn (.var 6))) (.cons (.cont) (.nil)) .nil) (.cons (.assign (.sub (.var 6) (.tup (.cons (.var 8) (.cons (.var 9) (.nil))))) (.lit (.bool true))) (.cons (.if_ (.cmp (.var 8) (.one .lt (.lit (.int 0)))) (.cons (.append (.var 4) (.tup (.cons (.bin .sub (.neg (.lit (.int 1))) (.var 8)) (.cons (.var 9) (.cons (.var 10) (.nil)))))) (.cons (.cont) (.nil))) .nil) (.cons (.assign (.name 11) (.list .nil)) (.cons (.for_ 12 (.call 22 (.cons (.var 0) (.cons (.var 8) (.nil)))) (.cons (.extend (.var 11) (.call 23 (.cons (.var 12) (.cons (.var 9) (.cons (.var 10) (.cons (.var 2) (.cons (.var 3) (.nil)))))))) (.nil))) (.cons (.extend (.var 7) (.sliceRev (.var 11))) (.nil))))))))) (.cons (.ret (.var 4)) (.nil))))
noncomputable def jt:FD:={np:=4,ns:=13,dflt:=[],body:=eW}
noncomputable def gQ:dz:=(.cons (.assigns [.name 1,.name 2] (.tup (.cons (.dict .nil) (.cons (.list (.cons (.attr (.var 0) 1 1) (.cons (.attr (.var 0) 1 2) (.nil)))) (.nil))))) (.cons (.while_ (.cmp (.var 2) (.one .ne (.list .nil))) (.cons (.assign (.name 3) (.pop (.var 2))) (.cons (.if_ (.cmp (.var 3) (.one .notIn (.var 1))) (.cons (.assign (.sub (.var 1) (.var 3)) (.lit (.bool true))) (.cons (.assign (.name 4) (.sub (.attr (.var 0) 1 0) (.var 3))) (.cons (.if_ (.and (.cons (.cmp (.attr (.var 4) 0 0) (.one .ne (.lit (.int 4)))) (.cons (.cmp (.attr (.var 4) 0 0) (.one .ne (.lit (.int 6)))) (.nil)))) (.cons (.append (.var 2) (.attr (.var 4) 0 1)) (.nil)) .nil) (.cons (.if_ (.cmp (.attr (.var 4) 0 0) (.one .eq (.lit (.int 0)))) (.cons (.append (.var 2) (.attr (.var 4) 0 2)) (.nil)) .nil) (.nil))))) .nil) (.nil)))) (.cons (.ret (.comp (.sub (.attr (.var 0) 1 0) (.var 5)) 5 (.var 1))) (.nil))))
noncomputable def km:FD:={np:=1,ns:=6,dflt:=[],body:=gQ}
noncomputable def eR:dz:=(.cons (.assign (.name 1) (.list (.cons (.attr (.var 0) 1 1) (.cons (.attr (.var 0) 1 2) (.nil))))) (.cons (.for_ 2 (.attr (.var 0) 1 0) (.cons (.if_ (.and (.cons (.cmp (.attr (.var 2) 0 0) (.one .ne (.lit (.int 4)))) (.cons (.cmp (.attr (.var 2) 0 0) (.one .ne (.lit (.int 6)))) (.nil)))) (.cons (.append (.var 1) (.attr (.var 2) 0 1)) (.nil)) .nil) (.cons (.if_ (.cmp (.attr (.var 2) 0 0) (.one .eq (.lit (.int 0)))) (.cons (.append (.var 1) (.attr (.var 2) 0 2)) (.nil)) .nil) (.nil)))) (.cons (.ret (.cmp (.compIf (.var 3) 3 (.var 1) (.cmp (.attr (.sub (.attr (.var 0) 1 0) (.var 3)) 0 0) (.one .eq (.lit (.int 5))))) (.one .ne (.list .nil)))) (.nil))))
noncomputable def gj:FD:={np:=1,ns:=4,dflt:=[],body:=eR}
noncomputable def bm:dz:=(.cons (.if_ (.or (.cons (.not (.attr (.var 0) 1 6)) (.cons (.cmp (.call 7 (.cons (.var 0) (.nil))) (.one .ne (.list .nil))) (.cons (.cmp (.call 19 (.cons (.var 0) (.nil))) (.one .ne (.call 19 (.cons (.var 1) (.nil))))) (.nil))))) (.cons (.ret (.lit (.bool false))) (.nil)) .nil) (.cons (.assign (.name 2) (.list (.cons (.lit (.int 0)) (.nil)))) (.cons (.for_ 3 (.tup (.cons (.attr (.var 1) 1 2) (.cons (.attr (.var 1) 1 1) (.nil)))) (.cons (.if_ (.cmp (.var 3) (.one .notIn (.var 2))) (.cons (.append (.var 2) (.var 3)) (.nil)) .nil) (.nil))) (.cons (.if_ (.or (.cons (.cmp (.attr (.var 0) 1 2) (.one .ne (.sub (.attr (.var 0) 1 7) (.index (.var 2) (.attr (.var 1) 1 2))))) (.cons (.cmp (.attr (.var 0) 1 1) (.one .ne (.sub (.attr (.var 0) 1 7) (.index (.var 2) (.attr (.var 1) 1 1))))) (.nil)))) (.cons (.ret (.lit (.bool false))) (.nil)) .nil) (.cons (.for_ 4 (.attr (.var 0) 1 7) (.cons (.assign (.name 6) (.comp (.call 20 (.cons (.var 5) (.nil))) 5 (.call 22 (.cons (.var 0) (.cons (.var 4) (.nil)))))) (.cons (.if_ (.cmp (.compIf (.var 7) 7 (.range (.len (.var 6))) (.cmp (.sub (.var 6) (.var 7)) (.one .isIn (.sliceTo (.var 6) (.var 7))))) (.one .ne (.list .nil))) (.cons (.ret (.lit (.bool false))) (.nil)) .nil) (.cons (.if_ (.and (.cons (.cmp (.len (.var 6)) (.one .gt (.lit (.int 1)))) (.cons (.cmp (.lit (.int 6)) (.one .isIn (.comp (.sub (.var 8) (.lit (.int 0))) 8 (.var 6)))) (.nil)))) (.cons (.ret (.lit (.bool false))) (.nil)) .nil) (.nil))))) (.cons (.assigns [.name 9,.name 10] (.tup (.cons (.call 3 (.cons (.var 0) (.nil))) (.cons (.call 25 (.cons (.var 1) (.nil))) (.nil))))) (.cons (.for_ 11 (.tup (.cons (.lit (.int 1)) (.cons (.lit (.int 2)) (.cons (.lit (.int 3)) (.cons (.lit (.int 4)) (.nil)))))) (.cons (.if_ (.cmp (.sub (.var 9) (.var 11)) (.one .gt (.len (.compIf (.var 12) 12 (.var 10) (.cmp (.attr (.var 12) 0 0) (.one .eq (.var 11))))))) (.cons (.ret (.lit (.bool false))) (.nil)) .nil) (.nil))) (.cons (.ret (.lit (.bool true))) (.nil)))))))))
noncomputable def eQ:FD:={np:=2,ns:=13,dflt:=[],body:=bm}
noncomputable def uQ:dz:=(.cons (.assign (.name 1) (.list (.cons (.lit (.int 34848)) (.cons (.lit (.int 6)) (.cons (.lit (.int 0)) (.cons (.lit (.int 337)) (.cons (.lit (.int 2)) (.cons (.lit (.int 0)) (.cons (.lit (.int 14142)) (.nil)))))))))) (.cons (.assign (.name 2) (.list (.cons (.lit (.int 97)) (.cons (.lit (.int 98)) (.cons (.lit (.int 65)) (.cons (.lit (.int 66)) (.cons (.lit (.int 10)) (.cons (.lit (.int 255)) (.nil))))))))) (.cons (.assign (.name 4) (.comp (.bin .mod (.intOf (.var 3)) (.bin .pow (.lit (.int 10)) (.lit (.int 12)))) 3 (.sliceTo (.var 0) (.lit (.int 12))))) (.cons (.assign (.name 4) (.bin .add (.var 4) (.sliceFrom (.var 1) (.len (.var 4))))) (.cons (.assigns [.name 5,.name 6,.name 7,.name 8,.name 9,.name 10] (.call 17 (.cons (.sub (.var 4) (.lit (.int 0))) (.cons (.list (.cons (.lit (.int 11)) (.cons (.lit (.int 11)) (.cons (.lit (.int 16)) (.cons (.lit (.int 3)) (.cons (.lit (.int 2)) (.cons (.lit (.int 6)) (.nil)))))))) (.nil))))) (.cons (.assign (.name 12) (.bytesOf (.comp (.sub (.var 2) (.var 11)) 11 (.call 17 (.cons (.sub (.var 4) (.lit (.int 1))) (.cons (.bin .mul (.list (.cons (.lit (.int 6)) (.nil))) (.var 10)) (.nil))))))) (.cons (.assign (.name 13) (.call 17 (.cons (.sub (.var 4) (.lit (.int 2))) (.cons (.bin .mul (.list (.cons (.lit (.int 64)) (.nil))) (.lit (.int 6))) (.nil))))) (.cons (.assigns [.name 14,.name 15] (.tup (.cons (.new 1 .nil) (.cons (.bin .sub (.len (.var 4)) (.lit (.int 1))) (.nil))))) (.cons (.for_ 16 (.sliceFrom (.var 4) (.lit (.int 3))) (.cons (.append (.attr (.var 14) 1 0) (.call 18 (.cons (.len (.attr (.var 14) 1 0)) (.cons (.var 15) (.cons (.var 16) (.nil)))))) (.nil))) (.cons (.append (.attr (.var 14) 1 0) (.new 0 (.cons (.lit (.int 4)) (.nil)))) (.cons (.assigns [.attr (.var 14) 1 1,.attr (.var 14) 1 2] (.tup (.cons (.bin .mod (.bin .add (.lit (.int 1)) (.var 5)) (.var 15)) (.cons (.bin .mod (.bin .add (.lit (.int 1)) (.var 6)) (.var 15)) (.nil))))) (.cons (.assigns [.attr (.var 14) 1 3,.attr (.var 14) 1 4] (.tup (.cons (.cmp (.bin .mod (.var 7) (.lit (.int 2))) (.one .eq (.lit (.int 1)))) (.cons (.cmp (.bin .mod (.bin .fdiv (.var 7) (.lit (.int 2))) (.lit (.int 2))) (.one .eq (.lit (.int 1)))) (.nil))))) (.cons (.assigns [.attr (.var 14) 1 5,.attr (.var 14) 1 9] (.tup (.cons (.cmp (.bin .mod (.bin .fdiv (.var 7) (.lit (.int 4))) (.lit (.int 2))) (.one .eq (.lit (.int 1)))) (.cons (.cmp (.bin .fdiv (.var 7) (.lit (.int 8))) (.one .eq (.lit (.int 1)))) (.nil))))) (.cons (.assign (.attr (.var 14) 1 8) (.sliceTo (.lit (.bytes [97,98])) (.var 8))) (.cons (.assign (.name 17) (.call 21 (.cons (.var 14) (.nil)))) (.cons (.assign (.name 18) (.call 9 (.cons (.var 14) (.nil)))) (.cons (.if_ (.or (.cons (.cmp (.call 21 (.cons (.var 14) (.nil))) (.one .ne (.var 17))) (.cons (.cmp (.call 19 (.cons (.var 18) (.nil))) (.one .ne (.call 19 (.cons (.var 14) (.nil))))) (.cons (.attr (.var 18) 1 6) (.nil))))) (.cons (.ret (.lit (.bool false))) (.nil)) .nil) (.cons (.if_ (.or (.cons (.cmp (.len (.attr (.var 18) 1 0)) (.one .ne (.var 15))) (.cons (.call 26 (.cons (.var 18) (.nil))) (.nil)))) (.cons (.ret (.lit (.bool false))) (.nil)) .nil) (.cons (.assign (.name 19) (.ite (.cmp (.var 9) (.one .eq (.lit (.int 1)))) (.var 18) (.var 14))) (.cons (.assign (.name 17) (.call 21 (.cons (.var 19) (.nil)))) (.cons (.assign (.name 20) (.call 16 (.cons (.var 19) (.nil)))) (.cons (.if_ (.or (.cons (.cmp (.call 21 (.cons (.var 19) (.nil))) (.one .ne (.var 17))) (.cons (.not (.call 27 (.cons (.var 20) (.cons (.var 19) (.nil))))) (.nil)))) (.cons (.ret (.lit (.bool false))) (.nil)) .nil) (.cons (.assign (.name 21) (.list (.cons (.call 24 (.cons (.var 14) (.cons (.attr (.var 14) 1 1) (.cons (.var 12) (.cons (.var 13) (.nil)))))) (.cons (.call 24 (.cons (.var 14) (.cons (.attr (.var 14) 1 2) (.cons (.var 12) (.cons (.var 13) (.nil)))))) (.nil))))) (.cons (.for_ 22 (.tup (.cons (.var 18) (.cons (.var 20) (.nil)))) (.cons (.if_ (.cmp (.list (.cons (.call 24 (.cons (.var 22) (.cons (.attr (.var 22) 1 1) (.cons (.var 12) (.cons (.var 13) (.nil)))))) (.cons (.call 24 (.cons (.var 22) (.cons (.attr (.var 22) 1 2) (.cons (.var 12) (.cons (.var 13) (.nil)))))) (.nil)))) (.one .ne (.var 21))) (.cons (.ret (.lit (.bool false))) (.nil)) .nil) (.nil))) (.cons (.assigns [.name 17,.name 23] (.tup (.cons (.call 21 (.cons (.var 20) (.nil))) (.cons (.lit (.bool false)) (.nil))))) (.cons (.tryRefused 20 23) (.cons (.ret (.and (.cons (.var 23) (.cons (.cmp (.call 16 (.cons (.var 20) (.nil))) (.one .is_ (.var 20))) (.cons (.cmp (.call 21 (.cons (.var 20) (.nil))) (.one .eq (.var 17))) (.nil)))))) (.nil))))))))))))))))))))))))))))
noncomputable def aw:List FD:=[eI,gm,jr,ic,i5,lD,fF,ib,kL,jq,ju,ko,kl,mN,kn,gk,mM,iG,kN,mL,qk,oP,kM,oO,jt,km,gj,eQ]
end
end
section
open PySem PySem.W PyProof.Rows
variable {X:Cx}{P:Params}
noncomputable def g_ (P:Params):Nm:={names:=(cA (KK P) 62).scope.names,slots:=[some (Str.ofString "self"),some (Str.ofString "op"),some (Str.ofString "out"),some (Str.ofString "arg"),some (Str.ofString "low"),some (Str.ofString "high"),some (Str.ofString "is_folded")]}
theorem lV:∀A call,ij X gh (g_ P) A call (bl (cA (KK P) 62)) fN:=fun A call=>
 (ai (aG (aa 1) (bQ (aa 0)))
 (ai (aG (aa 2) (bQ (aa 0)))
 (ai (aG (aa 3) (bQ (aa 0)))
 (ai (aG (aa 4) (bQ (aa 0)))
 (ai (aG (aa 5) (bQ (aa 0)))
 (ai (aG (aa 6) (bQ (aa 0)))
 (ai (aG (bU _) (bQ (aa 0)))
 ay)))))))
noncomputable def fV (P:Params):Nm:={names:=(cA (KK P) 83).scope.names,slots:=[some (Str.ofString "self")]}
theorem j0:∀A call,ij X gh (fV P) A call (bl (cA (KK P) 83)) gw:=fun A call=>
 (ai (aG (bw (af (gH (by decide) rfl rfl rfl (af aV aA)) aA)) (bQ (aa 0)))
 (ai (aG (aX _) (bQ (aa 0)))
 (ai (aG (aX _) (bQ (aa 0)))
 (ai (aG (bU _) (bQ (aa 0)))
 (ai (aG (bU _) (bQ (aa 0)))
 (ai (aG (bU _) (bQ (aa 0)))
 (ai (aG (bU _) (bQ (aa 0)))
 (ai (aG (bw aA) (bQ (aa 0)))
 (ai (aG (uK) (bQ (aa 0)))
 (ai (aG (bU _) (bQ (aa 0)))
 (ai (aG (oU) (bQ (aa 0)))
 ay)))))))))))
noncomputable def iW (P:Params):Nm:={names:=(cA (KK P) 97).scope.names,slots:=[some (Str.ofString "prog"),some (Str.ofString "found")]}
theorem mU:∀A call,ij X gh (iW P) A call (bl (cA (KK P) 97)) jF:=fun A call=>
 (ai (aG (gH (by decide) rfl rfl rfl aA) (bc 1 rfl (.inl rfl) rfl))
 (ai (aG (ar (aa 0)) (bQ (aa 1)))
 (ai (aG (ar (aa 0)) (bQ (aa 1)))
 (ai (aG (ar (aa 0)) (bQ (aa 1)))
 (ai (aG (ar (aa 0)) (bQ (aa 1)))
 (ai (aG (ar (aa 0)) (bQ (aa 1)))
 (ai (bI (aa 1))
 ay)))))))
noncomputable def gF (P:Params):Nm:={names:=(cA (KK P) 104).scope.names,slots:=[some (Str.ofString "prog"),some (Str.ofString "found"),some (Str.ofString "op"),some (Str.ofString "inst")]}
theorem kZ:∀A call,ij X gh (gF P) A call (bl (cA (KK P) 104)) et:=fun A call=>
 (ai (aG (eJ) (bc 1 rfl (.inl rfl) rfl))
 (ai (dZ (fun y y=>rfl) rfl (.inl rfl) rfl (bY (by decide) (af aV (af aV (af aV (af aV (af aV (af aV (af aV aA)))))))) (ai (aG (aX _) (gy (aa 1) (aa 2)))
 ay))
 (ai (dZ (fun y y=>rfl) rfl (.inl rfl) rfl (ar (aa 0)) (ai (CU (fun y y y=>rfl) (aa 1) (ar (aa 3)) (aX _))
 ay))
 (ai (bI (aa 1))
 ay))))
noncomputable def g8 (P:Params):Nm:={names:=(cA (KK P) 111).scope.names,slots:=[some (Str.ofString "prog"),some (Str.ofString "found"),some (Str.ofString "number")]}
theorem lU:∀A call,ij X gh (g8 P) A call (bl (cA (KK P) 111)) fM:=fun A call=>
 (ai (aG (bw (af (aX _) aA)) (bc 1 rfl (.inl rfl) rfl))
 (ai (dZ (fun y y=>rfl) rfl (.inl rfl) rfl (rq rfl rfl rfl rfl (b8 rfl (fk rfl rfl rfl rfl (ar (aa 0))) (aX _))) (ai (cG (d9 (ar (bM (fun y y=>rfl) (ar (aa 0)) (aa 2))) (fun y y=>rfl)) (ai (cj rfl rfl (aa 1) (b8 rfl (aa 2) (aX _)))
 ay) ay)
 ay))
 (ai (bI (aa 1))
 ay)))
noncomputable def kh (P:Params):Nm:={names:=(cA (KK P) 118).scope.names,slots:=[some (Str.ofString "inst")]}
theorem pI:∀A call,ij X gh (kh P) A call (bl (cA (KK P) 118)) lN:=fun A call=>
 (ai (cG (fW (cC (bG rfl (ar (aa 0)) (aE rfl aV)) (be rfl (ar (aa 0)) (aE rfl aV)) (cU (qo (bG rfl (aX _) (fB rfl (ar (aa 0)) (fB rfl (ar (aa 0)) (aE rfl (aX _)))))) (ku (be rfl (aX _) (fB rfl (ar (aa 0)) (fB rfl (ar (aa 0)) (aE rfl (aX _))))))))) (ai (bI (jA))
 ay) ay)
 (ai (cG (fW (cC (bG rfl (ar (aa 0)) (aE rfl aV)) (be rfl (ar (aa 0)) (aE rfl aV)) (cU (bG rfl (ar (aa 0)) (aE rfl (aX _))) (be rfl (ar (aa 0)) (aE rfl (aX _)))))) (ai (bI (jA))
 ay) ay)
 (ai (cG (fW (cC (bG rfl (ar (aa 0)) (aE rfl aV)) (be rfl (ar (aa 0)) (aE rfl aV)) (cU (Dj (c_ (bG rfl (ar (aa 0)) (aE rfl (aX _))) (be rfl (ar (aa 0)) (aE rfl (aX _))) (ez (bG rfl (b8 rfl (ar (aa 0)) aV) (aE rfl (ar (aa 0)))) (be rfl (b8 rfl (ar (aa 0)) aV) (aE rfl (ar (aa 0))))))) (lJ (c_ (bG rfl (ar (aa 0)) (aE rfl (aX _))) (be rfl (ar (aa 0)) (aE rfl (aX _))) (ez (bG rfl (b8 rfl (ar (aa 0)) aV) (aE rfl (ar (aa 0)))) (be rfl (b8 rfl (ar (aa 0)) aV) (aE rfl (ar (aa 0)))))))))) (ai (bI (jA))
 ay) ay)
 (ai (cG (fW (cC (bG rfl (ar (aa 0)) (aE rfl aV)) (be rfl (ar (aa 0)) (aE rfl aV)) (cU (bG rfl (ar (aa 0)) (aE rfl (aX _))) (be rfl (ar (aa 0)) (aE rfl (aX _)))))) (ai (bI (jA))
 ay) ay)
 (ai (bI (oU))
 ay)))))
noncomputable def fi (P:Params):Nm:={names:=(cA (KK P) 125).scope.names,slots:=[some (Str.ofString "prog"),some (Str.ofString "number"),some (Str.ofString "heads"),some (Str.ofString "inst"),some (Str.ofString "way")]}
theorem i_:∀A call,ij X gh (fi P) A call (bl (cA (KK P) 125)) fG:=fun A call=>
 (ai (aG (bM (fun y y=>rfl) (ar (aa 0)) (aa 1)) (bc 3 rfl (.inl rfl) rfl))
 (ai (cG (be rfl (ar (aa 3)) (aE rfl (bY (by decide) (af aV (af aV aA))))) (ai (bI (oU))
 ay) ay)
 (ai (dZ (fun y y=>rfl) rfl (.inl rfl) rfl (sO (be rfl (ar (aa 3)) (aE rfl aV)) (bw (af (ar (aa 3)) (af (ar (aa 3)) aA))) (bw (af (ar (aa 3)) aA))) (ai (cG (ku (be rfl (aX _) (fB rfl (aa 4) (aE rfl (fk rfl rfl rfl rfl (ar (aa 0))))))) (ai (bI (jA))
 ay) ay)
 (ai (cG (fW (cC (ar (aa 0)) (d9 (ar (aa 0)) (fun y y=>rfl)) (cU (bG rfl (aa 4) (aE rfl (aa 2))) (be rfl (aa 4) (aE rfl (aa 2)))))) (ai (bI (jA))
 ay) ay)
 ay)))
 (ai (bI (oU))
 ay))))
noncomputable def gE (P:Params):Nm:={names:=(cA (KK P) 132).scope.names,slots:=[some (Str.ofString "prog"),some (Str.ofString "found"),some (Str.ofString "told"),some (Str.ofString "heads"),some (Str.ofString "number"),some (Str.ofString "inst"),some (Str.ofString "fault")]}
theorem kY:∀A call,ij X gh (gE P) A call (bl (cA (KK P) 132)) dC:=fun A call=>
 (ai (aG (bw aA) (bc 1 rfl (.inl rfl) rfl))
 (ai (cG (lJ (c_ (bG rfl (ar (aa 0)) (aE rfl (bw aA))) (be rfl (ar (aa 0)) (aE rfl (bw aA))) (ez (bG rfl (ar (bM (fun y y=>rfl) (ar (aa 0)) (aX _))) (aE rfl aV)) (be rfl (ar (bM (fun y y=>rfl) (ar (aa 0)) (aX _))) (aE rfl aV))))) (ai (bI (bw (af (jA) aA)))
 ay) ay)
 (ai (aG (bj rfl rfl rfl (af (aa 0) aA)) (bc 2 rfl (.inl rfl) rfl))
 (ai (aG (eJ) (bc 3 rfl (.inl rfl) rfl))
 (ai (dZ (fun y y=>rfl) rfl (.inl rfl) rfl (aa 2) (ai (aG (bU _) (gy (aa 3) (aa 4)))
 ay))
 (ai (dZ (fun y y=>rfl) rfl (.inl rfl) rfl (rq rfl rfl rfl rfl (fk rfl rfl rfl rfl (ar (aa 0)))) (ai (aG (bM (fun y y=>rfl) (ar (aa 0)) (aa 4)) (bc 5 rfl (.inl rfl) rfl))
 (ai (dZ (fun y y=>rfl) rfl (.inl rfl) rfl (bY (by decide) (af (bj rfl rfl rfl (af (aa 5) aA)) (af (bj rfl rfl rfl (af (aa 0) (af (aa 4) (af (aa 3) aA)))) aA))) (ai (cG (be rfl (aa 6) (aE rfl (oU))) (ai (cj rfl rfl (aa 1) (jA))
 ay) ay)
 ay))
 (ai (cG (fW (cC (ar (aa 0)) (d9 (ar (aa 0)) (fun y y=>rfl)) (cU (bG rfl (ar (aa 5)) (aE rfl aV)) (be rfl (ar (aa 5)) (aE rfl aV))))) (ai (cj rfl rfl (aa 1) (jA))
 ay) ay)
 ay))))
 (ai (dZ (fun y y=>rfl) rfl (.inl rfl) rfl (bY (by decide) (af (ar (aa 0)) (af (ar (aa 0)) aA))) (ai (cG (lJ (c_ (qo (bG rfl (aX _) (fB rfl (aa 4) (aE rfl (fk rfl rfl rfl rfl (ar (aa 0))))))) (ku (be rfl (aX _) (fB rfl (aa 4) (aE rfl (fk rfl rfl rfl rfl (ar (aa 0))))))) (ez (xX (cC (ar (aa 0)) (d9 (ar (aa 0)) (fun y y=>rfl)) (cU (bG rfl (aa 4) (aE rfl (aa 3))) (be rfl (aa 4) (aE rfl (aa 3)))))) (fW (cC (ar (aa 0)) (d9 (ar (aa 0)) (fun y y=>rfl)) (cU (bG rfl (aa 4) (aE rfl (aa 3))) (be rfl (aa 4) (aE rfl (aa 3))))))))) (ai (cj rfl rfl (aa 1) (jA))
 ay) ay)
 ay))
 (ai (cG (fW (cC (ar (aa 0)) (d9 (ar (aa 0)) (fun y y=>rfl)) (cU (Dj (c_ (bG rfl (ar (aa 0)) (aE rfl (aa 2))) (be rfl (ar (aa 0)) (aE rfl (aa 2))) (ez (qo (ar (bM (fun y y=>rfl) (ar (aa 0)) (ft)))) (ku (d9 (ar (bM (fun y y=>rfl) (ar (aa 0)) (ft))) (fun y y=>rfl)))))) (lJ (c_ (bG rfl (ar (aa 0)) (aE rfl (aa 2))) (be rfl (ar (aa 0)) (aE rfl (aa 2))) (ez (qo (ar (bM (fun y y=>rfl) (ar (aa 0)) (ft)))) (ku (d9 (ar (bM (fun y y=>rfl) (ar (aa 0)) (ft))) (fun y y=>rfl))))))))) (ai (cj rfl rfl (aa 1) (jA))
 ay) ay)
 (ai (bI (aa 1))
 ay)))))))))
noncomputable def mE (P:Params):Nm:={names:=(cA (KK P) 140).scope.names,slots:=[some (Str.ofString "insts"),some (Str.ofString "number"),some (Str.ofString "ends"),some (Str.ofString "passed"),some (Str.ofString "found"),some (Str.ofString "nop")]}
theorem r5:∀A call,ij X gh (mE P) A call (bl (cA (KK P) 140)) d_:=fun A call=>
 (ai (aG (bw aA) (bc 3 rfl (.inl rfl) rfl))
 (ai (gz (fW (cC (bG rfl (ar (bM (fun y y=>rfl) (aa 0) (aa 1))) (aE rfl aV)) (be rfl (ar (bM (fun y y=>rfl) (aa 0) (aa 1))) (aE rfl aV)) (cU (bG rfl (aa 1) (aE rfl (aa 2))) (be rfl (aa 1) (aE rfl (aa 2)))))) (ai (aG (aX _) (gy (aa 2) (aa 1)))
 (ai (cj rfl rfl (aa 3) (aa 1))
 (ai (aG (ar (bM (fun y y=>rfl) (aa 0) (aa 1))) (bc 1 rfl (.inl rfl) rfl))
 ay))))
 (ai (aG (BE rfl rfl rfl (aa 2) (aa 1) (aa 1) (pv _) (pv _)) (bc 4 rfl (.inl rfl) rfl))
 (ai (dZ (fun y y=>rfl) rfl (.inl rfl) rfl (aa 3) (ai (aG (aa 4) (gy (aa 2) (aa 5)))
 ay))
 (ai (bI (aa 4))
 ay)))))
noncomputable def iU (P:Params):Nm:={names:=(cA (KK P) 147).scope.names,slots:=[some (Str.ofString "prog"),some (Str.ofString "ends"),some (Str.ofString "insts"),some (Str.ofString "inst"),some (Str.ofString "out"),some (Str.ofString "arg"),some (Str.ofString "made")]}
theorem mT:∀A call,ij X gh (iU P) A call (bl (cA (KK P) 147)) gv:=fun A call=>
 (ai (cG (d9 (ar (aa 0)) (fun y y=>rfl)) (ai (CT)
 ay) ay)
 (ai (fZ (fun y y y=>rfl) (fun⟨⟨_,_,_,_,_⟩,_,_,_,_,_,_,_,_⟩ hk hn=>by cases hk;cases hn;rfl) rfl rfl rfl rfl rfl rfl (by decide) (bY (by decide) (af (eJ) (af (bw aA) aA))))
 (ai (dZ (fun y y=>rfl) rfl (.inl rfl) rfl (ar (aa 0)) (ai (fZ (fun y y y=>rfl) (fun⟨⟨_,_,_,_,_⟩,_,_,_,_,_,_,_,_⟩ hk hn=>by cases hk;cases hn;rfl) rfl rfl rfl rfl rfl rfl (by decide) (bY (by decide) (af (aX _) (af (ar (aa 3)) aA))))
 (ai (cG (be rfl (ar (aa 3)) (aE rfl (bY (by decide) (af aV (af aV aA))))) (ai (aG (bj rfl rfl rfl (af (ar (aa 0)) (af (ar (aa 3)) (af (aa 1) aA)))) (bc 4 rfl (.inl rfl) rfl))
 ay) ay)
 (ai (cG (be rfl (ar (aa 3)) (aE rfl aV)) (ai (aG (bj rfl rfl rfl (af (ar (aa 0)) (af (aa 5) (af (aa 1) aA)))) (bc 5 rfl (.inl rfl) rfl))
 ay) ay)
 (ai (cj rfl rfl (aa 2) (gH (by decide) rfl rfl rfl (af (ar (aa 3)) (af (aa 4) (af (aa 5) (af (ar (aa 3)) (af (ar (aa 3)) (af (ar (aa 3)) aA))))))))
 ay)))))
 (ai (aG (bj rfl rfl rfl (af (aa 0) aA)) (bc 6 rfl (.inl rfl) rfl))
 (ai (aG (aa 2) (bQ (aa 6)))
 (ai (aG (bj rfl rfl rfl (af (ar (aa 0)) (af (ar (aa 0)) (af (aa 1) aA)))) (bQ (aa 6)))
 (ai (aG (bj rfl rfl rfl (af (ar (aa 0)) (af (ar (aa 0)) (af (aa 1) aA)))) (bQ (aa 6)))
 (ai (bI (aa 6))
 ay))))))))
noncomputable def iX (P:Params):Nm:={names:=(cA (KK P) 154).scope.names,slots:=[some (Str.ofString "inst")]}
theorem mV:∀A call,ij X gh (iX P) A call (bl (cA (KK P) 154)) jG:=fun A call=>
 (ai (cG (be rfl (ar (aa 0)) (aE rfl aV)) (ai (bI (bY (by decide) (af (ar (aa 0)) (af (ar (aa 0)) aA))))
 ay) ay)
 (ai (cG (be rfl (ar (aa 0)) (aE rfl aV)) (ai (bI (bY (by decide) (af (ar (aa 0)) aA)))
 ay) ay)
 (ai (bI (bY (by decide) aA))
 ay)))
noncomputable def ji (P:Params):Nm:={names:=(cA (KK P) 168).scope.names,slots:=[some (Str.ofString "insts"),some (Str.ofString "roots"),some (Str.ofString "owners"),some (Str.ofString "shared"),some (Str.ofString "root"),some (Str.ofString "stack"),some (Str.ofString "way")]}
theorem nH:∀A call,ij X gh (ji P) A call (bl (cA (KK P) 168)) dN:=fun A call=>
 (ai (fZ (fun y y y=>rfl) (fun⟨⟨_,_,_,_,_⟩,_,_,_,_,_,_,_,_⟩ hk hn=>by cases hk;cases hn;rfl) rfl rfl rfl rfl rfl rfl (by decide) (bY (by decide) (af (eJ) (af (eJ) aA))))
 (ai (dZ (fun y y=>rfl) rfl (.inl rfl) rfl (aa 1) (ai (aG (bw (af (aa 4) aA)) (bc 5 rfl (.inl rfl) rfl))
 (ai (gz (d9 (aa 5) (fun y y=>rfl)) (ai (dZ (fun y y=>rfl) rfl (.inl rfl) rfl (bj rfl rfl rfl (af (bM (fun y y=>rfl) (aa 0) (sM rfl (aa 5))) aA)) (ai (cG (lJ (c_ (bG rfl (aa 6) (aE rfl (aa 1))) (be rfl (aa 6) (aE rfl (aa 1))) (ez (bG rfl (aa 6) (aE rfl (aa 3))) (be rfl (aa 6) (aE rfl (aa 3)))))) (ai (lW)
 ay) ay)
 (ai (cG (be rfl (aa 6) (aE rfl (aa 2))) (ai (aG (aa 4) (gy (aa 2) (aa 6)))
 (ai (cj rfl rfl (aa 5) (aa 6))
 ay)) (ai (cG (be rfl (bM (fun y y=>rfl) (aa 2) (aa 6)) (aE rfl (aa 4))) (ai (aG (bU _) (gy (aa 3) (aa 6)))
 ay) ay)
 ay))
 ay)))
 ay))
 ay)))
 (ai (bI (sN rfl rfl rfl rfl (aa 3)))
 ay)))
noncomputable def lp (P:Params):Nm:={names:=(cA (KK P) 175).scope.names,slots:=[some (Str.ofString "prog"),some (Str.ofString "roots"),some (Str.ofString "shared"),some (Str.ofString "number")]}
theorem qH:∀A call,ij X gh (lp P) A call (bl (cA (KK P) 175)) jH:=fun A call=>
 (ai (aG (bj rfl rfl rfl (af (aa 0) aA)) (bc 1 rfl (.inl rfl) rfl))
 (ai (aG (bj rfl rfl rfl (af (ar (aa 0)) (af (aa 1) aA))) (bc 2 rfl (.inl rfl) rfl))
 (ai (gz (d9 (aa 2) (fun y y=>rfl)) (ai (dZ (fun y y=>rfl) rfl (.inl rfl) rfl (aa 2) (ai (aG (bU _) (gy (aa 1) (aa 3)))
 ay))
 (ai (aG (bj rfl rfl rfl (af (ar (aa 0)) (af (aa 1) aA))) (bc 2 rfl (.inl rfl) rfl))
 ay)))
 (ai (bI (aa 1))
 ay))))
noncomputable def jk (P:Params):Nm:={names:=(cA (KK P) 182).scope.names,slots:=[some (Str.ofString "inst")]}
theorem nJ:∀A call,ij X gh (jk P) A call (bl (cA (KK P) 182)) kz:=fun A call=>
 (ai (bI (bY (by decide) (af (ar (aa 0)) (af (ar (aa 0)) (af (ar (aa 0)) (af (ar (aa 0)) (af (ar (aa 0)) (af (ar (aa 0)) aA))))))))
 ay)
noncomputable def lj (P:Params):Nm:={names:=(cA (KK P) 194).scope.names,slots:=[some (Str.ofString "prog"),some (Str.ofString "roots"),some (Str.ofString "heads"),some (Str.ofString "insts"),some (Str.ofString "root"),some (Str.ofString "inst"),some (Str.ofString "flat"),none]}
theorem qG:∀A call,ij X gh (lj P) A call (bl (cA (KK P) 194)) gI:=fun A call=>
 (ai (cG (d9 (ar (aa 0)) (fun y y=>rfl)) (ai (bI (aa 0))
 ay) ay)
 (ai (aG (bj rfl rfl rfl (af (aa 0) aA)) (bc 1 rfl (.inl rfl) rfl))
 (ai (ei ⟨fun y y y=>rfl,(fun⟨⟨_,_,_,_,_⟩,_,_,_,_,_,_,_,_⟩ hk hn=>by cases hk;cases hn;rfl),rfl⟩ (bY (by decide) (af (eJ) (af (bw aA) aA))) (bB rfl (bc 2 rfl (.inr rfl) rfl) (bB rfl (bc 3 rfl (.inl rfl) rfl) fY)))
 (ai (dZ (fun y y=>rfl) rfl (.inl rfl) rfl (aa 1) (ai (aG (fk rfl rfl rfl rfl (aa 3)) (gy (aa 2) (aa 4)))
 (ai (nO rfl rfl (aa 3) (bj rfl rfl rfl (af (ar (aa 0)) (af (aa 1) (af (aa 4) aA)))))
 ay)))
 (ai (dZ (fun y y=>rfl) rfl (.inl rfl) rfl (aa 3) (ai (cG (lJ (c_ (bG rfl (ar (aa 5)) (aE rfl aV)) (be rfl (ar (aa 5)) (aE rfl aV)) (ez (bG rfl (ar (aa 5)) (aE rfl aV)) (be rfl (ar (aa 5)) (aE rfl aV))))) (ai (aG (bM (fun y y=>rfl) (aa 2) (ar (aa 5))) (bQ (aa 5)))
 ay) ay)
 ay))
 (ai (aG (bj rfl rfl rfl (af (aa 0) aA)) (bc 6 rfl (.inl rfl) rfl))
 (ai (aG (aa 3) (bQ (aa 6)))
 (ai (aG (bM (fun y y=>rfl) (aa 2) (ar (aa 0))) (bQ (aa 6)))
 (ai (aG (bM (fun y y=>rfl) (aa 2) (ar (aa 0))) (bQ (aa 6)))
 (ai (aG (bU _) (bQ (aa 6)))
 (ai (aG (mj [none,none,some (Str.ofString "heads"),none,none,none,none,some (Str.ofString "root")] rfl (fun y y=>rfl) (aa 1) (bM (fun y y=>rfl) (aa 2) (aa 7))) (bQ (aa 6)))
 (ai (bI (aa 6))
 ay))))))))))))
noncomputable def kg (P:Params):Nm:={names:=(cA (KK P) 201).scope.names,slots:=[some (Str.ofString "number"),some (Str.ofString "bases"),some (Str.ofString "found"),some (Str.ofString "base")]}
theorem pH:∀A call,ij X gh (kg P) A call (bl (cA (KK P) 201)) eu:=fun A call=>
 (ai (aG (bw aA) (bc 2 rfl (.inl rfl) rfl))
 (ai (dZ (fun y y=>rfl) rfl (.inl rfl) rfl (aa 1) (ai (cj rfl rfl (aa 2) (b8 rfl (aa 0) (aa 3)))
 (ai (aG (b8 rfl (aa 0) (aa 3)) (bc 0 rfl (.inl rfl) rfl))
 ay)))
 (ai (bI (aa 2))
 ay)))
noncomputable def mI (P:Params):Nm:={names:=(cA (KK P) 208).scope.names,slots:=[some (Str.ofString "number"),some (Str.ofString "many"),some (Str.ofString "cell"),some (Str.ofString "_law_kinds"),some (Str.ofString "_law_pairs"),some (Str.ofString "_law_asked"),some (Str.ofString "kind"),some (Str.ofString "out"),some (Str.ofString "arg"),some (Str.ofString "pair"),some (Str.ofString "group"),some (Str.ofString "bits"),some (Str.ofString "told"),some (Str.ofString "op")]}
theorem r_:∀A call,ij X gh (mI P) A call (bl (cA (KK P) 208)) bO:=fun A call=>
 (ai (aG (bw (af aV (af aV (af aV (af aV (af aV (af aV (af aV aA)))))))) (bc 3 rfl (.inl rfl) rfl))
 (ai (aG (b8 rfl (aa 3) (bw (af aV (af aV (af aV (af aV (af aV (af aV (af aV aA))))))))) (bc 3 rfl (.inl rfl) rfl))
 (ai (aG (bw (af (bY (by decide) (af (aX _) (af (aX _) (af (bU _) aA)))) (af (bY (by decide) (af (aX _) (af (aX _) (af (bU _) aA)))) (af (bY (by decide) (af (aX _) (af (aX _) (af (bU _) aA)))) (af (bY (by decide) (af (aX _) (af (aX _) (af (bU _) aA)))) (af (bY (by decide) (af (aX _) (af (aX _) (af (bU _) aA)))) (af (bY (by decide) (af (aX _) (af (aX _) (af (bU _) aA)))) aA))))))) (bc 4 rfl (.inl rfl) rfl))
 (ai (aG (b8 rfl (aa 4) (bw (af (bY (by decide) (af (aX _) (af (aX _) (af (bU _) aA)))) aA))) (bc 4 rfl (.inl rfl) rfl))
 (ai (aG (bw (af (aX _) (af (aX _) (af (aX _) (af (aX _) (af (aX _) (af (aX _) (af (aX _) (af (aX _) (af (aX _) (af (aX _) aA))))))))))) (bc 5 rfl (.inl rfl) rfl))
 (ai (ei ⟨fun y y y=>rfl,(fun y y y=>rfl),rfl⟩ (bj rfl rfl rfl (af (aa 2) (af (bw (af (aX _) (af (aX _) (af (aX _) (af (aX _) (af (aX _) (af (aX _) (af (aX _) aA)))))))) aA))) (bB rfl (bc 6 rfl (.inl rfl) rfl) (bB rfl (bc 7 rfl (.inl rfl) rfl) (bB rfl (bc 8 rfl (.inl rfl) rfl) (bB rfl (bc 9 rfl (.inl rfl) rfl) (bB rfl (bc 10 rfl (.inl rfl) rfl) (bB rfl (bc 11 rfl (.inl rfl) rfl) (bB rfl (bc 12 rfl (.inl rfl) rfl) fY))))))))
 (ai (fZ (fun y y y=>rfl) (fun⟨⟨_,_,_,_,_⟩,_,_,_,_,_,_,_,_⟩ hk hn=>by cases hk;cases hn;rfl) rfl rfl rfl rfl rfl rfl (by decide) (bY (by decide) (af (bM (fun y y=>rfl) (aa 3) (aa 6)) (af (b8 rfl (b8 rfl (b8 rfl (aa 0) (aX _)) (aa 7)) (aa 1)) aA))))
 (ai (cG (be rfl (aa 13) (aE rfl aV)) (ai (bI (gH (by decide) rfl rfl rfl (af (aa 13) (af (aa 7) (af (b8 rfl (b8 rfl (b8 rfl (aa 0) (aX _)) (aa 8)) (aa 1)) aA)))))
 ay) ay)
 (ai (cG (be rfl (aa 13) (aE rfl aV)) (ai (bI (gH (by decide) rfl rfl rfl (af (aa 13) (af (aa 7) (af (aX _) (af (bM (fun y y=>rfl) (bM (fun y y=>rfl) (aa 4) (aa 9)) (aX _)) (af (bM (fun y y=>rfl) (bM (fun y y=>rfl) (aa 4) (aa 9)) (aX _)) (af (bM (fun y y=>rfl) (bM (fun y y=>rfl) (aa 4) (aa 9)) (aX _)) aA))))))))
 ay) ay)
 (ai (cG (be rfl (aa 13) (aE rfl aV)) (ai (bI (gH (by decide) rfl rfl rfl (af (aa 13) (af (aa 7) (af (b8 rfl (aX _) (aa 10)) aA)))))
 ay) ay)
 (ai (cG (be rfl (aa 13) (aE rfl aV)) (ai (bI (gH (by decide) rfl rfl rfl (af (aa 13) (af (aa 7) (af (bM (fun y y=>rfl) (aa 5) (aa 11)) aA)))))
 ay) ay)
 (ai (cG (be rfl (aa 13) (aE rfl aV)) (ai (bI (gH (by decide) rfl rfl rfl (af (aa 13) (af (aa 7) aA))))
 ay) ay)
 (ai (bI (gH (by decide) rfl rfl rfl (af (aa 13) (af (aX _) (af (sO (be rfl (aa 13) (aE rfl aV)) (aa 12) (aX _)) aA)))))
 ay)))))))))))))
noncomputable def lh (P:Params):Nm:={names:=(cA (KK P) 215).scope.names,slots:=[some (Str.ofString "prog")]}
theorem qE:∀A call,ij X gh (lh P) A call (bl (cA (KK P) 215)) mP:=fun A call=>
 (ai (bI (bY (by decide) (af (ar (aa 0)) (af (ar (aa 0)) (af (ar (aa 0)) (af (ar (aa 0)) (af (ar (aa 0)) aA)))))))
 ay)
noncomputable def n_ (P:Params):Nm:={names:=(cA (KK P) 222).scope.names,slots:=[some (Str.ofString "inst")]}
theorem tt:∀A call,ij X gh (n_ P) A call (bl (cA (KK P) 222)) qs:=fun A call=>
 (ai (bI (bY (by decide) (af (ar (aa 0)) (af (ar (aa 0)) (af (ar (aa 0)) (af (ar (aa 0)) (af (ar (aa 0)) (af (ar (aa 0)) aA))))))))
 ay)
noncomputable def mG (P:Params):Nm:={names:=(cA (KK P) 227).scope.names,slots:=[some (Str.ofString "prog"),none,some (Str.ofString "rows")]}
theorem r7:∀A call,ij X gh (mG P) A call (bl (cA (KK P) 227)) pg:=fun A call=>
 (ai (lG [none,some (Str.ofString "inst"),none] rfl (fun y y=>rfl) (ar (aa 0)) (b8 rfl (bj rfl rfl rfl (af (aa 1) aA)) (bY (by decide) (af (ar (aa 1)) aA))) rfl rfl rfl rfl)
 (ai (bI (bY (by decide) (af (aa 2) (af (ar (aa 0)) (af (ar (aa 0)) (af (ar (aa 0)) (af (sN rfl rfl rfl rfl (ar (aa 0))) (af (bj rfl rfl rfl (af (aa 0) aA)) aA))))))))
 ay))
noncomputable def mH (P:Params):Nm:={names:=(cA (KK P) 234).scope.names,slots:=[some (Str.ofString "prog"),some (Str.ofString "number"),some (Str.ofString "found")]}
theorem r8:∀A call,ij X gh (mH P) A call (bl (cA (KK P) 234)) fx:=fun A call=>
 (ai (cG (ku (d9 (ar (aa 0)) (fun y y=>rfl))) (ai (bI (bw (af (bM (fun y y=>rfl) (ar (aa 0)) (aa 1)) aA)))
 ay) ay)
 (ai (aG (bw (af (bM (fun y y=>rfl) (ar (aa 0)) (aa 1)) aA)) (bc 2 rfl (.inl rfl) rfl))
 (ai (gz (ku (d9 (ar (bM (fun y y=>rfl) (aa 2) (ft))) (fun y y=>rfl))) (ai (cj rfl rfl (aa 2) (bM (fun y y=>rfl) (ar (aa 0)) (b8 rfl (aa 1) (fk rfl rfl rfl rfl (aa 2)))))
 ay))
 (ai (bI (aa 2))
 ay))))
noncomputable def mF (P:Params):Nm:={names:=(cA (KK P) 241).scope.names,slots:=[some (Str.ofString "inst"),some (Str.ofString "at"),some (Str.ofString "kept"),some (Str.ofString "text"),some (Str.ofString "holds"),some (Str.ofString "octet")]}
theorem r6:∀A call,ij X gh (mF P) A call (bl (cA (KK P) 241)) pd:=fun A call=>
 (ai (cG (be rfl (ar (aa 0)) (aE rfl aV)) (ai (bI (bw (af (bY (by decide) (af (ar (aa 0)) (af (aa 1) (af (aa 2) aA)))) (af (bY (by decide) (af (ar (aa 0)) (af (aa 1) (af (aa 2) aA)))) aA))))
 ay) ay)
 (ai (cG (lJ (c_ (bG rfl (ar (aa 0)) (aE rfl aV)) (be rfl (ar (aa 0)) (aE rfl aV)) (ez (xX (cC (bG rfl (ar (aa 0)) (aE rfl aV)) (be rfl (ar (aa 0)) (aE rfl aV)) (cU (bG rfl (b8 rfl (bM (fun y y=>rfl) (aa 4) (aa 1)) (ar (aa 0))) (aE rfl (ar (aa 0)))) (be rfl (b8 rfl (bM (fun y y=>rfl) (aa 4) (aa 1)) (ar (aa 0))) (aE rfl (ar (aa 0))))))) (fW (cC (bG rfl (ar (aa 0)) (aE rfl aV)) (be rfl (ar (aa 0)) (aE rfl aV)) (cU (bG rfl (b8 rfl (bM (fun y y=>rfl) (aa 4) (aa 1)) (ar (aa 0))) (aE rfl (ar (aa 0)))) (be rfl (b8 rfl (bM (fun y y=>rfl) (aa 4) (aa 1)) (ar (aa 0))) (aE rfl (ar (aa 0)))))))))) (ai (bI (bw (af (bY (by decide) (af (ar (aa 0)) (af (aa 1) (af (aa 2) aA)))) aA)))
 ay) ay)
 (ai (cG (be rfl (ar (aa 0)) (aE rfl aV)) (ai (bI (bw (af (bY (by decide) (af (ar (aa 0)) (af (aa 1) (af (b8 rfl (b8 rfl (jS (aa 2) (b8 rfl (ar (aa 0)) (aX _))) (bY (by decide) (af (aa 1) aA))) (jz (aa 2) (b8 rfl (ar (aa 0)) (aX _)))) aA)))) aA)))
 ay) ay)
 (ai (cG (be rfl (ar (aa 0)) (aE rfl aV)) (ai (bI (bw (af (bY (by decide) (af (b8 rfl (ft) (ar (aa 0))) (af (aa 1) (af (aa 2) aA)))) aA)))
 ay) ay)
 (ai (cG (fW (cC (bG rfl (ar (aa 0)) (aE rfl aV)) (be rfl (ar (aa 0)) (aE rfl aV)) (cU (bG rfl (aa 1) (aE rfl (fk rfl rfl rfl rfl (aa 3)))) (be rfl (aa 1) (aE rfl (fk rfl rfl rfl rfl (aa 3))))))) (ai (aG (sO (fW (cC (ar (aa 0)) (d9 (ar (aa 0)) (fun y y=>rfl)) (cU (bG rfl (aX _) (fB rfl (bM (fun y y=>rfl) (aa 3) (aa 1)) (aE rfl (aX _)))) (be rfl (aX _) (fB rfl (bM (fun y y=>rfl) (aa 3) (aa 1)) (aE rfl (aX _))))))) (b8 rfl (bM (fun y y=>rfl) (aa 3) (aa 1)) (aX _)) (bM (fun y y=>rfl) (aa 3) (aa 1))) (bc 5 rfl (.inl rfl) rfl))
 (ai (cG (be rfl (ar (aa 0)) (fB rfl (aa 5) (aE rfl (ar (aa 0))))) (ai (bI (bw (af (bY (by decide) (af (ar (aa 0)) (af (b8 rfl (aa 1) (aX _)) (af (aa 2) aA)))) aA)))
 ay) ay)
 ay)) ay)
 (ai (bI (bw aA))
 ay))))))
noncomputable def li (P:Params):Nm:={names:=(cA (KK P) 248).scope.names,slots:=[some (Str.ofString "prog"),some (Str.ofString "start"),some (Str.ofString "text"),some (Str.ofString "holds"),some (Str.ofString "found"),some (Str.ofString "told"),some (Str.ofString "met"),some (Str.ofString "left"),some (Str.ofString "number"),some (Str.ofString "at"),some (Str.ofString "kept"),some (Str.ofString "ways"),some (Str.ofString "inst")]}
theorem qF:∀A call,ij X gh (li P) A call (bl (cA (KK P) 248)) eW:=fun A call=>
 (ai (ei ⟨fun y y y=>rfl,(fun⟨⟨_,_,_,_,_⟩,_,_,_,_,_,_,_,_⟩ hk hn=>by cases hk;cases hn;rfl),rfl⟩ (bY (by decide) (af (bw aA) (af (eJ) (af (eJ) (af (bw (af (bY (by decide) (af (aa 1) (af (aX _) (af (bY (by decide) (af (ft) (af (ft) (af (ft) (af (ft) aA))))) aA)))) aA)) aA))))) (bB rfl (bc 4 rfl (.inl rfl) rfl) (bB rfl (bc 5 rfl (.inl rfl) rfl) (bB rfl (bc 6 rfl (.inl rfl) rfl) (bB rfl (bc 7 rfl (.inl rfl) rfl) fY)))))
 (ai (gz (be rfl (aa 7) (aE rfl (bw aA))) (ai (ei ⟨fun y y y=>rfl,(fun y y y=>rfl),rfl⟩ (sM rfl (aa 7)) (bB rfl (bc 8 rfl (.inl rfl) rfl) (bB rfl (bc 9 rfl (.inl rfl) rfl) (bB rfl (bc 10 rfl (.inl rfl) rfl) fY))))
 (ai (cG (be rfl (bY (by decide) (af (aa 8) (af (aa 9) aA))) (aE rfl (aa 6))) (ai (lW)
 ay) ay)
 (ai (aG (bU _) (gy (aa 6) (bY (by decide) (af (aa 8) (af (aa 9) aA)))))
 (ai (cG (be rfl (aa 8) (aE rfl (aX _))) (ai (cj rfl rfl (aa 4) (bY (by decide) (af (b8 rfl (ft) (aa 8)) (af (aa 9) (af (aa 10) aA)))))
 (ai (lW)
 ay)) ay)
 (ai (aG (bw aA) (bc 11 rfl (.inl rfl) rfl))
 (ai (dZ (fun y y=>rfl) rfl (.inl rfl) rfl (bj rfl rfl rfl (af (aa 0) (af (aa 8) aA))) (ai (nO rfl rfl (aa 11) (bj rfl rfl rfl (af (aa 12) (af (aa 9) (af (aa 10) (af (aa 2) (af (aa 3) aA)))))))
 ay))
 (ai (nO rfl rfl (aa 7) (tP (aa 11)))
 ay))))))))
 (ai (bI (aa 4))
 ay)))
noncomputable def jj (P:Params):Nm:={names:=(cA (KK P) 253).scope.names,slots:=[some (Str.ofString "prog"),some (Str.ofString "found"),some (Str.ofString "left"),some (Str.ofString "number"),some (Str.ofString "inst"),none]}
theorem nI:∀A call,ij X gh (jj P) A call (bl (cA (KK P) 253)) gQ:=fun A call=>
 (ai (fZ (fun y y y=>rfl) (fun⟨⟨_,_,_,_,_⟩,_,_,_,_,_,_,_,_⟩ hk hn=>by cases hk;cases hn;rfl) rfl rfl rfl rfl rfl rfl (by decide) (bY (by decide) (af (eJ) (af (bw (af (ar (aa 0)) (af (ar (aa 0)) aA))) aA))))
 (ai (gz (be rfl (aa 2) (aE rfl (bw aA))) (ai (aG (sM rfl (aa 2)) (bc 3 rfl (.inl rfl) rfl))
 (ai (cG (be rfl (aa 3) (aE rfl (aa 1))) (ai (aG (bU _) (gy (aa 1) (aa 3)))
 (ai (aG (bM (fun y y=>rfl) (ar (aa 0)) (aa 3)) (bc 4 rfl (.inl rfl) rfl))
 (ai (cG (fW (cC (bG rfl (ar (aa 4)) (aE rfl aV)) (be rfl (ar (aa 4)) (aE rfl aV)) (cU (bG rfl (ar (aa 4)) (aE rfl aV)) (be rfl (ar (aa 4)) (aE rfl aV))))) (ai (cj rfl rfl (aa 2) (ar (aa 4)))
 ay) ay)
 (ai (cG (be rfl (ar (aa 4)) (aE rfl aV)) (ai (cj rfl rfl (aa 2) (ar (aa 4)))
 ay) ay)
 ay)))) ay)
 ay)))
 (ai (bI (mj [some (Str.ofString "prog"),none,none,none,none,some (Str.ofString "number")] rfl (fun y y=>rfl) (aa 1) (bM (fun y y=>rfl) (ar (aa 0)) (aa 5))))
 ay)))
noncomputable def fT (P:Params):Nm:={names:=(cA (KK P) 258).scope.names,slots:=[some (Str.ofString "prog"),some (Str.ofString "ways"),some (Str.ofString "inst"),none]}
theorem jY:∀A call,ij X gh (fT P) A call (bl (cA (KK P) 258)) eR:=fun A call=>
 (ai (aG (bw (af (ar (aa 0)) (af (ar (aa 0)) aA))) (bc 1 rfl (.inl rfl) rfl))
 (ai (dZ (fun y y=>rfl) rfl (.inl rfl) rfl (ar (aa 0)) (ai (cG (fW (cC (bG rfl (ar (aa 2)) (aE rfl aV)) (be rfl (ar (aa 2)) (aE rfl aV)) (cU (bG rfl (ar (aa 2)) (aE rfl aV)) (be rfl (ar (aa 2)) (aE rfl aV))))) (ai (cj rfl rfl (aa 1) (ar (aa 2)))
 ay) ay)
 (ai (cG (be rfl (ar (aa 2)) (aE rfl aV)) (ai (cj rfl rfl (aa 1) (ar (aa 2)))
 ay) ay)
 ay)))
 (ai (bI (bG rfl (oX [some (Str.ofString "prog"),none,none,some (Str.ofString "way")] rfl (fun y y=>rfl) (aa 1) (aa 3) (be rfl (ar (bM (fun y y=>rfl) (ar (aa 0)) (aa 3))) (aE rfl aV))) (aE rfl (bw aA))))
 ay)))
noncomputable def fU (P:Params):Nm:={names:=(cA (KK P) 263).scope.names,slots:=[some (Str.ofString "flat"),some (Str.ofString "net"),some (Str.ofString "tops"),some (Str.ofString "number"),some (Str.ofString "head"),none,some (Str.ofString "keys"),none,none,some (Str.ofString "counts"),some (Str.ofString "reached"),some (Str.ofString "op"),none]}
theorem jZ:∀A call,ij X gh (fU P) A call (bl (cA (KK P) 263)) bm:=fun A call=>
 (ai (cG (lJ (c_ (qo (ar (aa 0))) (ku (d9 (ar (aa 0)) (fun y y=>rfl))) (c_ (bG rfl (bj rfl rfl rfl (af (aa 0) aA)) (aE rfl (bw aA))) (be rfl (bj rfl rfl rfl (af (aa 0) aA)) (aE rfl (bw aA))) (ez (bG rfl (bj rfl rfl rfl (af (aa 0) aA)) (aE rfl (bj rfl rfl rfl (af (aa 1) aA)))) (be rfl (bj rfl rfl rfl (af (aa 0) aA)) (aE rfl (bj rfl rfl rfl (af (aa 1) aA)))))))) (ai (bI (bU _))
 ay) ay)
 (ai (aG (bw (af (aX _) aA)) (bc 2 rfl (.inl rfl) rfl))
 (ai (dZ (fun y y=>rfl) rfl (.inl rfl) rfl (bY (by decide) (af (ar (aa 1)) (af (ar (aa 1)) aA))) (ai (cG (be rfl (aa 3) (aE rfl (aa 2))) (ai (cj rfl rfl (aa 2) (aa 3))
 ay) ay)
 ay))
 (ai (cG (lJ (c_ (bG rfl (ar (aa 0)) (aE rfl (bM (fun y y=>rfl) (ar (aa 0)) (nv rfl rfl (aa 2) (ar (aa 1)) (pa (pv _)))))) (be rfl (ar (aa 0)) (aE rfl (bM (fun y y=>rfl) (ar (aa 0)) (nv rfl rfl (aa 2) (ar (aa 1)) (pa (pv _)))))) (ez (bG rfl (ar (aa 0)) (aE rfl (bM (fun y y=>rfl) (ar (aa 0)) (nv rfl rfl (aa 2) (ar (aa 1)) (pa (pv _)))))) (be rfl (ar (aa 0)) (aE rfl (bM (fun y y=>rfl) (ar (aa 0)) (nv rfl rfl (aa 2) (ar (aa 1)) (pa (pv _))))))))) (ai (bI (bU _))
 ay) ay)
 (ai (dZ (fun y y=>rfl) rfl (.inl rfl) rfl (ar (aa 0)) (ai (aG (P:=⟨(fun⟨⟨_,_,_,_,_⟩,_,_,_,_,_,_,_,_⟩ hk hn=>by cases hk;cases hn;rfl),fun y y y=>rfl,rfl⟩) (mj [none,none,none,none,none,some (Str.ofString "inst"),none,none,none,none,none,none,none] rfl (fun y y=>rfl) (bj rfl rfl rfl (af (aa 0) (af (aa 4) aA))) (bj rfl rfl rfl (af (aa 5) aA))) (bc 6 rfl (.inr rfl) rfl))
 (ai (cG (be rfl (oX [none,none,none,none,none,none,some (Str.ofString "keys"),some (Str.ofString "at"),none,none,none,none,none] rfl (fun y y=>rfl) (rq rfl rfl rfl rfl (fk rfl rfl rfl rfl (aa 6))) (aa 7) (be rfl (bM (fun y y=>rfl) (aa 6) (aa 7)) (aE rfl (jS (aa 6) (aa 7))))) (aE rfl (bw aA))) (ai (bI (bU _))
 ay) ay)
 (ai (cG (fW (cC (bG rfl (fk rfl rfl rfl rfl (aa 6)) (aE rfl (aX _))) (be rfl (fk rfl rfl rfl rfl (aa 6)) (aE rfl (aX _))) (cU (bG rfl aV (aE rfl (mj [none,none,none,none,none,none,none,none,some (Str.ofString "key"),none,none,none,none] rfl (fun y y=>rfl) (aa 6) (bM (fun y y=>rfl) (aa 8) (aX _))))) (be rfl aV (aE rfl (mj [none,none,none,none,none,none,none,none,some (Str.ofString "key"),none,none,none,none] rfl (fun y y=>rfl) (aa 6) (bM (fun y y=>rfl) (aa 8) (aX _)))))))) (ai (bI (bU _))
 ay) ay)
 ay))))
 (ai (fZ (fun y y y=>rfl) (fun⟨⟨_,_,_,_,_⟩,_,_,_,_,_,_,_,_⟩ hk hn=>by cases hk;cases hn;rfl) rfl rfl rfl rfl rfl rfl (by decide) (bY (by decide) (af (bj rfl rfl rfl (af (aa 0) aA)) (af (bj rfl rfl rfl (af (aa 1) aA)) aA))))
 (ai (dZ (fun y y=>rfl) rfl (.inr rfl) rfl (bY (by decide) (af aV (af aV (af aV (af aV aA))))) (ai (cG (be rfl (bM (fun y y=>rfl) (aa 9) (aa 11)) (aE rfl (fk rfl rfl rfl rfl (oX [none,none,none,none,none,none,none,none,none,none,none,some (Str.ofString "op"),some (Str.ofString "inst")] rfl (fun y y=>rfl) (aa 10) (aa 12) (be rfl (ar (aa 12)) (aE rfl (aa 11))))))) (ai (bI (bU _))
 ay) ay)
 ay))
 (ai (bI (bU _))
 ay))))))))
end
section
open PySem PySem.W PyProof.Rows
variable {X:Cx}{P:Params}
noncomputable def jl (P:Params):Nm:={names:=(cA (KK P) 161).scope.names,slots:=[some (Str.ofString "prog"),some (Str.ofString "roots"),some (Str.ofString "met"),some (Str.ofString "stack"),some (Str.ofString "number"),some (Str.ofString "inst")]}
theorem nK:∀A call,ij X gh (jl P) A call (bl (cA (KK P) 161)) gR:=fun A call=>
 (ai (aG (BF rfl rfl (by simp) (by decide) (nV (aX _) (bU _) (nV (ar (aa 0)) (bU _) (nV (ar (aa 0)) (bU _) yX)))) (bc 1 rfl (.inl rfl) rfl))
 (ai (fZ (fun y y y=>rfl) (fun⟨⟨_,_,_,_,_⟩,_,_,_,_,_,_,_,_⟩ hk hn=>by cases hk;cases hn;rfl) rfl rfl rfl rfl rfl rfl (by decide) (bY (by decide) (af (eJ) (af (bw (af (ar (aa 0)) (af (ar (aa 0)) aA))) aA))))
 (ai (gz (d9 (aa 3) (fun y y=>rfl)) (ai (aG (sM rfl (aa 3)) (bc 4 rfl (.inl rfl) rfl))
 (ai (cG (be rfl (aa 4) (aE rfl (aa 2))) (ai (lW)
 ay) ay)
 (ai (aG (bU _) (gy (aa 2) (aa 4)))
 (ai (aG (bM (fun y y=>rfl) (ar (aa 0)) (aa 4)) (bc 5 rfl (.inl rfl) rfl))
 (ai (cG (be rfl (ar (aa 5)) (aE rfl aV)) (ai (aG (bU _) (gy (aa 1) (ar (aa 5))))
 (ai (cj rfl rfl (aa 3) (ar (aa 5)))
 ay)) ay)
 (ai (mC rfl rfl rfl rfl rfl (aa 3) (bj rfl rfl rfl (af (aa 5) aA)))
 ay)))))))
 (ai (bI (aa 1))
 ay))))
noncomputable def iY (P:Params):Nm:={names:=(cA (KK P) 189).scope.names,slots:=[some (Str.ofString "insts"),some (Str.ofString "roots"),some (Str.ofString "root"),some (Str.ofString "found"),some (Str.ofString "kept"),some (Str.ofString "met"),some (Str.ofString "stack"),some (Str.ofString "number"),some (Str.ofString "inst"),some (Str.ofString "made"),some (Str.ofString "out")]}
theorem mW:∀A call,ij X gh (iY P) A call (bl (cA (KK P) 189)) c8:=fun A call=>
 (ai (ei ⟨fun y y y=>rfl,(fun⟨⟨_,_,_,_,_⟩,_,_,_,_,_,_,_,_⟩ hk hn=>by cases hk;cases hn;rfl),rfl⟩ (bY (by decide) (af (bw aA) (af (eJ) (af (eJ) (af (bw (af (aa 2) aA)) aA))))) (bB rfl (bc 3 rfl (.inl rfl) rfl) (bB rfl (bc 4 rfl (.inl rfl) rfl) (bB rfl (bc 5 rfl (.inl rfl) rfl) (bB rfl (bc 6 rfl (.inl rfl) rfl) fY)))))
 (ai (gz (d9 (aa 6) (fun y y=>rfl)) (ai (aG (sM rfl (aa 6)) (bc 7 rfl (.inl rfl) rfl))
 (ai (aG (bM (fun y y=>rfl) (aa 0) (aa 7)) (bc 8 rfl (.inl rfl) rfl))
 (ai (cG (lJ (c_ (bG rfl (aa 7) (aE rfl (aa 5))) (be rfl (aa 7) (aE rfl (aa 5))) (ez (bG rfl (ar (aa 8)) (aE rfl aV)) (be rfl (ar (aa 8)) (aE rfl aV))))) (ai (lW)
 ay) ay)
 (ai (aG (bU _) (gy (aa 5) (aa 7)))
 (ai (cG (fW (cC (bG rfl (aa 7) (aE rfl (aa 2))) (be rfl (aa 7) (aE rfl (aa 2))) (cU (bG rfl (aa 7) (aE rfl (aa 1))) (be rfl (aa 7) (aE rfl (aa 1)))))) (ai (aG (gH (by decide) rfl rfl rfl (af aV (af (aa 7) aA))) (bc 9 rfl (.inl rfl) rfl))
 ay) (ai (cG (lJ (c_ (bG rfl (ar (aa 8)) (aE rfl aV)) (be rfl (ar (aa 8)) (aE rfl aV)) (ez (bG rfl (ar (aa 8)) (aE rfl aV)) (be rfl (ar (aa 8)) (aE rfl aV))))) (ai (mC rfl rfl rfl rfl rfl (aa 6) (bj rfl rfl rfl (af (aa 8) aA)))
 (ai (lW)
 ay)) (ai (aG (sO (be rfl (ar (aa 8)) (aE rfl aV)) (aX _) (ar (aa 8))) (bc 10 rfl (.inl rfl) rfl))
 (ai (aG (gH (by decide) rfl rfl rfl (af (ar (aa 8)) (af (aa 10) (af (ar (aa 8)) (af (ar (aa 8)) (af (ar (aa 8)) (af (ar (aa 8)) aA))))))) (bc 9 rfl (.inl rfl) rfl))
 ay)))
 ay))
 (ai (cG (be rfl (bj rfl rfl rfl (af (aa 9) aA)) (aE rfl (aa 4))) (ai (aG (bU _) (gy (aa 4) (bj rfl rfl rfl (af (aa 9) aA))))
 (ai (cj rfl rfl (aa 3) (aa 9))
 ay)) ay)
 ay)))))))
 (ai (cG (ku (d9 (aa 3) (fun y y=>rfl))) (ai (cj rfl rfl (aa 3) (gH (by decide) rfl rfl rfl (af aV aA)))
 ay) ay)
 (ai (aG (bU _) (bQ (bM (fun y y=>rfl) (aa 3) (ft))))
 (ai (bI (aa 3))
 ay)))))
end
section
open PySem PySem.W PyProof.Rows
variable {nm:Nm}{n:Nat}
section
noncomputable def jp (k:Nat):Addr:=[62,83,97,104,111,118,125,132,140,147,154,161,168,175,182,189,194,201,208,215,222,227,234,241,248,253,258,263,268].getD k 0
noncomputable def fA (k:Nat):Addr:=[65,86].getD k 0
noncomputable def d0 (prog:Program) (w:World) (B:Heap) (P:Params) (mg mb:Str->Option Value) (low:cD (fun a o=>sysModules<a) (fun a o=>B.get? a=some o)):Cx:=
 {prog:=prog,w:=w,B:=B,cls:=fA,fn:=jp,K:=KK P,mg:=mg,mb:=mb,loose:=[],low:=low}
theorem dp {ps:List Str}(h:(ps.all fun x=>nm.names.lookup x==some .local || nm.names.lookup x==some .cell)=true):∀x∈ps,nm.names.lookup x=some .local\/nm.names.lookup x=some .cell:=fun x hx=>by
 have:=List.all_eq_true.mp h x hx
 simpa using this
theorem bx (h:(nm.names.all fun p=>p.2 != .free)=true):∀x,nm.names.lookup x≠some .free:=fun x hx=>by have:=List.all_eq_true.mp h _ (mem_of_lookup hx);simp at this
theorem cN {α:Type}{cs:List α}(h1:cs.length≤n)(h2:n≤cs.length+([]:List Value).length):cs.length=n:=by simp at h2;lia
theorem C5 {α:Type}{cs:List α}(h:cs.length=n+1):∃a r,cs=a::r/\r.length=n:=by
 cases cs with
 | nil=>exact absurd h (Nat.succ_ne_zero n).symm
 | cons a r=>exact⟨a,r,rfl,Nat.succ.inj h⟩
theorem Ef {α:Type}{cs:List α}(h:cs.length=0):cs=[]:=List.length_eq_zero_iff.mp h
theorem jb {α:Type}{cs:List α}(h:cs.length=1):∃a0,cs=[a0]:=by obtain⟨a,r,rfl,h'⟩:=C5 h;cases Ef h';exact⟨_,rfl⟩
theorem xy {α:Type}{cs:List α}(h:cs.length=2):∃a0 a1,cs=[a0,a1]:=by obtain⟨a,r,rfl,h'⟩:=C5 h;obtain⟨a1,rfl⟩:=jb h';exact⟨_,_,rfl⟩
theorem xx {α:Type}{cs:List α}(h:cs.length=3):∃a0 a1 a2,cs=[a0,a1,a2]:=by obtain⟨a,r,rfl,h'⟩:=C5 h;obtain⟨a1,a2,rfl⟩:=xy h';exact⟨_,_,_,rfl⟩
theorem C6 {α:Type}{cs:List α}(h:cs.length=4):∃a0 a1 a2 a3,cs=[a0,a1,a2,a3]:=by obtain⟨a,r,rfl,h'⟩:=C5 h;obtain⟨a1,a2,a3,rfl⟩:=xx h';exact⟨_,_,_,_,rfl⟩
theorem Ee {α:Type}{cs:List α}(h:cs.length=5):∃a0 a1 a2 a3 a4,cs=[a0,a1,a2,a3,a4]:=by obtain⟨a,r,rfl,h'⟩:=C5 h;obtain⟨a1,a2,a3,a4,rfl⟩:=C6 h';exact⟨_,_,_,_,_,rfl⟩
section
variable {prog:Program}{w:World}{B:Heap}{P:Params}{mg mb:Str->Option Value}{low:cD (fun a o=>sysModules<a) (fun a o=>B.get? a=some o)}
theorem j6:kT (d0 prog w B P mg mb low) 1 gm (fV P) (bl (cA (KK P) 83)) (cA (KK P) 83) [(Str.ofString "self")] []:=
 {obj:=⟨_,_,_,rfl⟩,code:=rfl,body:=rfl,glo:=rfl,bui:=rfl,clo:=rfl,kind:=rfl,co:=rfl,gen:=rfl,names:=rfl,params:=rfl,plen:=rfl,slen:=rfl,le:=by decide,nodup:=by decide+kernel,
  pk:=dp rfl,cells:=fun x h=>mem_of_lookup h,nofree:=bx rfl,dflt:=fun y y=>.nil,dle:=Nat.zero_le _,
  bind:=fun s cs K h1 h2=>by
   obtain⟨c0,rfl⟩:=jb (cN h1 h2)
   conv=>arg 2;whnf
   exact BindsTo.of_eq rfl}
theorem m4:kT (d0 prog w B P mg mb low) 2 jr (iW P) (bl (cA (KK P) 97)) (cA (KK P) 97) [(Str.ofString "prog")] []:=
 {obj:=⟨_,_,_,rfl⟩,code:=rfl,body:=rfl,glo:=rfl,bui:=rfl,clo:=rfl,kind:=rfl,co:=rfl,gen:=rfl,names:=rfl,params:=rfl,plen:=rfl,slen:=rfl,le:=by decide,nodup:=by decide+kernel,
  pk:=dp rfl,cells:=fun x h=>mem_of_lookup h,nofree:=bx rfl,dflt:=fun y y=>.nil,dle:=Nat.zero_le _,
  bind:=fun s cs K h1 h2=>by
   obtain⟨c0,rfl⟩:=jb (cN h1 h2)
   conv=>arg 2;whnf
   exact BindsTo.of_eq rfl}
theorem lB:kT (d0 prog w B P mg mb low) 3 ic (gF P) (bl (cA (KK P) 104)) (cA (KK P) 104) [(Str.ofString "prog")] []:=
 {obj:=⟨_,_,_,rfl⟩,code:=rfl,body:=rfl,glo:=rfl,bui:=rfl,clo:=rfl,kind:=rfl,co:=rfl,gen:=rfl,names:=rfl,params:=rfl,plen:=rfl,slen:=rfl,le:=by decide,nodup:=by decide+kernel,
  pk:=dp rfl,cells:=fun x h=>mem_of_lookup h,nofree:=bx rfl,dflt:=fun y y=>.nil,dle:=Nat.zero_le _,
  bind:=fun s cs K h1 h2=>by
   obtain⟨c0,rfl⟩:=jb (cN h1 h2)
   conv=>arg 2;whnf
   exact BindsTo.of_eq rfl}
theorem me:kT (d0 prog w B P mg mb low) 4 i5 (g8 P) (bl (cA (KK P) 111)) (cA (KK P) 111) [(Str.ofString "prog")] []:=
 {obj:=⟨_,_,_,rfl⟩,code:=rfl,body:=rfl,glo:=rfl,bui:=rfl,clo:=rfl,kind:=rfl,co:=rfl,gen:=rfl,names:=rfl,params:=rfl,plen:=rfl,slen:=rfl,le:=by decide,nodup:=by decide+kernel,
  pk:=dp rfl,cells:=fun x h=>mem_of_lookup h,nofree:=bx rfl,dflt:=fun y y=>.nil,dle:=Nat.zero_le _,
  bind:=fun s cs K h1 h2=>by
   obtain⟨c0,rfl⟩:=jb (cN h1 h2)
   conv=>arg 2;whnf
   exact BindsTo.of_eq rfl}
theorem pO:kT (d0 prog w B P mg mb low) 5 lD (kh P) (bl (cA (KK P) 118)) (cA (KK P) 118) [(Str.ofString "inst")] []:=
 {obj:=⟨_,_,_,rfl⟩,code:=rfl,body:=rfl,glo:=rfl,bui:=rfl,clo:=rfl,kind:=rfl,co:=rfl,gen:=rfl,names:=rfl,params:=rfl,plen:=rfl,slen:=rfl,le:=by decide,nodup:=by decide+kernel,
  pk:=dp rfl,cells:=fun x h=>mem_of_lookup h,nofree:=bx rfl,dflt:=fun y y=>.nil,dle:=Nat.zero_le _,
  bind:=fun s cs K h1 h2=>by
   obtain⟨c0,rfl⟩:=jb (cN h1 h2)
   conv=>arg 2;whnf
   exact BindsTo.of_eq rfl}
theorem jc:kT (d0 prog w B P mg mb low) 6 fF (fi P) (bl (cA (KK P) 125)) (cA (KK P) 125) [(Str.ofString "prog"),(Str.ofString "number"),(Str.ofString "heads")] []:=
 {obj:=⟨_,_,_,rfl⟩,code:=rfl,body:=rfl,glo:=rfl,bui:=rfl,clo:=rfl,kind:=rfl,co:=rfl,gen:=rfl,names:=rfl,params:=rfl,plen:=rfl,slen:=rfl,le:=by decide,nodup:=by decide+kernel,
  pk:=dp rfl,cells:=fun x h=>mem_of_lookup h,nofree:=bx rfl,dflt:=fun y y=>.nil,dle:=Nat.zero_le _,
  bind:=fun s cs K h1 h2=>by
   obtain⟨c0,c1,c2,rfl⟩:=xx (cN h1 h2)
   conv=>arg 2;whnf
   exact BindsTo.of_eq rfl}
theorem lA:kT (d0 prog w B P mg mb low) 7 ib (gE P) (bl (cA (KK P) 132)) (cA (KK P) 132) [(Str.ofString "prog")] []:=
 {obj:=⟨_,_,_,rfl⟩,code:=rfl,body:=rfl,glo:=rfl,bui:=rfl,clo:=rfl,kind:=rfl,co:=rfl,gen:=rfl,names:=rfl,params:=rfl,plen:=rfl,slen:=rfl,le:=by decide,nodup:=by decide+kernel,
  pk:=dp rfl,cells:=fun x h=>mem_of_lookup h,nofree:=bx rfl,dflt:=fun y y=>.nil,dle:=Nat.zero_le _,
  bind:=fun s cs K h1 h2=>by
   obtain⟨c0,rfl⟩:=jb (cN h1 h2)
   conv=>arg 2;whnf
   exact BindsTo.of_eq rfl}
theorem sG:kT (d0 prog w B P mg mb low) 8 kL (mE P) (bl (cA (KK P) 140)) (cA (KK P) 140) [(Str.ofString "insts"),(Str.ofString "number"),(Str.ofString "ends")] []:=
 {obj:=⟨_,_,_,rfl⟩,code:=rfl,body:=rfl,glo:=rfl,bui:=rfl,clo:=rfl,kind:=rfl,co:=rfl,gen:=rfl,names:=rfl,params:=rfl,plen:=rfl,slen:=rfl,le:=by decide,nodup:=by decide+kernel,
  pk:=dp rfl,cells:=fun x h=>mem_of_lookup h,nofree:=bx rfl,dflt:=fun y y=>.nil,dle:=Nat.zero_le _,
  bind:=fun s cs K h1 h2=>by
   obtain⟨c0,c1,c2,rfl⟩:=xx (cN h1 h2)
   conv=>arg 2;whnf
   exact BindsTo.of_eq rfl}
theorem i4:kT (d0 prog w B P mg mb low) 9 jq (iU P) (bl (cA (KK P) 147)) (cA (KK P) 147) [(Str.ofString "prog")] []:=
 {obj:=⟨_,_,_,rfl⟩,code:=rfl,body:=rfl,glo:=rfl,bui:=rfl,clo:=rfl,kind:=rfl,co:=rfl,gen:=rfl,names:=rfl,params:=rfl,plen:=rfl,slen:=rfl,le:=by decide,nodup:=by decide+kernel,
  pk:=dp rfl,cells:=fun x h=>mem_of_lookup h,nofree:=bx rfl,dflt:=fun y y=>.nil,dle:=Nat.zero_le _,
  bind:=fun s cs K h1 h2=>by
   obtain⟨c0,rfl⟩:=jb (cN h1 h2)
   conv=>arg 2;whnf
   exact BindsTo.of_eq rfl}
theorem m5:kT (d0 prog w B P mg mb low) 10 ju (iX P) (bl (cA (KK P) 154)) (cA (KK P) 154) [(Str.ofString "inst")] []:=
 {obj:=⟨_,_,_,rfl⟩,code:=rfl,body:=rfl,glo:=rfl,bui:=rfl,clo:=rfl,kind:=rfl,co:=rfl,gen:=rfl,names:=rfl,params:=rfl,plen:=rfl,slen:=rfl,le:=by decide,nodup:=by decide+kernel,
  pk:=dp rfl,cells:=fun x h=>mem_of_lookup h,nofree:=bx rfl,dflt:=fun y y=>.nil,dle:=Nat.zero_le _,
  bind:=fun s cs K h1 h2=>by
   obtain⟨c0,rfl⟩:=jb (cN h1 h2)
   conv=>arg 2;whnf
   exact BindsTo.of_eq rfl}
theorem oF:kT (d0 prog w B P mg mb low) 12 kl (ji P) (bl (cA (KK P) 168)) (cA (KK P) 168) [(Str.ofString "insts"),(Str.ofString "roots")] []:=
 {obj:=⟨_,_,_,rfl⟩,code:=rfl,body:=rfl,glo:=rfl,bui:=rfl,clo:=rfl,kind:=rfl,co:=rfl,gen:=rfl,names:=rfl,params:=rfl,plen:=rfl,slen:=rfl,le:=by decide,nodup:=by decide+kernel,
  pk:=dp rfl,cells:=fun x h=>mem_of_lookup h,nofree:=bx rfl,dflt:=fun y y=>.nil,dle:=Nat.zero_le _,
  bind:=fun s cs K h1 h2=>by
   obtain⟨c0,c1,rfl⟩:=xy (cN h1 h2)
   conv=>arg 2;whnf
   exact BindsTo.of_eq rfl}
theorem rn:kT (d0 prog w B P mg mb low) 13 mN (lp P) (bl (cA (KK P) 175)) (cA (KK P) 175) [(Str.ofString "prog")] []:=
 {obj:=⟨_,_,_,rfl⟩,code:=rfl,body:=rfl,glo:=rfl,bui:=rfl,clo:=rfl,kind:=rfl,co:=rfl,gen:=rfl,names:=rfl,params:=rfl,plen:=rfl,slen:=rfl,le:=by decide,nodup:=by decide+kernel,
  pk:=dp rfl,cells:=fun x h=>mem_of_lookup h,nofree:=bx rfl,dflt:=fun y y=>.nil,dle:=Nat.zero_le _,
  bind:=fun s cs K h1 h2=>by
   obtain⟨c0,rfl⟩:=jb (cN h1 h2)
   conv=>arg 2;whnf
   exact BindsTo.of_eq rfl}
theorem oH:kT (d0 prog w B P mg mb low) 14 kn (jk P) (bl (cA (KK P) 182)) (cA (KK P) 182) [(Str.ofString "inst")] []:=
 {obj:=⟨_,_,_,rfl⟩,code:=rfl,body:=rfl,glo:=rfl,bui:=rfl,clo:=rfl,kind:=rfl,co:=rfl,gen:=rfl,names:=rfl,params:=rfl,plen:=rfl,slen:=rfl,le:=by decide,nodup:=by decide+kernel,
  pk:=dp rfl,cells:=fun x h=>mem_of_lookup h,nofree:=bx rfl,dflt:=fun y y=>.nil,dle:=Nat.zero_le _,
  bind:=fun s cs K h1 h2=>by
   obtain⟨c0,rfl⟩:=jb (cN h1 h2)
   conv=>arg 2;whnf
   exact BindsTo.of_eq rfl}
theorem rm:kT (d0 prog w B P mg mb low) 16 mM (lj P) (bl (cA (KK P) 194)) (cA (KK P) 194) [(Str.ofString "prog")] []:=
 {obj:=⟨_,_,_,rfl⟩,code:=rfl,body:=rfl,glo:=rfl,bui:=rfl,clo:=rfl,kind:=rfl,co:=rfl,gen:=rfl,names:=rfl,params:=rfl,plen:=rfl,slen:=rfl,le:=by decide,nodup:=by decide+kernel,
  pk:=dp rfl,cells:=fun x h=>mem_of_lookup h,nofree:=bx rfl,dflt:=fun y y=>.nil,dle:=Nat.zero_le _,
  bind:=fun s cs K h1 h2=>by
   obtain⟨c0,rfl⟩:=jb (cN h1 h2)
   conv=>arg 2;whnf
   exact BindsTo.of_eq rfl}
theorem pN:kT (d0 prog w B P mg mb low) 17 iG (kg P) (bl (cA (KK P) 201)) (cA (KK P) 201) [(Str.ofString "number"),(Str.ofString "bases")] []:=
 {obj:=⟨_,_,_,rfl⟩,code:=rfl,body:=rfl,glo:=rfl,bui:=rfl,clo:=rfl,kind:=rfl,co:=rfl,gen:=rfl,names:=rfl,params:=rfl,plen:=rfl,slen:=rfl,le:=by decide,nodup:=by decide+kernel,
  pk:=dp rfl,cells:=fun x h=>mem_of_lookup h,nofree:=bx rfl,dflt:=fun y y=>.nil,dle:=Nat.zero_le _,
  bind:=fun s cs K h1 h2=>by
   obtain⟨c0,c1,rfl⟩:=xy (cN h1 h2)
   conv=>arg 2;whnf
   exact BindsTo.of_eq rfl}
theorem sK:kT (d0 prog w B P mg mb low) 18 kN (mI P) (bl (cA (KK P) 208)) (cA (KK P) 208) [(Str.ofString "number"),(Str.ofString "many"),(Str.ofString "cell")] []:=
 {obj:=⟨_,_,_,rfl⟩,code:=rfl,body:=rfl,glo:=rfl,bui:=rfl,clo:=rfl,kind:=rfl,co:=rfl,gen:=rfl,names:=rfl,params:=rfl,plen:=rfl,slen:=rfl,le:=by decide,nodup:=by decide+kernel,
  pk:=dp rfl,cells:=fun x h=>mem_of_lookup h,nofree:=bx rfl,dflt:=fun y y=>.nil,dle:=Nat.zero_le _,
  bind:=fun s cs K h1 h2=>by
   obtain⟨c0,c1,c2,rfl⟩:=xx (cN h1 h2)
   conv=>arg 2;whnf
   exact BindsTo.of_eq rfl}
theorem rj:kT (d0 prog w B P mg mb low) 19 mL (lh P) (bl (cA (KK P) 215)) (cA (KK P) 215) [(Str.ofString "prog")] []:=
 {obj:=⟨_,_,_,rfl⟩,code:=rfl,body:=rfl,glo:=rfl,bui:=rfl,clo:=rfl,kind:=rfl,co:=rfl,gen:=rfl,names:=rfl,params:=rfl,plen:=rfl,slen:=rfl,le:=by decide,nodup:=by decide+kernel,
  pk:=dp rfl,cells:=fun x h=>mem_of_lookup h,nofree:=bx rfl,dflt:=fun y y=>.nil,dle:=Nat.zero_le _,
  bind:=fun s cs K h1 h2=>by
   obtain⟨c0,rfl⟩:=jb (cN h1 h2)
   conv=>arg 2;whnf
   exact BindsTo.of_eq rfl}
theorem tN:kT (d0 prog w B P mg mb low) 20 qk (n_ P) (bl (cA (KK P) 222)) (cA (KK P) 222) [(Str.ofString "inst")] []:=
 {obj:=⟨_,_,_,rfl⟩,code:=rfl,body:=rfl,glo:=rfl,bui:=rfl,clo:=rfl,kind:=rfl,co:=rfl,gen:=rfl,names:=rfl,params:=rfl,plen:=rfl,slen:=rfl,le:=by decide,nodup:=by decide+kernel,
  pk:=dp rfl,cells:=fun x h=>mem_of_lookup h,nofree:=bx rfl,dflt:=fun y y=>.nil,dle:=Nat.zero_le _,
  bind:=fun s cs K h1 h2=>by
   obtain⟨c0,rfl⟩:=jb (cN h1 h2)
   conv=>arg 2;whnf
   exact BindsTo.of_eq rfl}
theorem sI:kT (d0 prog w B P mg mb low) 21 oP (mG P) (bl (cA (KK P) 227)) (cA (KK P) 227) [(Str.ofString "prog")] []:=
 {obj:=⟨_,_,_,rfl⟩,code:=rfl,body:=rfl,glo:=rfl,bui:=rfl,clo:=rfl,kind:=rfl,co:=rfl,gen:=rfl,names:=rfl,params:=rfl,plen:=rfl,slen:=rfl,le:=by decide,nodup:=by decide+kernel,
  pk:=dp rfl,cells:=fun x h=>mem_of_lookup h,nofree:=bx rfl,dflt:=fun y y=>.nil,dle:=Nat.zero_le _,
  bind:=fun s cs K h1 h2=>by
   obtain⟨c0,rfl⟩:=jb (cN h1 h2)
   conv=>arg 2;whnf
   exact BindsTo.of_eq rfl}
theorem sJ:kT (d0 prog w B P mg mb low) 22 kM (mH P) (bl (cA (KK P) 234)) (cA (KK P) 234) [(Str.ofString "prog"),(Str.ofString "number")] []:=
 {obj:=⟨_,_,_,rfl⟩,code:=rfl,body:=rfl,glo:=rfl,bui:=rfl,clo:=rfl,kind:=rfl,co:=rfl,gen:=rfl,names:=rfl,params:=rfl,plen:=rfl,slen:=rfl,le:=by decide,nodup:=by decide+kernel,
  pk:=dp rfl,cells:=fun x h=>mem_of_lookup h,nofree:=bx rfl,dflt:=fun y y=>.nil,dle:=Nat.zero_le _,
  bind:=fun s cs K h1 h2=>by
   obtain⟨c0,c1,rfl⟩:=xy (cN h1 h2)
   conv=>arg 2;whnf
   exact BindsTo.of_eq rfl}
theorem sH:kT (d0 prog w B P mg mb low) 23 oO (mF P) (bl (cA (KK P) 241)) (cA (KK P) 241) [(Str.ofString "inst"),(Str.ofString "at"),(Str.ofString "kept"),(Str.ofString "text"),(Str.ofString "holds")] []:=
 {obj:=⟨_,_,_,rfl⟩,code:=rfl,body:=rfl,glo:=rfl,bui:=rfl,clo:=rfl,kind:=rfl,co:=rfl,gen:=rfl,names:=rfl,params:=rfl,plen:=rfl,slen:=rfl,le:=by decide,nodup:=by decide+kernel,
  pk:=dp rfl,cells:=fun x h=>mem_of_lookup h,nofree:=bx rfl,dflt:=fun y y=>.nil,dle:=Nat.zero_le _,
  bind:=fun s cs K h1 h2=>by
   obtain⟨c0,c1,c2,c3,c4,rfl⟩:=Ee (cN h1 h2)
   conv=>arg 2;whnf
   exact BindsTo.of_eq rfl}
theorem rl:kT (d0 prog w B P mg mb low) 24 jt (li P) (bl (cA (KK P) 248)) (cA (KK P) 248) [(Str.ofString "prog"),(Str.ofString "start"),(Str.ofString "text"),(Str.ofString "holds")] []:=
 {obj:=⟨_,_,_,rfl⟩,code:=rfl,body:=rfl,glo:=rfl,bui:=rfl,clo:=rfl,kind:=rfl,co:=rfl,gen:=rfl,names:=rfl,params:=rfl,plen:=rfl,slen:=rfl,le:=by decide,nodup:=by decide+kernel,
  pk:=dp rfl,cells:=fun x h=>mem_of_lookup h,nofree:=bx rfl,dflt:=fun y y=>.nil,dle:=Nat.zero_le _,
  bind:=fun s cs K h1 h2=>by
   obtain⟨c0,c1,c2,c3,rfl⟩:=C6 (cN h1 h2)
   conv=>arg 2;whnf
   exact BindsTo.of_eq rfl}
theorem oG:kT (d0 prog w B P mg mb low) 25 km (jj P) (bl (cA (KK P) 253)) (cA (KK P) 253) [(Str.ofString "prog")] []:=
 {obj:=⟨_,_,_,rfl⟩,code:=rfl,body:=rfl,glo:=rfl,bui:=rfl,clo:=rfl,kind:=rfl,co:=rfl,gen:=rfl,names:=rfl,params:=rfl,plen:=rfl,slen:=rfl,le:=by decide,nodup:=by decide+kernel,
  pk:=dp rfl,cells:=fun x h=>mem_of_lookup h,nofree:=bx rfl,dflt:=fun y y=>.nil,dle:=Nat.zero_le _,
  bind:=fun s cs K h1 h2=>by
   obtain⟨c0,rfl⟩:=jb (cN h1 h2)
   conv=>arg 2;whnf
   exact BindsTo.of_eq rfl}
theorem j4:kT (d0 prog w B P mg mb low) 26 gj (fT P) (bl (cA (KK P) 258)) (cA (KK P) 258) [(Str.ofString "prog")] []:=
 {obj:=⟨_,_,_,rfl⟩,code:=rfl,body:=rfl,glo:=rfl,bui:=rfl,clo:=rfl,kind:=rfl,co:=rfl,gen:=rfl,names:=rfl,params:=rfl,plen:=rfl,slen:=rfl,le:=by decide,nodup:=by decide+kernel,
  pk:=dp rfl,cells:=fun x h=>mem_of_lookup h,nofree:=bx rfl,dflt:=fun y y=>.nil,dle:=Nat.zero_le _,
  bind:=fun s cs K h1 h2=>by
   obtain⟨c0,rfl⟩:=jb (cN h1 h2)
   conv=>arg 2;whnf
   exact BindsTo.of_eq rfl}
theorem j5:kT (d0 prog w B P mg mb low) 27 eQ (fU P) (bl (cA (KK P) 263)) (cA (KK P) 263) [(Str.ofString "flat"),(Str.ofString "net")] []:=
 {obj:=⟨_,_,_,rfl⟩,code:=rfl,body:=rfl,glo:=rfl,bui:=rfl,clo:=rfl,kind:=rfl,co:=rfl,gen:=rfl,names:=rfl,params:=rfl,plen:=rfl,slen:=rfl,le:=by decide,nodup:=by decide+kernel,
  pk:=dp rfl,cells:=fun x h=>mem_of_lookup h,nofree:=bx rfl,dflt:=fun y y=>.nil,dle:=Nat.zero_le _,
  bind:=fun s cs K h1 h2=>by
   obtain⟨c0,c1,rfl⟩:=xy (cN h1 h2)
   conv=>arg 2;whnf
   exact BindsTo.of_eq rfl}
theorem oI:kT (d0 prog w B P mg mb low) 11 ko (jl P) (bl (cA (KK P) 161)) (cA (KK P) 161) [(Str.ofString "prog")] []:=
 {obj:=⟨_,_,_,rfl⟩,code:=rfl,body:=rfl,glo:=rfl,bui:=rfl,clo:=rfl,kind:=rfl,co:=rfl,gen:=rfl,names:=rfl,params:=rfl,plen:=rfl,slen:=rfl,le:=by decide,nodup:=by decide+kernel,
  pk:=dp rfl,cells:=fun x h=>mem_of_lookup h,nofree:=bx rfl,dflt:=fun y y=>.nil,dle:=Nat.zero_le _,
  bind:=fun s cs K h1 h2=>by
   obtain⟨c0,rfl⟩:=jb (cN h1 h2)
   conv=>arg 2;whnf
   exact BindsTo.of_eq rfl}
theorem m7:kT (d0 prog w B P mg mb low) 15 gk (iY P) (bl (cA (KK P) 189)) (cA (KK P) 189) [(Str.ofString "insts"),(Str.ofString "roots"),(Str.ofString "root")] []:=
 {obj:=⟨_,_,_,rfl⟩,code:=rfl,body:=rfl,glo:=rfl,bui:=rfl,clo:=rfl,kind:=rfl,co:=rfl,gen:=rfl,names:=rfl,params:=rfl,plen:=rfl,slen:=rfl,le:=by decide,nodup:=by decide+kernel,
  pk:=dp rfl,cells:=fun x h=>mem_of_lookup h,nofree:=bx rfl,dflt:=fun y y=>.nil,dle:=Nat.zero_le _,
  bind:=fun s cs K h1 h2=>by
   obtain⟨c0,c1,c2,rfl⟩:=xx (cN h1 h2)
   conv=>arg 2;whnf
   exact BindsTo.of_eq rfl}
end
end
end
section
open PySem PySem.W PyProof.Rows
section
variable {prog:Program}{w:World}{B:Heap}{P:Params}{mg mb:Str->Option Value}{low:cD (fun a o=>sysModules<a) (fun a o=>B.get? a=some o)}
theorem jV {s:Shared}{cs:List Value}{b:List (Str×Value)}{k:Option (Array Value)->Sem (List (Str×Value))}{o:Obj}{items:Array Value}{n:Nat}{f:FuncData}(ho:s.heap.get? 55=some o)(hs:o.data=.seq items n)(hd:f.defaults=.ref 55)
 (ak:PySem.bindArgs f ⟨cs,[]⟩=seqItems? f.defaults>>=k) (aO:k (some items)=pure b):BindsTo s f ⟨cs,[]⟩ b:=BindsTo.of_defaults hd ho hs ak aO
theorem mf:kT (d0 prog w B P mg mb low) 0 eI (g_ P) (bl (cA (KK P) 62)) (cA (KK P) 62) [(Str.ofString "self"),(Str.ofString "op"),(Str.ofString "out"),(Str.ofString "arg"),(Str.ofString "low"),(Str.ofString "high"),(Str.ofString "is_folded")] [.int 0 265,.int 0 266,.int 0 267,.int 0 268,.bool false]:=
 {obj:=⟨_,_,_,rfl⟩,code:=rfl,body:=rfl,glo:=rfl,bui:=rfl,clo:=rfl,kind:=rfl,co:=rfl,gen:=rfl,names:=rfl,params:=rfl,plen:=rfl,slen:=rfl,le:=by decide,nodup:=by decide+kernel,
  pk:=dp rfl,cells:=fun x h=>mem_of_lookup h,nofree:=bx rfl,dflt:=fun y y=>.cons (.int _ _) (.cons (.int _ _) (.cons (.int _ _) (.cons (.int _ _) (.cons (.bool _) .nil)))),dle:=by decide,
  bind:=fun s cs K h1 h2=>by
   have ho:s.heap.get? 55=some {cls:=Value.type "tuple",data:=Data.seq #[Value.int 0 265,Value.int 0 266,Value.int 0 267,Value.int 0 268,Value.bool false]}:=K 55 _ rfl;have h3:2≤cs.length:=by simp[eI] at h2;omega
   have h4:cs.length≤7:=h1
   match cs,h3,h4 with
   | [c0,c1],_,_=>
     conv=>arg 2;whnf
     exact jV ho rfl rfl rfl rfl
   | [c0,c1,c2],_,_=>
     conv=>arg 2;whnf
     exact jV ho rfl rfl rfl rfl
   | [c0,c1,c2,c3],_,_=>
     conv=>arg 2;whnf
     exact jV ho rfl rfl rfl rfl
   | [c0,c1,c2,c3,c4],_,_=>
     conv=>arg 2;whnf
     exact jV ho rfl rfl rfl rfl
   | [c0,c1,c2,c3,c4,c5],_,_=>
     conv=>arg 2;whnf
     exact jV ho rfl rfl rfl rfl
   | [c0,c1,c2,c3,c4,c5,c6],_,_=>
     conv=>arg 2;whnf
     exact jV ho rfl rfl rfl rfl
   | _::_::_::_::_::_::_::_::_,_,h4=>simp at h4
   | [_],h3,_=>simp at h3
   | [],h3,_=>simp at h3}
end
end
section
open PySem PySem.W PyProof.Rows
section
variable {prog:Program}{w:World}{B:Heap}{P:Params}{mg mb:Str->Option Value}{low:cD (fun a o=>sysModules<a) (fun a o=>B.get? a=some o)}
theorem Ft (K:(KK P).In B)(G:B.Ns mainGlobals mg)(hb:∀x:Str,x≠ "__name__" ->mb x=bootBuiltins x)(hf:Ae (d0 prog w B P mg mb low) (Str.ofString "FLATTEN_STEPS") (.tup [1,2,3])):
 ∀p∈gh,Ae (d0 prog w B P mg mb low) p.1 p.2:=by
 have fn:∀ {x:Str} {k:Nat},nsIn (KK P) mainGlobals x=some (some (.ref (jp k)))->Ae (d0 prog w B P mg mb low) x (.fn k):=fun e=>mg_of K G e;have cl:∀ {x:Str} {k:Nat},nsIn (KK P) mainGlobals x=some (some (.ref (fA k)))->Ae (d0 prog w B P mg mb low) x (.cls k):=fun e=>mg_of K G e;have it:∀ {x:Str} {i:Int} {t:Tok},nsIn (KK P) mainGlobals x=some (some (.int i t))->Ae (d0 prog w B P mg mb low) x (.int i):=fun e=>⟨_,mg_of K G e⟩;have ty:∀ {x:Str} {T:String},nsIn (KK P) mainGlobals x=some none->x≠ "__name__" ->bootBuiltins x=some (.type T)->Ae (d0 prog w B P mg mb low) x (.ty T):=fun e n h=>⟨mg_none_of K G e,(hb _ n).trans h⟩;have bi:∀ {x:Str} {T:String},nsIn (KK P) mainGlobals x=some none->x≠ "__name__" ->bootBuiltins x=some (.builtin T)->Ae (d0 prog w B P mg mb low) x (.bi T):=fun e n h=>⟨mg_none_of K G e,(hb _ n).trans h⟩;unfold gh;refine List.forall_mem_cons.mpr ⟨it rfl,?_⟩;refine List.forall_mem_cons.mpr ⟨it rfl,?_⟩;refine List.forall_mem_cons.mpr ⟨it rfl,?_⟩;refine List.forall_mem_cons.mpr ⟨it rfl,?_⟩;refine List.forall_mem_cons.mpr ⟨it rfl,?_⟩;refine List.forall_mem_cons.mpr ⟨it rfl,?_⟩;refine List.forall_mem_cons.mpr ⟨it rfl,?_⟩;refine List.forall_mem_cons.mpr ⟨it rfl,?_⟩;refine List.forall_mem_cons.mpr ⟨hf,?_⟩;refine List.forall_mem_cons.mpr ⟨cl rfl,?_⟩;refine List.forall_mem_cons.mpr ⟨cl rfl,?_⟩;refine List.forall_mem_cons.mpr ⟨bi rfl (by decide) rfl,?_⟩
 refine List.forall_mem_cons.mpr ⟨ty rfl (by decide) rfl,?_⟩
 refine List.forall_mem_cons.mpr ⟨ty rfl (by decide) rfl,?_⟩
 refine List.forall_mem_cons.mpr ⟨ty rfl (by decide) rfl,?_⟩
 refine List.forall_mem_cons.mpr ⟨ty rfl (by decide) rfl,?_⟩
 refine List.forall_mem_cons.mpr ⟨ty rfl (by decide) rfl,?_⟩
 repeat (refine List.forall_mem_cons.mpr ⟨fn rfl,?_⟩)
 exact fun p hp=>absurd hp (by simp)
noncomputable def Dg (P:Params):G->Bool
 | .fn k=>keepIn (KK P) (.ref (jp k))
 | _=>true
theorem vJ:∀k,(∃x,gh.lookup x=some (G.fn k))->keepIn (KK P) (.ref (jp k))=true:=fun k h=>
 have e:(gh.all fun p=>Dg P p.2)=true:=by kernel_rfl!
 h.elim fun x hx=>List.all_eq_true.mp e _ (mem_of_lookup hx)
theorem Ed {p:Nat->Prop}(a:p 0)(b:p 1){c:Nat}(h:c<2):p c:=by
 cases c with
 | zero=>exact a
 | succ c=>cases c with
   | zero=>exact b
   | succ c=>exact absurd h (Nat.not_lt.mpr (Nat.le_add_left 2 c))
theorem vK:∀c,c<2->keepIn (KK P) (.ref (fA c))=true:=fun c hc=>Ed (p:=fun c=>keepIn (KK P) (.ref (fA c))=true) rfl rfl hc
theorem xt:∀c,c<2->makesIn (KK P) (fA c)=true/\findIn (KK P) (.ref (fA c)) "__init__" =some (some (.ref (jp c)))/\typeIn (KK P) (.ref (jp c))=some (.type "function"):=fun c hc=>
 Ed (p:=fun c=>makesIn (KK P) (fA c)=true/\findIn (KK P) (.ref (fA c)) "__init__" =some (some (.ref (jp c)))/\typeIn (KK P) (.ref (jp c))=some (.type "function")) ⟨rfl,rfl,rfl⟩ ⟨rfl,rfl,rfl⟩ hc
theorem zU:∀c,c<2->uN (KK P) (fA c) (cO c)=true:=fun c hc=>Ed (p:=fun c=>uN (KK P) (fA c) (cO c)=true) rfl rfl hc
end
end
section
open PySem PySem.W PyProof.Rows
section
variable {prog:Program}{w:World}{B:Heap}{P:Params}{mg mb:Str->Option Value}{low:cD (fun a o=>sysModules<a) (fun a o=>B.get? a=some o)}
theorem AV (K:(KK P).In B)(G:B.Ns mainGlobals mg)(b:B.Ns builtinsNs mb)(nl:B.NoLimit)(hb:∀x:Str,x≠ "__name__" ->mb x=bootBuiltins x)(hf:Ae (d0 prog w B P mg mb low) (Str.ofString "FLATTEN_STEPS") (.tup [1,2,3])):fO (d0 prog w B P mg mb low) gh:=
 ⟨⟨K,zU⟩,G,b,nl,fun x g h=>Ft K G hb hf _ (mem_of_lookup h)⟩
theorem CY (W:fO (d0 prog w B P mg mb low) gh)
 :uW (d0 prog w B P mg mb low) gh aw:=by
 have h:wi (Ck (d0 prog w B P mg mb low) gh) 0 aw:=.cons ⟨mf,lV⟩ (.cons ⟨j6,j0⟩ (.cons ⟨m4,mU⟩ (.cons ⟨lB,kZ⟩ (.cons ⟨me,lU⟩ (.cons ⟨pO,pI⟩ (.cons ⟨jc,i_⟩ (.cons ⟨lA,kY⟩ (.cons ⟨sG,r5⟩ (.cons ⟨i4,mT⟩ (.cons ⟨m5,mV⟩ (.cons ⟨oI,nK⟩ (.cons ⟨oF,nH⟩ (.cons ⟨rn,qH⟩ (.cons ⟨oH,nJ⟩ (.cons ⟨m7,mW⟩ (.cons ⟨rm,qG⟩ (.cons ⟨pN,pH⟩ (.cons ⟨sK,r_⟩ (.cons ⟨rj,qE⟩ (.cons ⟨tN,tt⟩ (.cons ⟨sI,r7⟩ (.cons ⟨sJ,r8⟩ (.cons ⟨sH,r6⟩ (.cons ⟨rl,qF⟩ (.cons ⟨oG,nI⟩ (.cons ⟨j4,jY⟩ (.cons ⟨j5,jZ⟩ .nil)))))))))))))))))))))))))));exact⟨W,fun k fd e=>Nat.zero_add k▸h.at e,vJ,vK,xt⟩
end
end
section
open PySem PySem.W PyProof.Rows
section
variable {rest:List Value}{M:Model}{K:Frag}{fI:Addr}
variable {prog:Program}{w:World}{A:Around}{E:Value->Shared->Prop}{h:Heap}{g:Array GenState}{d:Drawn}{t:Nat}{os:OsState}
variable {nm q:Str}{C N fP:Addr}{bs bmB:List Value}{hdct:Bool}{sn:List Str}{sub:List Value}{ab:Bool}{col:Option Bool}{dd:Option Addr}{k0 k1 k2 k3 k5:Option Value}{B newId initId:String}
theorem eh {b:Bool}{X:String}(e:bmB.contains (.type X)=b):(Value.ref C::Value.ref fP::bmB).contains (.type X)=b:=by rw[List.contains_cons,List.contains_cons,e];rfl
theorem Ai {A:Around}{α:Type}{E:Value->Shared->Prop}{s:Shared}{c:Bool}{a b:Sem α}{Q:α->Shared->Prop}(hc:c=false)(h:wpAny M A b Q E s):wpAny M A (if c=true then a else b) Q E s:=by cases hc;exact h
theorem pF (F:ExcBaseFacts B newId initId bmB){Q:Unit->Shared->Prop}(hC:h.get? C=some (excClassObj nm q C N bs (.ref fP::bmB) hdct sn sub ab col dd k0 k1 k2 k3 k5 newId))
 (hq:Q () ⟨h,g,d,t,os⟩):wpAny M A (checkBuiltinCall newId ⟨.ref C::rest,[]⟩) Q E ⟨h,g,d,t,os⟩:=by
 have hcont:=eh (C:=C) (fP:=fP) F.hasB;have hstar:=F.noStar;unfold checkBuiltinCall;rw[F.newKind,F.newSplit]
 dsimp only
 rw[F.newRow]
 dsimp only
 repeat (first | refine wpAny_loadPart_at hC ?_ | (refine wpAny_isSubtype_exc hC ?_;rw[hcont]) | refine wpAny_staticBase_exc hC ?_ | refine wpAny_madeBy_exc hC ?_ | refine Ai (bne_self_eq_false _) ?_ | refine Ai rfl ?_ | dsimp only[bne_self_eq_false,Bool.false_eq_true,if_false] | wp_step)
 exact hq
noncomputable abbrev d7 (C t:Addr) (dc:Option Addr):Obj:={cls:=.ref C,dict:=dc,data:=.fields #[.ref t,.none,.none,.none,.bool false,.none]}
noncomputable abbrev kB (rest:List Value):Obj:={cls:=.type "tuple",data:=.seq rest.toArray}
theorem yH (F:ExcBaseFacts B newId initId bmB){R:Result->Shared->Prop}(hC:h.get? C=some (excClassObj nm q C N bs (.ref fP::bmB) hdct sn sub ab col dd k0 k1 k2 k3 k5 newId))
 (hq:R (.ok (.ret (.ref (h.objs.size+1)))) ⟨(h.push (kB rest)).push (d7 C h.objs.size none),g,d,t,os⟩) (hrest:rest.length≤sizeLine):
 codeAny (model prog w) A (.builtin newId ⟨.ref C::rest,[]⟩) R ⟨h,g,d,t,os⟩:=by
 have hends:=F.ends;have hcB:=eh (C:=C) (fP:=fP) F.hasB;have hcA:=eh (C:=C) (fP:=fP) F.noAttr;have hcN:=eh (C:=C) (fP:=fP) F.noName;refine codeAny_builtinAt F.entry ?_;unfold Builtin.«BaseException.__new__»;refine PySem.wpAt_bind ?_
 show PySem.wpAt _ _ _ (stack>>=_) _ _ _
 refine PySem.wpAt_bind (PySem.wpAt_stack fun p below=>PySem.wpAt_of_wpAny ?_)
 wp_walk
 refine PySem.wpAt_of_wpAny ?_;rw[F.owner]
 repeat (first | with_reducible refine wpAny_madeHere_exc F.canon hC ?_ | with_reducible refine wpAny_loadPart_at hC ?_ | (with_reducible refine wpAny_isSubtype_exc hC ?_;first | rw (occs:=.all) [hcB] | rw (occs:=.all) [hcA] | rw (occs:=.all) [hcN]) | wp_step)
 show R _ _
 rw[Heap.size_push];exact hq
theorem pD (F:ExcBaseFacts B newId initId bmB)(Kin:K.In h){Q:Fin->Shared->Prop}
 (hC:h.get? C=some (excClassObj nm q C N bs (.ref fP::bmB) hdct sn sub ab col dd k0 k1 k2 k3 k5 newId)) (hi:findIn K (.ref C) "__init__" =some (some (.ref fI))) (hf:typeIn K (.ref fI)=some (.type "function"))
 (hq:wpAny (model prog w) A (call (.ref fI) (.ref (h.objs.size+1)::rest)) (fun r s'=>r=.none/\Q (.done (.ret (.ref (h.objs.size+1)))) s') E ⟨(h.push (kB rest)).push (d7 C h.objs.size none),g,d,t,os⟩) (hrest:rest.length≤sizeLine):
 wpAny (model prog w) A (Builtin.«type.__call__» ⟨.ref C::rest,[]⟩) Q E ⟨h,g,d,t,os⟩:=by
 repeat (first | with_reducible refine wpAny_loadPart_at hC ?_ | with_reducible refine wpAny_madeBy_exc hC ?_ | wp_step)
 refine codeAny_call_builtin_code (Code.quiet_builtin _ F.quiet) (pF F hC ?_);refine yH F hC ?_ hrest
 show wpAny _ _ _ _ _ _
 have k:∀b o,h.get? b=some o->((h.push (kB rest)).push (d7 C h.objs.size none)).get? b=some o:=fun b o e=>Heap.get?_push_of_some _ (Heap.get?_push_of_some _ e);have hC₁:=k _ _ hC;have Kin₁:K.In ((h.push (kB rest)).push (d7 C h.objs.size none)):=fun a o e=>k a o (Kin a o e);have hget:((h.push (kB rest)).push (d7 C h.objs.size none)).get? (h.objs.size+1)=some (d7 C h.objs.size none):=by heap_get
 have hcC:(Value.ref C::Value.ref fP::bmB).contains (.ref C)=true:=by simp
 unfold isInstance
 repeat (first | with_reducible refine wpAny_loadPart_at hget ?_ | (with_reducible refine wpAny_isSubtype_exc hC₁ ?_;rw[hcC]) | wp_step)
 refine(looks_findIn Kin₁ hi).here ?_;refine wpAny_holding (aq ((bind_fn Kin₁ _ hf).here ?_));refine(aq (wpAny_mono hq (fun r s' hr=> ?_) fun y y x=>x));obtain⟨rfl,hQ⟩:=hr
 wp_walk
 exact hQ
theorem wA (F:ExcBaseFacts B newId initId bmB)(Kin:K.In h){Q:Value->Shared->Prop}
 (hC:h.get? C=some (excClassObj nm q C N bs (.ref fP::bmB) hdct sn sub ab col dd k0 k1 k2 k3 k5 newId)) (hi:findIn K (.ref C) "__init__" =some (some (.ref fI))) (hf:typeIn K (.ref fI)=some (.type "function"))
 (hq:wpAny (model prog w) (A.under (.builtin "type.__call__" ⟨.ref C::rest,[]⟩)) (call (.ref fI) (.ref (h.objs.size+1)::rest)) (fun r s'=>r=.none/\Q (.ref (h.objs.size+1)) s') E ⟨(h.push (kB rest)).push (d7 C h.objs.size none),g,d,t,os⟩) (hrest:rest.length≤sizeLine):
 wpAny (model prog w) A (call (.ref C) rest) Q E ⟨h,g,d,t,os⟩:=by
 have f1:=tc_lookup;have f2:=tc_bind (.ref C);have hT:(⟨h,g,d,t,os⟩:Shared).TypeIs (.ref C) "type" :=⟨_,hC,rfl⟩;refine wpAny_call (codeAny_of_tree ?_)
 show wpAny _ _ (callAny (.ref C) _) _ _ _
 repeat (any_goals (first | assumption | with_reducible refine wpAny_loadPart_at hC ?_ | wp_step))
 refine⟨rfl,?_⟩;refine codeAny_call_builtin_at (Code.quiet_builtin _ (by decide+kernel)) entry_typeCall (wpAny_check_type_call_sub hC (pD F Kin hC hi hf ?_ hrest))
 exact hq
end
end
section
open PySem PySem.W PyProof.Rows Builtin Builtin.ObjectAttr
section
variable {prog:Program}{w:World}{A:Around}{E:Value->Shared->Prop}{s:Shared}
variable {nm q:Str}{C N fP e t:Addr}{bs:List Value}{sn:List Str}{sub:List Value}{ab:Bool}{col:Option Bool}{dd:Option Addr}{k0 k1 k2 k3 k5:Option Value}{newId:String}
theorem va {K:Frag}(Kin:K.In s.heap){name:Str}{v:Value}{Q:Unit->Shared->Prop}
 (hC:s.heap.get? C=some (excClassObj nm q C N bs [.ref fP,.type "Exception",.type "BaseException",.type "object"] true sn sub ab col dd k0 k1 k2 k3 k5 newId))
 (hsa:findIn K (.ref C) "__setattr__" =some (some (.builtin "object.__setattr__"))) (hna:findIn K (.ref C) name=some none)
 (hx:s.heap.get? e=some (d7 C t none))
 (hq:∀h' d tk',h'.get? e=some (d7 C t (some d))->(∀b o,b≠e->s.heap.get? b=some o->h'.get? b=some o)->Q () {s with heap:=h',toks:=tk'}):
 wpAny (model prog w) A (PySem.setAttr (.ref e) name v) Q E s:=by
 obtain⟨h,g,d,tk,os⟩:=s
 dsimp only at Kin hC hx hq
 have SF:=PySem.F.store_object;have SE:=PySem.F.store_Exception;have IA:InstAt h e (d7 C t none) C none:=⟨hx,rfl,rfl,trivial⟩;have hm:Looks (model prog w) h (mroOf (.ref C)) [.ref C,.ref fP,.type "Exception",.type "BaseException",.type "object"]:=((Looks.ld (part:=none) hC).andThen .now).andThen .now
 have hsub:Looks (model prog w) h (isInstance (.ref e) (.type "object")) true:=IA.type.andThen (by intro A Q E s k q;obtain⟨h1,g1,d1,t1,os1⟩:=s;exact wpAny_isSubtype_exc (k _ _ hC) (by rw[eh (b:=true) (by simp)];exact q))
 refine set_plain (s:=⟨h,g,d,tk,os⟩) Kin IA hsa ?_;refine codeAny_call_builtin SF.slot.plain SF.entry (@check_slot (model prog w) _ _ ⟨h,g,d,tk+1,os⟩ "object.__setattr__" "object" "__setattr__" (.ref e) [.str name tk,v] [] _ SF.kind SF.split hsub (SF.args (.ref e) (.str name tk) v) ?_);rw[osa_eq,refuse_eq];refine aq (aq (IA.type.here (aq (hm.here ?_))));rw[refuseLoop_ref,refuseLoop_ref,SE.passes];refine aL (aq (IA.type.here (aq ((looks_findIn Kin hna).here (aq (aL ?_))))))
 show wpAny _ _ (storeInOwnDict (.ref e) (.ref C) (.str name tk) name v _) _ _ _
 have hx₁:(h.push {cls:=.type "dict",data:=.dict #[]}).get? e=some (d7 C t none):=Heap.get?_push_of_some _ hx;have hxs:e≠h.objs.size:=Nat.ne_of_lt (Heap.lt_size hx);have hd2:Looks (model prog w) h (classData C) {name:=nm,bases:=bs,mro:=[.ref C,.ref fP,.type "Exception",.type "BaseException",.type "object"],ns:=N,qualname:=q,hasDict:=true,slotNames:=sn,subclasses:=sub,abstract:=ab,collection:=col,hasDel:=false}:=(Looks.ld (part:=none) hC).andThen .now;refine aq (aL (aq (aq (wpAny_loadPart hx ?_))))
 dsimp only
 refine aq (hd2.here ?_);rw[au (by simp),au (by simp[typeHasDict])]
 refine aq (wpAny_alloc' ?_);refine aq (wpAny_update' hx₁ ?_);refine aL ?_
 have hgd:((h.push {cls:=.type "dict",data:=.dict #[]}).update e fun o=>{cls:=o.cls,dict:=some h.objs.size,data:=o.data,slots:=o.slots}).get? h.objs.size
  =some {cls:=.type "dict",data:=.dict #[]}:=
  (Heap.get?_update_ne _ _ _ _ hxs.symm).trans (Heap.get?_push_at rfl rfl)
 have hnd:((h.push {cls:=.type "dict",data:=.dict #[]}).update e fun o=>{cls:=o.cls,dict:=some h.objs.size,data:=o.data,slots:=o.slots}).Ns h.objs.size (fun y=>none):=
  ⟨_,#[],_,hgd,rfl,fun e he=>absurd he (by simp),fun y=>rfl⟩
 show wpAny _ _ (storeInDict h.objs.size (.str name tk) name v) _ _ _
 unfold storeInDict newKeyGuard;refine aq (aL (aq (wpAny_nsSet1 (Heap.Ns1.of_empty hnd) fun h' hn' hs=> ?_)));obtain⟨oD,esD,epD,hoD,hdD,hcD⟩:=hn'.count (Within.cons name v Within.nil);refine aq (wpAny_lookBehind hoD (by rw[hdD];exact pastItsLine_dict (Nat.le_trans hcD (by rw[List.length_cons,List.length_nil,sizeLine_eq];lia))) ?_)
 refine aL ?_;refine hq h' h.objs.size _ ?_ fun b o hb ho=> ?_
 ·exact(hs.2 e hxs).trans (Heap.get?_update_self _ hx₁ rfl)
 ·exact(hs.2 b (Nat.ne_of_lt (Heap.lt_size ho))).trans ((Heap.get?_update_ne _ _ _ _ hb).trans (Heap.get?_push_of_some _ ho))
end
end
section
open PySem PySem.W PyProof.Rows
section
variable {s:Shared}
variable {prog:Program}{w:World}{B:Heap}{P:Params}{mg mb:Str->Option Value}{low:cD (fun a o=>sysModules<a) (fun a o=>B.get? a=some o)}{A:Around}{E:Value->Shared->Prop}
theorem rD:∃nm q N bs sn sub ab col dd k0 k1 k2 k3 k5,(KK P).lookup 45=some (excClassObj nm q 45 N bs [.ref 32,.type "Exception",.type "BaseException",.type "object"] true sn sub ab col dd k0 k1 k2 k3 k5 "Exception.__new__"):=
 ⟨_,_,_,_,_,_,_,_,_,_,_,_,_,_,rfl⟩
theorem vb {cs:List Value}{b:List (Str×Value)}{k:Option (Array Value)->Sem (List (Str×Value))}{o:Obj}{items:Array Value}{n:Nat}{f:FuncData}(ho:s.heap.get? 22=some o)(hs:o.data=.seq items n)(hd:f.defaults=.ref 22)
 (ak:PySem.bindArgs f ⟨cs,[]⟩=seqItems? f.defaults>>=k) (aO:k (some items)=pure b):BindsTo s f ⟨cs,[]⟩ b:=BindsTo.of_defaults hd ho hs ak aO
theorem vc (K:(KK P).In s.heap){a b:Value}:BindsTo s (cA (KK P) 29) ⟨[a,b],[]⟩ [(Str.ofString "self",a),(Str.ofString "told",b)]:=by
 obtain⟨o,n,items,ho,hs⟩:pA (fun o n items=>s.heap.get? 22=some o) (fun o n items=>o.data=.seq #[items] n):=⟨_,_,_,K 22 _ rfl,rfl⟩
 conv=>arg 2;whnf
 exact vb ho hs rfl rfl rfl
include mg mb low in
theorem xB (hroom:A.depth<recursionLimit)(Kin:(KK P).In s.heap)(nl:s.heap.NoLimit){e t:Addr}(he:s.heap.get? e=some (d7 45 t none)){v:Value}{R:Result->Shared->Prop}
 (hq:∀h' d tk',h'.get? e=some (d7 45 t (some d))->(∀b o,b≠e->s.heap.get? b=some o->h'.get? b=some o)->R (.ok (.ret .none)) {s with heap:=h',toks:=tk'}):
 codeAny (model prog w) A (.call (.ref 29) ⟨[.ref e,v],[]⟩) R s:=by
 obtain⟨oc,od,osl,hobj⟩:mR (fun oc od osl=>(KK P).lookup 29=some ⟨oc,od,.func (cA (KK P) 29),osl⟩):=⟨_,_,_,rfl⟩;refine codeAny_call_function hroom (Kin _ _ hobj) rfl rfl rfl (body:=[Stmt.Assign [.Attribute (.Name (Str.ofString "self") {line:=13,col:=8,endLine:=13,endCol:=12}) (Str.ofString "told") {line:=13,col:=8,endLine:=13,endCol:=17}] (.Name (Str.ofString "told") {line:=13,col:=20,endLine:=13,endCol:=24}) {line:=13,col:=8,endLine:=13,endCol:=24}]) rfl (codeRec_of Kin rfl) (vc Kin _ _ _ _ ?_);refine wpAny_newFunctionEnv_cells rfl (fun x hx=> ?_) fun env henv s' J=> ?_
 ·rcases a_ hx with rfl | hx
  ·exact .inl rfl
  ·rw[aB hx];exact .inl rfl
 ·have keep:=J.toInCall.keep
  obtain⟨hh,tk,rfl⟩:=J.toInCall.same;have hns:=J.toInCall.ns;refine⟨nl.keeps fun a o q=>keep a o q,codeAny_func ?_⟩;have kself:env.kindOf (Str.ofString "self")=some .local:=by rw[henv];rfl
  have ktold:env.kindOf (Str.ofString "told")=some .local:=by rw[henv];rfl
  have ne:(Str.ofString "self" :Str)≠Str.ofString "told" :=by decide
  have mself:(bindL env.kindOf [(Str.ofString "self",Value.ref e),(Str.ofString "told",v)] fun y=>none) (Str.ofString "self")=some (.ref e):=by simp[bindL,kself,ktold,ne]
  have mtold:(bindL env.kindOf [(Str.ofString "self",Value.ref e),(Str.ofString "told",v)] fun y=>none) (Str.ofString "told")=some v:=by simp[bindL,kself,ktold]
  have ek:env.scope.kind=.function:=by rw[henv];rfl
  have en:env.scope.names=(⟨[(Str.ofString "self",NameKind.local),(Str.ofString "told",NameKind.local)],[]⟩:Nm).names:=by rw[henv];rfl
  have he':hh.get? e=some (d7 45 t none):=keep _ _ he;have Kin':(KK P).In hh:=fun a o q=>keep a o (Kin a o q);obtain⟨nm,q,N,bs,sn,sub,ab,col,dd,k0,k1,k2,k3,k5,hC⟩:=rD (P:=P);refine wpAny_mono (A:=A.deeper env) (Q:=fun fl s'=>fl=.next/\R (.ok (.ret .none)) s') (E:=eD) (M:=model prog w) ?_ (fun fl s' z=> ?_) fun y y z=>z.elim
  ·refine wpAny_execs_cons (jJ (X:=d0 prog w B P mg mb low) (nm:=⟨[(Str.ofString "self",NameKind.local),(Str.ofString "told",NameKind.local)],[]⟩) ⟨fun y y y=>rfl,fun y y y=>rfl,rfl⟩ ek en ?_)
   refine wpAny_Name (wpAny_loadName_local ek ktold hns mtold ?_) (by decide)
   show wpAny (model prog w) _ (do let ov<-holding [v] (eval (.Name (Str.ofString "self") {line:=13,col:=8,endLine:=13,endCol:=12}) env);standAt _;holding [v,ov] (PySem.setAttr ov (Str.ofString "told") v);release [v,ov] []) _ eD _
   refine aq (wpAny_holding (wpAny_Name (wpAny_loadName_local ek kself hns mself (aq (wpAny_standAt (aq (wpAny_holding ?_))))) (by decide)))
   refine va (K:=KK P) Kin' (Kin' _ _ hC) rfl rfl he' fun h' d tk' q1 q2=>wpAny_release' (wpAny_execs_nil ⟨rfl,?_⟩);exact hq h' d tk' q1 fun b o hb ho=>q2 b o hb (keep b o ho)
  ·obtain⟨rfl,z⟩:=z
   exact z
end
end
section
open PySem PySem.W PyProof.Rows
section
section
variable {M:Model}{A:Around}{E:Value->Shared->Prop}
noncomputable def Ds (h:Heap) (C fP:Addr) (bmB:List Value):Prop:=∃nm q N bs hdct sn sub ab col dd k0 k1 k2 k3 k5 newId,h.get? C=some (excClassObj nm q C N bs (.ref fP::bmB) hdct sn sub ab col dd k0 k1 k2 k3 k5 newId)
theorem pE {C fP:Addr}{bmB:List Value}{env:Env}
 {s:Shared} {x:Sem Value} {Q:Flow->Shared->Prop} (hbase:bmB.contains (.type "BaseException")=true) (hh:A.handled=none)
 (h:wpAny M A x (fun v aR=>u4 (fun e t dc=>v=.ref e) (fun e t dc=>Ds aR.heap C fP bmB) (fun e t dc=>aR.heap.get? e=some (d7 C t dc)) (fun e t dc=>E (.ref e) aR)) E s):
 wpAny M A (raiseStmt env (some x) none) Q E s:=by
 have hcB:=eh (C:=C) (fP:=fP) hbase;unfold raiseStmt;refine aq (wpAny_mono h (fun v aR ak=> ?_) fun y y x=>x);obtain⟨e,t,dc,rfl,⟨nm,q,N,bs,hdct,sn,sub,ab,col,dd,k0,k1,k2,k3,k5,newId,hC⟩,he,hE⟩:=ak;obtain⟨hp,g,d,tk,os⟩:=aR
 repeat (first | with_reducible refine wpAny_loadPart_at he ?_ | with_reducible refine wpAny_loadPart_at hC ?_ | (with_reducible refine wpAny_isSubtype_exc hC ?_;rw[hcB]) | wp_step)
 exact wpAny_raiseNew_none hh hE
end
section
variable {prog:Program}{w:World}{B:Heap}{P:Params}{mg mb:Str->Option Value}{low:cD (fun a o=>sysModules<a) (fun a o=>B.get? a=some o)}{A:Around}{E:Value->Shared->Prop}
structure Dq (h h':Heap) (e t:Addr):Prop where
 keeps:∀b o,h.get? b=some o->h'.get? b=some o
 enew:h.get? e=none
 tnew:h.get? t=none
 obj:∃d,h'.get? e=some (d7 45 t (some d))
include mg mb low in
theorem vi {env:Env}{s:Shared}{p1 p2 p3 p4:Pos}{msg:Str}{Q:Flow->Shared->Prop}(W:fO (d0 prog w B P mg mb low) gh)(hroom:A.depth+5<recursionLimit)(hh:A.handled=none)
 (base:∀a o,B.get? a=some o->s.heap.get? a=some o) (ek:env.scope.kind=.function) (kb:env.kindOf (Str.ofString "BadCall")=some .globalImplicit) (eg:env.globals=mainGlobals)
 (hE:∀h' e t tk',Dq s.heap h' e t->E (.ref e) {s with heap:=h',toks:=tk'}):
 wpAny (model prog w) A (PySem.exec (.Raise (some (.Call (.Name (Str.ofString "BadCall") p1) [.Constant (.str msg) 0 p2] [] p3)) none p4) env) Q E s:=by
 have Kin:(KK P).In s.heap:=fun a o q=>base a o (W.amb.kin a o q);obtain⟨nm,q,N,bs,sn,sub,ab,col,dd,k0,k1,k2,k3,k5,hC⟩:=rD (P:=P);have mB:mg (Str.ofString "BadCall")=some (.ref 45):=mg_of (K:=KK P) W.amb.kin W.g (show nsIn (KK P) mainGlobals (Str.ofString "BadCall")=some (some (.ref 45)) from rfl);rw[arm_exec_Raise];refine aq (wpAny_standAt ?_)
 show wpAny _ _ (raiseStmt env (some _) none) _ _ _
 refine pE (C:=45) (fP:=32) (bmB:=[.type "Exception",.type "BaseException",.type "object"]) (by decide) hh (aq ?_)
 refine Call_Name rfl (PySem.Calls.Name_function_global ek kb (PySem.Calls.loadGlobal_global (mg:=mg) (by rw[eg];exact W.g.keeps base) mB ?_) (by decide))
 refine callWith_of (P:=fun h=>(KK P).In h) rfl (keeps_K (K:=KK P) rfl) (eS rfl (wpAny_items_cons (wpAny_Constant_str (wpAny_items_nil ⟨Kin,?_⟩))));obtain⟨hp,g,d,tk,os⟩:=s
 dsimp only at Kin base
 show wpAny (model prog w) A (call (.ref 45) [Value.str msg tk]) _ _ ⟨hp,g,d,tk+1,os⟩
 refine wA (K:=KK P) PySem.F.excBase_Exception Kin (Kin _ _ hC) rfl rfl ?_ (by simp[sizeLine_eq])
 have k:∀b o,hp.get? b=some o->((hp.push (kB [Value.str msg tk])).push (d7 45 hp.objs.size none)).get? b=some o:=fun b o e=>Heap.get?_push_of_some _ (Heap.get?_push_of_some _ e);refine wpAny_call (xB (low:=low) (mg:=mg) (mb:=mb) (t:=hp.objs.size) ?_ (fun a o q=>k a o (Kin a o q)) ?_ (by heap_get) fun h' d' tk' q1 q2=>⟨rfl,?_⟩)
 ·show A.depth+1<_;omega
 ·exact W.nolimit.keeps fun a o q=>k a o (base a o q)
 ·refine aq (wpAny_standAt (aL ⟨_,_,_,rfl,⟨nm,q,N,bs,true,sn,sub,ab,col,dd,k0,k1,k2,k3,k5, "Exception.__new__",?_⟩,q1,hE h' _ hp.objs.size tk' ⟨fun b o hb=> ?_,?_,?_,⟨_,q1⟩⟩⟩))
  ·exact q2 _ _ (fun z=>by have:=Heap.lt_size (Kin _ _ hC);rw[z] at this;exact Nat.lt_irrefl _ (Nat.lt_of_succ_lt this)) (k _ _ (Kin _ _ hC))
  ·exact q2 _ _ (fun z=>by have:=Heap.lt_size hb;rw[z] at this;exact Nat.lt_irrefl _ (Nat.lt_of_succ_lt this)) (k _ _ hb)
  ·exact Heap.get?_none_of_le (Nat.le_succ _)
  ·exact Heap.get?_none_of_le (Nat.le_refl _)
end
end
end
section
open PySem PySem.W PyProof.Rows
section
variable {prog:Program}{w:World}{B:Heap}{P:Params}{mg mb:Str->Option Value}{low:cD (fun a o=>sysModules<a) (fun a o=>B.get? a=some o)}{A:Around}
structure tb (vP h:Heap) (envL:Env) (h':Heap) (e:Addr) (base:Heap) (t gU:Addr):Prop where
 fly:Heap.FlyingW base [envL] e (.ref 45) (.ref t) h'
 inb:∀b o,b≠envL.locals->b≠gU->h.get? b=some o->base.get? b=some o
 new9:vP.get? gU=none
 ns9:pA (fun o es ep=>h.get? gU=some o) (fun o es ep=>o.data=.dict es ep)
 upto:h.UpToSlots h'
theorem wp {envL:Env}{ρ:dM}{σ:H}{s:Shared}{v:V}{cf:Value}{R:Result->Shared->Prop}(W:fO (d0 prog w B P mg mb low) gh)(hroom:A.depth+10<recursionLimit)(hh:A.handled=none)
 (hfr:A.frames=some [envL]) (hLf:envL.frame=some envL.locals) (hLk:envL.scope.kind=.function) (hLn:∃m,s.heap.Ns envL.locals m) (hLr:∀p∈ρ,p.2≠envL.locals)
 (I:Inv (d0 prog w B P mg mb low) ρ σ s.heap) (r:VR (d0 prog w B P mg mb low) ρ s.heap v cf) (hfl:gS σ v 1 6=some (.bool true))
 (hq:∀ew h' e tk' base t gU,Go (d0 prog w B P mg mb low) [] ρ s ρ σ ew->tb s.heap ew.heap envL h' e base t gU->R (.error (.ref e)) {ew with heap:=h',toks:=tk'}):
 codeAny (model prog w) A (.call (.ref 147) ⟨[cf],[]⟩) R s:=by
 have FK:=i4 (prog:=prog) (w:=w) (B:=B) (P:=P) (mg:=mg) (mb:=mb) (low:=low);obtain⟨oc,od,osl,hobj⟩:=FK.obj;have Kin:(KK P).In s.heap:=fun a o q=>I.base a o (W.amb.kin a o q);have hBT:=FK.bind s [cf] Kin (Nat.le_refl 1) (Nat.le_refl 1);refine codeAny_call_function (by omega) (Kin _ _ hobj) rfl FK.co FK.gen FK.body (codeRec_of Kin FK.code) (hBT _ _ _ _ ?_)
 rw[FK.clo];refine wpAny_newFunctionEnv_cells FK.kind (fun x hx=> ?_) fun env henv s' J=> ?_
 ·rw[aB (show x∈[(Str.ofString "prog",cf)] from hx)];exact .inl rfl
 have keep:=J.toInCall.keep;obtain⟨ak,tk,rfl⟩:=J.toInCall.same;have hns:=J.toInCall.ns;have elocals:env.locals=s.heap.objs.size:=by rw[henv];rfl
 have eframe:env.frame=some s.heap.objs.size:=by rw[henv];rfl
 refine⟨(W.nolimit.keeps fun a o q=>keep a o (I.base a o q)),codeAny_func ?_⟩;have kprog:env.kindOf (Str.ofString "prog")=some .local:=by rw[henv];rfl
 have kb:env.kindOf (Str.ofString "BadCall")=some .globalImplicit:=by rw[henv];rfl
 have eg:env.globals=mainGlobals:=by rw[henv];rfl
 have ek:env.scope.kind=.function:=by rw[henv];rfl
 have mprog:(bindL env.kindOf [(Str.ofString "prog",cf)] fun y=>none) (Str.ofString "prog")=some cf:=by simp[bindL,kprog]
 have g0:Go (d0 prog w B P mg mb low) [] ρ s ρ σ {s with heap:=ak,toks:=tk}:=Go.grow I keep rfl rfl
 conv=>arg 3;arg 1;whnf
 refine wpAny_execs_cons (wpAny_If (wpAny_isTrue_value (Attribute_any_ (wpAny_Name (wpAny_loadName_local ek kprog hns mprog ?_) (by decide)) (qm rfl)) rfl))
 refine pW (X:=d0 prog w B P mg mb low) (s:={s with heap:=ak,toks:=tk}) W.amb (c:=1) (f:=6) rfl g0.inv (r.ext g0.ext) hfl fun dw d aZ fg=> ?_;refine dH (X:=d0 prog w B P mg mb low) (σ:=σ) (b:=true) aZ.inv fg rfl fun ew bZ=> ?_;have g:=(g0.trans aZ).trans bZ;rw[ap rfl];refine wpAny_execs_cons (vi (low:=low) W (by show A.depth+1+5<_;omega) hh g.inv.base ek kb eg fun h' e t tk' F=> ?_)
 obtain⟨d',he⟩:=F.obj;have hsz:∀a,s.heap.objs.size≤a->∀p∈ρ,p.2≠a:=fun a ha p hp z=>absurd (I.lt hp) (by rw[z];exact Nat.not_lt.mpr ha)
 have g23:=aZ.trans bZ
 obtain⟨o9,es9,ep9,ho9,hd9'⟩:pA (fun o es ep=>ew.heap.get? env.locals=some o) (fun o es ep=>o.data=.dict es ep):=by obtain⟨o,es,ep,ho,hd,_⟩:=hns;exact⟨o,es,ep,g23.ext.keep _ _ ho (hsz _ (by rw[elocals];exact Nat.le_refl _)) (fun z=>nomatch z),hd⟩
 have hd9:∀vs,o9.data≠ .fields vs:=fun vs q=>by rw[hd9'] at q;cases q
 obtain⟨oL,hoL,hdL⟩:bp (fun o=>ew.heap.get? envL.locals=some o) (fun o=>∀vs,o.data≠ .fields vs):=by obtain⟨m,o,es,ep,ho,hd,_⟩:=hLn;exact⟨o,g.ext.keep _ _ ho hLr (fun z=>nomatch z),fun vs q=>by rw[hd] at q;cases q⟩
 have hb9:(hideAll ew.heap [env.locals,envL.locals]).get? env.locals=none:=hideAll_none _ (.head _);have hbL:(hideAll ew.heap [env.locals,envL.locals]).get? envL.locals=none:=hideAll_none _ (.tail _ (.head _));have ekm:env.scope.kind≠ .module:=by rw[ek];decide
 have hLm:envL.scope.kind≠ .module:=by rw[hLk];decide
 have hen:(hideAll ew.heap [env.locals,envL.locals]).get? e=none:=by
  cases q:(hideAll ew.heap [env.locals,envL.locals]).get? e with
  | none=>rfl
  | some o=>have:=of_hideAll _ q;rw[F.enew] at this;cases this
 refine wpAny_leaving_firstW (base:=hideAll ew.heap [env.locals,envL.locals]) (a0:=.ref t) (Around.frames_deeper hfr)
  ⟨ekm,⟨env.locals,o9,by rw[eframe,elocals],hb9,F.keeps _ _ ho9,hd9⟩,hLm,⟨envL.locals,oL,hLf,hbL,F.keeps _ _ hoL,hdL⟩,trivial⟩ (by rw[eframe]) he (fun b o q=>F.keeps b o (of_hideAll _ q)) hen rfl rfl rfl fun h'' hL=> ?_
 obtain⟨k1,⟨_,_,k2⟩,k3,k4⟩:=hL;refine hq ew h'' e tk' _ t env.locals g ⟨⟨k1,hen,k2,k3⟩,fun b o hb hb9 ho=>hideAll_get _ ho fun hm=> ?_,by rw[elocals];exact cJ (Nat.le_refl _),⟨o9,es9,ep9,ho9,hd9'⟩,(Heap.UpToSlots.of_keeps F.keeps).trans k4⟩
 rcases a_ hm with z | hm
 ·exact hb9 z
 ·exact hb (aB hm)
end
end
section
open PySem PySem.W PyProof.Rows
section
variable {vP h h' base:Heap}{e t gU:Addr}
variable {X:Cx}{nm:Nm}{envL:Env}{en:En}{ρ:dM}{σ:H}
theorem tb.upto' (C:tb vP h envL h' e base t gU){tK:Heap}(hf:Heap.FlyingW base [envL] e (.ref 45) (.ref t) tK)(hu:h'.UpToSlots tK):tb vP h envL tK e base t gU:=
 ⟨hf,C.inb,C.new9,C.ns9,C.upto.trans hu⟩
theorem tb.ext (C:tb vP h envL h' e base t gU)(V:b_ X nm envL en ρ h):dY [envL.locals,gU] ρ ρ h h':=by
 obtain⟨m,oL,esL,epL,hoL,hdL,_⟩:=V.ns;obtain⟨o9,es9,ep9,ho9,hd9⟩:=C.ns9;have other:∀a o,a≠envL.locals->a≠gU->h.get? a=some o->h'.get? a=some o:=fun a o h1 h2 q=>C.fly.1 a o (C.inb a o h1 h2 q);refine⟨List.prefix_rfl,fun a o q=> ?_,fun a o q y hE=>other a o (fun z=>hE (by rw[z];exact .head _)) (fun z=>hE (by rw[z];exact .tail _ (.head _))) q,fun a o q hi=>other a o (fun z=> ?_) (fun z=> ?_) q,fun y hp=>.inl hp⟩
 ·by_cases h1:a=envL.locals
  ·subst h1
   obtain⟨sl,hs⟩:=C.upto _ _ hoL fun vs z=>by rw[hdL] at z;cases z
   exact⟨_,hs⟩
  ·by_cases h2:a=gU
   ·subst h2
    obtain⟨sl,hs⟩:=C.upto _ _ ho9 fun vs z=>by rw[hd9] at z;cases z
    exact⟨_,hs⟩
   ·exact⟨o,other a o h1 h2 q⟩
 ·subst z;rw[hoL] at q;cases q;exact hi.2.1 _ _ hdL
 ·subst z;rw[ho9] at q;cases q;exact hi.2.1 _ _ hd9
theorem tb.env (C:tb vP h envL h' e base t gU)(V:b_ X nm envL en ρ h)(own9:∀a,s9 envL a->a≠gU):b_ X nm envL en ρ h':=by
 have x:=C.ext V;have other:∀a o,a≠envL.locals->a≠gU->h.get? a=some o->h'.get? a=some o:=fun a o h1 h2 q=>C.fly.1 a o (C.inb a o h1 h2 q);refine⟨V.kind,V.names,V.gl,V.bu,fun a ha=> ?_,?_,fun y a ha=> ?_,fun j u y hj hy=> ?_,V.len,V.apart,V.off,V.celled⟩
 ·obtain⟨⟨o,q⟩,r⟩:=V.own a ha
  exact⟨x.alive a o q,r⟩
 ·obtain⟨m,hm⟩:=V.ns
  exact⟨m,C.upto.ns hm⟩
 ·obtain⟨w,o,ho,hd⟩:=V.cell y a ha
  exact⟨w,o,other a o (fun z=>V.off y (z▸ha)) (own9 a (.inr ⟨y,ha⟩)) ho,hd⟩
 ·obtain⟨d,hr,rd⟩:=V.reads j u y hj hy
  refine⟨d,?_,rd.ext x⟩;rcases hr with⟨hl,m,hm,hd⟩ | ⟨hc,a,ha,o,ho,hd⟩
  ·exact .inl ⟨hl,m,C.upto.ns hm,hd⟩
  ·exact .inr ⟨hc,a,ha,o,other a o (fun z=>V.off y (z▸ha)) (own9 a (.inr ⟨y,ha⟩)) ho,hd⟩
end
end
section
open PySem PySem.W PyProof.Rows
section
variable {call:bV}{N k r:Nat}{en:En}{σ:H}
variable {prog:Program}{w:World}{B:Heap}{P:Params}{mg mb:Str->Option Value}{low:cD (fun a o=>sysModules<a) (fun a o=>B.get? a=some o)}{A:Around}
theorem D1 {β:Type}{o:Option (Option V)}{g:V->Option β}{r:β}(h:(match o with | some (some v)=>g v | _=>none)=some r):∃v,o=some (some v)/\g v=some r:=by
 cases o with
 | none=>exact nn h
 | some o=>cases o with
   | none=>exact nn h
   | some v=>exact⟨v,rfl,h⟩
theorem D3 {β:Type}{o:Option V}{g:Option β}{r:β}(h:(match o with | some (.bool true)=>g | _=>none)=some r):o=some (.bool true)/\g=some r:=by
 cases o with
 | none=>exact nn h
 | some v=>cases v with
   | bool b=>cases b with
     | true=>exact⟨rfl,h⟩
     | false=>exact nn h
   | _=>exact nn h
theorem At {q:Fl×En×H}(e:Mine.exec call N (.tryRefused k r) en σ=some q):∃o,en[k]?=some (some o)/\gS σ o 1 6=some (.bool true)/\r<en.length/\(Fl.next,en.set r (some (.bool true)),σ)=q:=by obtain⟨o,h1,e⟩:=D1 e;obtain⟨h2,e⟩:=D3 e;obtain⟨h3,e⟩:=oi e;exact⟨o,h1,h2,h3,sj e⟩
theorem CG {nm:Nm}{envL:Env}{ρ:dM}{s:Shared}{fl:Fl}{en':En}{σ':H}{Q:Flow->Shared->Prop}{p1 p2 p3 p4 p5 p6 p7 p8 p9 p10:Pos}{kk:Nat}(W:fO (d0 prog w B P mg mb low) gh)(hroom:A.depth+10<recursionLimit)(hh:A.handled=none)
 (hfr:A.frames=some [envL]) (hLf:envL.frame=some envL.locals)
 (V:b_ (d0 prog w B P mg mb low) nm envL en ρ s.heap) (I:Inv (d0 prog w B P mg mb low) ρ σ s.heap)
 (hks:nm.slots[k]?=some (some (Str.ofString "flat"))) (hrs:nm.slots[r]?=some (some (Str.ofString "is_refused"))) (hrk:nm.names.lookup (Str.ofString "is_refused")=some .local\/nm.names.lookup (Str.ofString "is_refused")=some .cell) (hro:dQ nm r (Str.ofString "is_refused")=true)
 (hkb:nm.names.lookup (Str.ofString "BadCall")=some .globalImplicit) (hkw:nm.names.lookup (Str.ofString "without_nops")=some .globalImplicit)
 (e:Mine.exec call N (.tryRefused k r) en σ=some (fl,en',σ'))
 (h:∀ρ' s',Go (d0 prog w B P mg mb low) (gx envL) ρ s ρ' σ' s'->b_ (d0 prog w B P mg mb low) nm envL en' ρ' s'.heap->fl=.next->Q .next s'):
 wpAny (model prog w) A (PySem.exec (.Try [.Expr (.Call (.Name (Str.ofString "without_nops") p1) [.Name (Str.ofString "flat") p2] [] p3) p4]
  [.ExceptHandler (some (.Name (Str.ofString "BadCall") p5)) none [.Assign [.Name (Str.ofString "is_refused") p6] (.Constant (.bool true) kk p7) p8] p9] [] [] p10) envL) Q eD s:=by
 obtain⟨o,hko,hfl,hrl,e⟩:=At e;cases e;have Kin:(KK P).In s.heap:=fun a o q=>I.base a o (W.amb.kin a o q);refine wpAny_Try_except (wpAny_execs_cons (wpAny_Expr ?_ (eH V.kind)));refine Call_Name rfl (nB (X:=d0 prog w B P mg mb low) (g:=.fn 9) W I V hkw rfl (by decide) fun c hc=> ?_)
 subst hc;refine callWith_of (P:=fun h=>(KK P).In h) rfl (keeps_K (K:=KK P) rfl) (eS rfl (wpAny_items_cons (wu (X:=d0 prog w B P mg mb low) V hko hks (by decide) fun c rc=>(wpAny_items_nil ⟨Kin,?_⟩))))
 have hLn:∃m,s.heap.Ns envL.locals m:=V.ns;have hLr:∀p∈ρ,p.2≠envL.locals:=(V.own _ (.inl rfl)).2.1;have hLB:B.get? envL.locals=none:=(V.own _ (.inl rfl)).2.2;refine wpAny_call (wp W hroom hh hfr hLf V.kind hLn hLr I rc hfl fun ew d5 ea tk base t gU g C=> ?_);have pT:b_ (d0 prog w B P mg mb low) nm envL en ρ ew.heap:=V.go g;have own9:∀a,s9 envL a->a≠gU:=fun a ha z=>(V.own a ha).1.elim fun o q=>nn (C.new9.symm.trans ((ag _ z).symm.trans q))
 show wpAny (model prog w) A (noteFrame (.ref ea) envL) _ _ _
 refine wpAny_looks_onW hfr hLf C.fly fun xF hheld₄ hsm₄=> ?_;refine wpAny_landsW hheld₄ fun Bx hheld hsm₅'=> ?_;have notL:∀b o,B.get? b=some o->b≠envL.locals:=fun b o q z=>nn (hLB.symm.trans ((ag _ z).symm.trans q));have not9:∀b o,B.get? b=some o->b≠gU:=fun b o q z=>nn (C.new9.symm.trans ((ag _ z).symm.trans (I.base _ o q)));have C₅':∀b o,b≠envL.locals->b≠gU->ew.heap.get? b=some o->Bx.get? b=some o:=fun b o h1 h2 q=>hheld.1 b o (C.inb b o h1 h2 q);have base₅:∀b o,B.get? b=some o->Bx.get? b=some o:=fun b o q=>C₅' b o (notL b o q) (not9 b o q) (g.inv.base b o q);have Kin₅:(KK P).In Bx:=fun a o q=>base₅ a o (W.amb.kin a o q);obtain⟨ob,hob,hobc⟩:=hheld.there;have mB:mg (Str.ofString "BadCall")=some (.ref 45):=mg_of (K:=KK P) W.amb.kin W.g (show nsIn (KK P) mainGlobals (Str.ofString "BadCall")=some (some (.ref 45)) from rfl);refine wpAny_handleBy_cons (codeAny_handlers_test (PySem.Calls.Name_function_global V.kind ((V.kindOf _).trans hkb) (PySem.Calls.loadGlobal_global (mg:=mg) (by rw[V.gl];exact W.g.keeps base₅) mB ?_) (by decide))) (by intro q;cases q)
 obtain⟨nm',q,N,bs,sn,sub,ab,col,dd,k0,k1,k2,k3,k5,hC⟩:=rD (P:=P);refine wpAny_excMatches_sub_self (Kin₅ _ _ hC) hob hobc (by decide) (codeAny_handlers_suite ?_)
 refine lands_againW hheld fun tK hfl₆ hsm₆=> ?_;have Du:=C.upto' hfl₆ ((hsm₄.trans hsm₅').trans hsm₆);have CC:=Du.ext pT;have Er:=Du.env pT own9;have keep₆:∀b o,b≠envL.locals->b≠gU->ew.heap.get? b=some o->tK.get? b=some o:=fun b o h1 h2 q=>hfl₆.1 b o (C.inb b o h1 h2 q);have Cj:Inv (d0 prog w B P mg mb low) ρ σ tK:=g.inv.ext CC (fun p hp=> ?_) fun b o q=>keep₆ b o (notL b o q) (not9 b o q) (g.inv.base b o q)
 rotate_left
 ·obtain⟨i,o',h1,h2,r'⟩:=g.inv.atρ hp
  obtain⟨b',hb',_⟩:=r'.body;obtain⟨i',o'',h1',h2',r''⟩:=I.atρ hp;obtain⟨b'',hb'',_⟩:=r''.body;rw[hb'];exact keep₆ _ _ (hLr p hp) (fun z=>by rw[z,C.new9] at hb'';cases hb'') hb'
 refine wpAny_mono (E:=eD) (A:=A.mark (some (.ref ea))) ?_ (fun y y z=>z) fun y y z=>z.elim;refine wpAny_execs_cons (jJ (X:=d0 prog w B P mg mb low) ⟨fun y y y=>rfl,fun y y y=>rfl,rfl⟩ V.kind V.names (wpAny_Constant_bool ?_));rw[PySem.assign_Name];refine aq (wpAny_standAt (qx (X:=d0 prog w B P mg mb low) Er Cj hrs hrk hro (.bool true) fun s' g' V'=>wpAny_execs_nil ?_));have gt:Go (d0 prog w B P mg mb low) [envL.locals,gU] ρ s ρ σ {ew with heap:=tK,toks:=tk}:=⟨Cj,(g.of_nil.ext).trans CC,g.gens,g.os⟩;refine h ρ s' (Go.trans ⟨Cj,gt.ext.drop fun a ha=> ?_,g.gens,g.os⟩ g') V' rfl;rcases a_ ha with z | ha
 ·exact .inl (um (.inl z))
 ·rw[aB ha];exact .inr C.new9
end
end
section
open PySem PySem.W PyProof.Rows
section
variable {sts:List Stmt}{xs:dz}
variable {X:Cx}{gl:List (Str×G)}{nm:Nm}{A:Around}{call:bV}{env:Env}
variable (X gl nm A call env) in
structure AB (sts:List Stmt) (xs:dz):Prop where
 ok:eX X gl A call->∀ (N:Nat) (en:En) (ρ:dM) (σ:H) (s:Shared) (fl:Fl) (en':En) (σ':H) (Q:Flow->Shared->Prop),b_ X nm env en ρ s.heap->Inv X ρ σ s.heap->
 execs call N xs en σ=some (fl,en',σ')->(∀ρ' s' f,Go X (gx env) ρ s ρ' σ' s'->b_ X nm env en' ρ' s'.heap->rO X ρ' s'.heap fl f->Q f s')->wpAny (model X.prog X.w) A (PySem.execs sts env) Q eD s
theorem CS (h:ij X gl nm A call sts xs):AB X gl nm A call env sts xs:=.mk fun Hh N en ρ σ s fl en' σ' Q V I e k=>h.ok Hh N env en ρ σ s fl en' σ' Q V I e k
theorem AB.of {st:List Stmt}{x:dz}(H:eX X gl A call->∀ (N:Nat) (en:En) (ρ:dM) (σ:H) (s:Shared) (Q:Flow->Shared->Prop),b_ X nm env en ρ s.heap->Inv X ρ σ s.heap->∀r,execs call N x en σ=some r->
 (∀ρ' s' f,Go X (gx env) ρ s ρ' r.2.2 s'->b_ X nm env r.2.1 ρ' s'.heap->rO X ρ' s'.heap r.1 f->Q f s')->wpAny (model X.prog X.w) A (PySem.execs st env) Q eD s):AB X gl nm A call env st x:=⟨fun Hh N en ρ σ s fl en' σ' Q V I e h=>H Hh N en ρ σ s Q V I (fl,en',σ') e h⟩
theorem ck {st:Stmt}{x:St}(h1:rH X gl nm A call st x)(h2:AB X gl nm A call env sts xs):AB X gl nm A call env (st::sts) (.cons x xs):=.of fun Hh N en ρ σ s Q V I r e h=>by
 refine wpAny_execs_cons ?_;rcases Bi e with⟨bt,aQ,hx,e'⟩ | ⟨hx,hn⟩
 ·exact h1.ok Hh N env en ρ σ s .next bt aQ _ V I hx fun aT aR f aI iP hf=>by
   cases hf.nextL;exact h2.ok Hh N bt aT aQ aR r.1 r.2.1 r.2.2 Q iP aI.inv e' fun ρ' s' f aZ ms hf=>h _ _ _ (aI.trans aZ) ms hf
 ·refine h1.ok Hh N env en ρ σ s r.1 r.2.1 r.2.2 _ V I hx fun aT aR f aI iP hf=> ?_
  have hf':=h _ _ _ aI iP hf;cases f with
  | next=>exact(hn r.2.1 r.2.2 (Prod.ext hf.nextR rfl)).elim
  | _=>exact hf'
end
section
variable {prog:Program}{w:World}{B:Heap}{P:Params}{mg mb:Str->Option Value}{low:cD (fun a o=>sysModules<a) (fun a o=>B.get? a=some o)}{A:Around}{call:bV}{env:Env}
theorem A7 {nm:Nm}{k r:Nat}{p1 p2 p3 p4 p5 p6 p7 p8 p9 p10:Pos}{kk:Nat}{sts:List Stmt}{xs:dz}(W:fO (d0 prog w B P mg mb low) gh)(hfr:A.frames=some [env])(hLf:env.frame=some env.locals)(hroom:A.depth+10<recursionLimit)(hh:A.handled=none)
 (hks:nm.slots[k]?=some (some (Str.ofString "flat"))) (hrs:nm.slots[r]?=some (some (Str.ofString "is_refused"))) (hrk:nm.names.lookup (Str.ofString "is_refused")=some .local\/nm.names.lookup (Str.ofString "is_refused")=some .cell) (hro:dQ nm r (Str.ofString "is_refused")=true)
 (hkb:nm.names.lookup (Str.ofString "BadCall")=some .globalImplicit) (hkw:nm.names.lookup (Str.ofString "without_nops")=some .globalImplicit)
 (h2:AB (d0 prog w B P mg mb low) gh nm A call env sts xs):
 AB (d0 prog w B P mg mb low) gh nm A call env (.Try [.Expr (.Call (.Name (Str.ofString "without_nops") p1) [.Name (Str.ofString "flat") p2] [] p3) p4]
  [.ExceptHandler (some (.Name (Str.ofString "BadCall") p5)) none [.Assign [.Name (Str.ofString "is_refused") p6] (.Constant (.bool true) kk p7) p8] p9] [] [] p10::sts) (.cons (.tryRefused k r) xs):=.of fun Hh N en ρ σ s Q V I q e h=>by
 refine wpAny_execs_cons ?_;rcases Bi e with⟨bt,aQ,hx,e'⟩ | ⟨hx,hn⟩
 ·exact CG (N:=N) (call:=call) W hroom hh hfr hLf V I hks hrs hrk hro hkb hkw hx fun aT aR aI iP y=>h2.ok Hh N bt aT aQ aR q.1 q.2.1 q.2.2 Q iP aI.inv e' fun ρ' s' f aZ ms hf=>h _ _ _ (aI.trans aZ) ms hf
 ·exact(At hx).elim fun o z=>(hn _ _ z.2.2.2.symm).elim
noncomputable def tC (P:Params):Nm:={names:=(cA (KK P) 268).scope.names,slots:=[some (Str.ofString "script"),some (Str.ofString "_law_rest"),some (Str.ofString "_law_octets"),none,some (Str.ofString "cells"),some (Str.ofString "start"),some (Str.ofString "loose"),some (Str.ofString "marks"),some (Str.ofString "prefix"),some (Str.ofString "is_led"),some (Str.ofString "length"),none,some (Str.ofString "text"),some (Str.ofString "holds"),some (Str.ofString "prog"),some (Str.ofString "many"),some (Str.ofString "cell"),some (Str.ofString "ahead"),some (Str.ofString "led"),some (Str.ofString "net"),some (Str.ofString "flat"),some (Str.ofString "due"),some (Str.ofString "one"),some (Str.ofString "is_refused")]}
theorem A2 (W:fO (d0 prog w B P mg mb low) gh)(hfr:A.frames=some [env])(hLf:env.frame=some env.locals)(hroom:A.depth+10<recursionLimit)(hh:A.handled=none):AB (d0 prog w B P mg mb low) gh (tC P) A call env (bl (cA (KK P) 268)) uQ:=
 (ck (aG (bw (af (aX _) (af (aX _) (af (aX _) (af (aX _) (af (aX _) (af (aX _) (af (aX _) aA)))))))) (bc 1 rfl (.inl rfl) rfl))
 (ck (aG (bw (af (aX _) (af (aX _) (af (aX _) (af (aX _) (af (aX _) (af (aX _) aA))))))) (bc 2 rfl (.inr rfl) rfl))
 (ck (lG [none,none,none,some (Str.ofString "cell"),none,none,none,none,none,none,none,none,none,none,none,none,none,none,none,none,none,none,none,none] rfl (fun y y=>rfl) (jS (aa 0) (aX _)) (b8 rfl (zO rfl rfl rfl rfl (aa 3)) (b8 rfl (aX _) (aX _))) rfl rfl rfl rfl)
 (ck (aG (b8 rfl (aa 4) (jz (aa 1) (fk rfl rfl rfl rfl (aa 4)))) (bc 4 rfl (.inl rfl) rfl))
 (ck (ei ⟨fun y y y=>rfl,(fun y y y=>rfl),rfl⟩ (bj rfl rfl rfl (af (bM (fun y y=>rfl) (aa 4) (aX _)) (af (bw (af (aX _) (af (aX _) (af (aX _) (af (aX _) (af (aX _) (af (aX _) aA))))))) aA))) (bB rfl (bc 5 rfl (.inl rfl) rfl) (bB rfl (bc 6 rfl (.inl rfl) rfl) (bB rfl (bc 7 rfl (.inl rfl) rfl) (bB rfl (bc 8 rfl (.inl rfl) rfl) (bB rfl (bc 9 rfl (.inl rfl) rfl) (bB rfl (bc 10 rfl (.inl rfl) rfl) fY)))))))
 (ck (aG (vZ rfl rfl rfl rfl (mj [none,none,some (Str.ofString "_law_octets"),none,none,none,none,none,none,none,none,some (Str.ofString "digit"),none,none,none,none,none,none,none,none,none,none,none,none] rfl (fun y y=>rfl) (bj rfl rfl rfl (af (bM (fun y y=>rfl) (aa 4) (aX _)) (af (b8 rfl (bw (af (aX _) aA)) (aa 10)) aA))) (bM (fun y y=>rfl) (aa 2) (aa 11)))) (bc 12 rfl (.inl rfl) rfl))
 (ck (aG (bj rfl rfl rfl (af (bM (fun y y=>rfl) (aa 4) (aX _)) (af (b8 rfl (bw (af (aX _) aA)) (aX _)) aA))) (bc 13 rfl (.inl rfl) rfl))
 (ck (fZ (fun y y y=>rfl) (fun⟨⟨_,_,_,_,_⟩,_,_,_,_,_,_,_,_⟩ hk hn=>by cases hk;cases hn;rfl) rfl rfl rfl rfl rfl rfl (by decide) (bY (by decide) (af (gH (by decide) rfl rfl rfl aA) (af (b8 rfl (fk rfl rfl rfl rfl (aa 4)) (aX _)) aA))))
 (ck (dZ (fun y y=>rfl) rfl (.inl rfl) rfl (jz (aa 4) (aX _)) (ai (cj rfl rfl (ar (aa 14)) (bj rfl rfl rfl (af (fk rfl rfl rfl rfl (ar (aa 14))) (af (aa 15) (af (aa 16) aA)))))
 ay))
 (ck (cj rfl rfl (ar (aa 14)) (gH (by decide) rfl rfl rfl (af aV aA)))
 (ck (ei ⟨fun y y y=>rfl,(fun⟨⟨_,_,_,_,_⟩,_,_,_,_,_,_,_,_⟩ hk hn=>by cases hk;cases hn;rfl),rfl⟩ (bY (by decide) (af (b8 rfl (b8 rfl (aX _) (aa 5)) (aa 15)) (af (b8 rfl (b8 rfl (aX _) (aa 6)) (aa 15)) aA))) (bB rfl (bQ (aa 14)) (bB rfl (bQ (aa 14)) fY)))
 (ck (ei ⟨fun y y y=>rfl,(fun⟨⟨_,_,_,_,_⟩,_,_,_,_,_,_,_,_⟩ hk hn=>by cases hk;cases hn;rfl),rfl⟩ (bY (by decide) (af (bG rfl (b8 rfl (aa 7) (aX _)) (aE rfl (aX _))) (af (bG rfl (b8 rfl (b8 rfl (aa 7) (aX _)) (aX _)) (aE rfl (aX _))) aA))) (bB rfl (bQ (aa 14)) (bB rfl (bQ (aa 14)) fY)))
 (ck (ei ⟨fun y y y=>rfl,(fun⟨⟨_,_,_,_,_⟩,_,_,_,_,_,_,_,_⟩ hk hn=>by cases hk;cases hn;rfl),rfl⟩ (bY (by decide) (af (bG rfl (b8 rfl (b8 rfl (aa 7) (aX _)) (aX _)) (aE rfl (aX _))) (af (bG rfl (b8 rfl (aa 7) (aX _)) (aE rfl (aX _))) aA))) (bB rfl (bQ (aa 14)) (bB rfl (bQ (aa 14)) fY)))
 (ck (aG (jS (uK) (aa 8)) (bQ (aa 14)))
 (ck (aG (bj rfl rfl rfl (af (aa 14) aA)) (bc 17 rfl (.inl rfl) rfl))
 (ck (aG (bj rfl rfl rfl (af (aa 14) aA)) (bc 18 rfl (.inl rfl) rfl))
 (ck (cG (lJ (c_ (bG rfl (bj rfl rfl rfl (af (aa 14) aA)) (aE rfl (aa 17))) (be rfl (bj rfl rfl rfl (af (aa 14) aA)) (aE rfl (aa 17))) (c_ (bG rfl (bj rfl rfl rfl (af (aa 18) aA)) (aE rfl (bj rfl rfl rfl (af (aa 14) aA)))) (be rfl (bj rfl rfl rfl (af (aa 18) aA)) (aE rfl (bj rfl rfl rfl (af (aa 14) aA)))) (ez (ar (aa 18)) (d9 (ar (aa 18)) (fun y y=>rfl)))))) (ai (bI (bU _))
 ay) ay)
 (ck (cG (lJ (c_ (bG rfl (fk rfl rfl rfl rfl (ar (aa 18))) (aE rfl (aa 15))) (be rfl (fk rfl rfl rfl rfl (ar (aa 18))) (aE rfl (aa 15))) (ez (bj rfl rfl rfl (af (aa 18) aA)) (d9 (bj rfl rfl rfl (af (aa 18) aA)) (fun y y=>rfl))))) (ai (bI (bU _))
 ay) ay)
 (ck (aG (sO (be rfl (aa 9) (aE rfl (aX _))) (aa 18) (aa 14)) (bc 19 rfl (.inl rfl) rfl))
 (ck (aG (bj rfl rfl rfl (af (aa 19) aA)) (bc 17 rfl (.inl rfl) rfl))
 (ck (aG (bj rfl rfl rfl (af (aa 19) aA)) (bc 20 rfl (.inl rfl) rfl))
 (ck (cG (lJ (c_ (bG rfl (bj rfl rfl rfl (af (aa 19) aA)) (aE rfl (aa 17))) (be rfl (bj rfl rfl rfl (af (aa 19) aA)) (aE rfl (aa 17))) (ez (qo (bj rfl rfl rfl (af (aa 20) (af (aa 19) aA)))) (ku (d9 (bj rfl rfl rfl (af (aa 20) (af (aa 19) aA))) (fun y y=>rfl)))))) (ai (bI (bU _))
 ay) ay)
 (ck (aG (bw (af (bj rfl rfl rfl (af (aa 14) (af (ar (aa 14)) (af (aa 12) (af (aa 13) aA))))) (af (bj rfl rfl rfl (af (aa 14) (af (ar (aa 14)) (af (aa 12) (af (aa 13) aA))))) aA))) (bc 21 rfl (.inl rfl) rfl))
 (ck (dZ (fun y y=>rfl) rfl (.inl rfl) rfl (bY (by decide) (af (aa 18) (af (aa 20) aA))) (ai (cG (be rfl (bw (af (bj rfl rfl rfl (af (aa 22) (af (ar (aa 22)) (af (aa 12) (af (aa 13) aA))))) (af (bj rfl rfl rfl (af (aa 22) (af (ar (aa 22)) (af (aa 12) (af (aa 13) aA))))) aA))) (aE rfl (aa 21))) (ai (bI (bU _))
 ay) ay)
 ay))
 (ck (fZ (fun y y y=>rfl) (fun⟨⟨_,_,_,_,_⟩,_,_,_,_,_,_,_,_⟩ hk hn=>by cases hk;cases hn;rfl) rfl rfl rfl rfl rfl rfl (by decide) (bY (by decide) (af (bj rfl rfl rfl (af (aa 20) aA)) (af (bU _) aA))))
 (A7 W hfr hLf hroom hh rfl rfl (.inl rfl) rfl rfl rfl
 (CS (ai (bI (xX (cC (aa 23) (d9 (aa 23) (fun y y=>rfl)) (cC (bG rfl (bj rfl rfl rfl (af (aa 20) aA)) (aE rfl (aa 20))) (be rfl (bj rfl rfl rfl (af (aa 20) aA)) (aE rfl (aa 20))) (cU (bG rfl (bj rfl rfl rfl (af (aa 20) aA)) (aE rfl (aa 17))) (be rfl (bj rfl rfl rfl (af (aa 20) aA)) (aE rfl (aa 17))))))))
 ay))))))))))))))))))))))))))))
end
end
section
open PySem PySem.W PyProof.Rows
section
theorem law_walk {prog:Program}{w:World}{P:Params}{aR:Shared}{ak:Heap}{tk:Nat}{mg mb:Str->Option Value}{fa l:Addr}{cd:Value}{m:Str->Option Value}{vs:List Value}{script:List Int}{oc:Obj}{ov:Option Value}
 (KX:(KK P).In aR.heap) (G:aR.heap.Ns mainGlobals mg) (b:aR.heap.Ns builtinsNs mb) (nl:aR.heap.NoLimit) (hb:∀x:Str,x≠ "__name__" ->mb x=bootBuiltins x)
 (hf:dU (fun a vs=>mg (Str.ofString "FLATTEN_STEPS")=some (.ref a)) (fun a vs=>IsTup aR.heap a (List.toArray vs)) (fun a vs=>IntsAre vs [1,2,3]))
 (F:Fr aR.heap aR.heap.objs.size ak m) (hm:m (Str.ofString "script")=some (.ref l)) (hL:aR.heap.IsList l vs.toArray) (hI:IntsAre vs script)
 (hc:ak.get? (aR.heap.objs.size+1)=some oc) (hcd:oc.data=.cell ov)
 (hB:mR (fun N en' σ'=>Mine.execs (av aw N 10) N uQ (some (.flist (script.map .int))::List.replicate 23 none) []=some (.ret (.bool true),en',σ'))):
 wpAny (model prog w) (callerA.deeper (envOfC (Str.ofString "law") (cA (KK P) 268).scope aR.heap.objs.size fa cd)) (PySem.execs (bl (cA (KK P) 268)) (envOfC (Str.ofString "law") (cA (KK P) 268).scope aR.heap.objs.size fa cd))
  (fun f s'=>f=.ret (.bool true)/\(∀b o,aR.heap.get? b=some o->s'.heap.get? b=some o)/\s'.gens=aR.gens/\s'.os=aR.os) eD {aR with heap:=ak,toks:=tk}:=by
 obtain⟨N,en',σ',hB⟩:=hB;have low:cD (fun a o=>sysModules<a) (fun a o=>aR.heap.get? a=some o):=⟨268,_,by decide,KX _ _ rfl⟩
 have W:fO (d0 prog w aR.heap P mg mb low) gh:=AV KX G b nl hb hf;have PP:uW (d0 prog w aR.heap P mg mb low) gh aw:=CY W;have Hh:eX (d0 prog w aR.heap P mg mb low) gh (callerA.deeper (envOfC (Str.ofString "law") (cA (KK P) 268).scope aR.heap.objs.size fa cd)) (av aw N 10):=zA PP (n:=10) rfl (by show 4+3+10*10+60<9900;decide) (by show 1+300+1+3*10+3<1000;decide)
 have I:Inv (d0 prog w aR.heap P mg mb low) [] [] ak:=⟨rfl,fun i o p e=>by simp at e,List.nodup_nil,fun p hp=>(nomatch hp),fun p hp=>(nomatch hp),F.keep⟩
 have cells:(envOfC (Str.ofString "law") (cA (KK P) 268).scope aR.heap.objs.size fa cd).cells=[(Str.ofString "_law_octets",aR.heap.objs.size+1)]:=rfl
 have cl:∀x a,(envOfC (Str.ofString "law") (cA (KK P) 268).scope aR.heap.objs.size fa cd).cells.lookup x=some a->x=Str.ofString "_law_octets" /\a=aR.heap.objs.size+1:=fun x a q=>by have:=mem_of_lookup q;rw[cells] at this;have:=aB this;cases this;exact⟨rfl,rfl⟩
 have fresh:∀a,aR.heap.objs.size≤a->aR.heap.get? a=none:=fun a ha=>cJ ha
 have V:b_ (d0 prog w aR.heap P mg mb low) (tC P) (envOfC (Str.ofString "law") (cA (KK P) 268).scope aR.heap.objs.size fa cd) (some (.flist (script.map .int))::List.replicate 23 none) [] ak:=by
  refine⟨rfl,rfl,rfl,rfl,fun a ha=> ?_,⟨m,F.ns⟩,fun x a q=> ?_,fun j v x hj hx=> ?_,rfl,fun x y a q1 q2=>(cl x a q1).1.trans (cl y a q2).1.symm,fun x q=> ?_,fun x q=> ?_⟩
  ·rcases ha with rfl | ⟨x,q⟩
   ·obtain⟨o,_,_,ho,_⟩:=F.ns
    exact⟨⟨o,ho⟩,fun p hp=>(nomatch hp),fresh _ (Nat.le_refl _)⟩
   ·obtain⟨_,rfl⟩:=cl x a q
    exact⟨⟨oc,hc⟩,fun p hp=>(nomatch hp),fresh _ (Nat.le_succ _)⟩
  ·obtain⟨_,rfl⟩:=cl x a q
   exact⟨ov,oc,hc,hcd⟩
  ·match j,hj with
   | 0,hj=>
     cases hj
     have:x=Str.ofString "script" :=by have:some (some (Str.ofString "script"))=some (some x):=hx;cases this;rfl
     subst this;refine⟨.ref l,.inl ⟨rfl,m,F.ns,hm⟩,.flist hL (uB hI)⟩
   | j+1,hj=>
     rw[List.getElem?_cons_succ,List.getElem?_replicate] at hj
     split at hj<;>cases hj
  ·exact absurd (cl x _ q).2 (by show aR.heap.objs.size≠_;lia)
  ·have hm':((tC P).names.all fun p=>p.2 != .free&&(p.2 != .cell || p.1==Str.ofString "_law_octets"))=true:=rfl
   have key:x=Str.ofString "_law_octets" :=by
    rcases q with q | q
    ·have:=List.all_eq_true.mp hm' _ (mem_of_lookup q)
     simpa using this
    ·have:=List.all_eq_true.mp hm' _ (mem_of_lookup q)
     simp at this
   subst key;exact⟨_,rfl⟩
 have S:=A2 (prog:=prog) (w:=w) (P:=P) (mg:=mg) (mb:=mb) (low:=low) (A:=callerA.deeper (envOfC (Str.ofString "law") (cA (KK P) 268).scope aR.heap.objs.size fa cd)) (call:=av aw N 10) W (env:=envOfC (Str.ofString "law") (cA (KK P) 268).scope aR.heap.objs.size fa cd) rfl rfl (by show 1+300+1+10<1000;decide) rfl
 refine S.ok Hh N _ [] [] {aR with heap:=ak,toks:=tk} _ en' σ' _ V I hB fun ρ' s' f g V' hfl=> ?_;cases hfl with
 | ret r=>exact⟨by rw[r.bool_inv],fun b o q=>g.ext.keep b o (F.keep b o q) (fun p hp=>(nomatch hp)) (fun hown=>by
  have:aR.heap.objs.size≤b:=by
   rcases qR hown with rfl | ⟨x,q⟩
   ·exact Nat.le_refl _
   ·rw[(cl x b q).2];exact Nat.le_succ _
  exact absurd (Heap.lt_size q) (Nat.not_lt.mpr this)),g.gens,g.os⟩
end
end
section
variable {f s u m c n:Nat}
section
structure I where
 op:Int
 out:Int
 arg:Int
 low:Int
 high:Int
 fold:Bool
 last:Bool
noncomputable def I.fs (i:I):List V:=[.int i.op,.int i.out,.int i.arg,.int i.low,.int i.high,.bool i.fold,.bool i.last]
theorem bC (h:H)(o:O)(r:List O):(h++o::r)[h.length]?=some o:=by simp
theorem bz (h:H)(r:List O)(k:Nat):(h++r)[h.length+k]?=r[k]?:=by rw[List.getElem?_append_right (by lia)];congr 1;lia
theorem fw (h:H)(r:List O)(o:O):(h++r).set h.length o=h++r.set 0 o:=by rw[List.set_append_right _ _ (Nat.le_refl _)];simp
theorem eV (h:H)(r:List O)(k:Nat)(o:O):(h++r).set (h.length+k) o=h++r.set k o:=by rw[List.set_append_right _ _ (by lia)];congr 2;lia
theorem Cu {w:Nat}(h:s+1+c*(u-m)<f)(k:m+1≤u)(hw:w≤c):w+s+c*(u- (m+1))+1<f:=by
 obtain⟨x,rfl⟩:=Nat.le.dest k;rw[Nat.add_sub_cancel_left];rw[Nat.add_assoc m,Nat.add_sub_cancel_left,Nat.mul_add] at h
 lia
theorem E5 (h:s+1+c*(u-m)<f)(k:m+1≤u)(hc:1≤c):s+1+c*(u- (m+1))+1<f:=Nat.add_comm 1 s▸Cu h k hc
theorem EZ {o j s' o':Nat}(h:s+1+2*(n-o)<f)(e1:o'=o+j)(e2:s'=s+j)(k:o'≤n):s'+2*(n-o')+1<f:=by
 subst e1 e2;obtain⟨x,rfl⟩:=Nat.le.dest k;rw[Nat.add_sub_cancel_left];rw[Nat.add_assoc o,Nat.add_sub_cancel_left] at h
 lia
theorem Ct (h:s+1+c*(u-m)<f)(k:m+1≤u):s+c*(u- (m+1))+1<f:=Nat.zero_add s▸Cu h k (Nat.zero_le c)
theorem o8 {fs:List FD}{N:Nat}{vs:List V}{h:H}{fd:FD}(e:fs[f]?=some fd):
 av fs N (n+1) f vs h=match bindArgs fd vs with
  | some e=>match execs (av fs N n) N fd.body e h with
    | some (.next,_,ak)=>some (.none,ak)
    | some (.ret v,_,ak)=>some (v,ak)
    | _=>none
  | none=>none:=by
 show(match fs[f]? with | some fd=>_ | none=>_)=_
 rw[e]<;>rfl
noncomputable def eT (call:bV) (c:Ex):En->H->Option (Bool×H):=fun e h=>match ax call c e h with
 | some (x,ak)=>(truthy ak x).map fun t=>(t,ak)
 | none=>none
noncomputable def bn (call:bV) (N:Nat) (b:dz):En->H->mx:=fun e h=>execs call N b e h
noncomputable def dy (ak:H) (x:V):H->Bool:=fun h=>eK h x (fS ak x)
noncomputable def ig (call:bV) (elt:Ex) (k:Nat) (e:En):V->H->Option (List V×H):=fun v h=>match ax call elt (e.set k (some v)) h with
 | some (y,h')=>some ([y],h')
 | none=>none
noncomputable def i6 (call:bV) (elt c:Ex) (k:Nat) (e:En):V->H->Option (List V×H):=fun v h=>match ax call c (e.set k (some v)) h with
 | some (t,h')=>match truthy h' t with
   | some true=>match ax call elt (e.set k (some v)) h' with
     | some (y,h'')=>some ([y],h'')
     | none=>none
   | some false=>some ([],h')
   | none=>none
 | none=>none
theorem jv (call:bV)(N:Nat)(c:Ex)(b:dz)(e:En)(h:H):exec call N (.while_ c b) e h=dB (eT call c) (bn call N b) N e h:=rfl
theorem BC (call:bV)(N k:Nat)(it:Ex)(b:dz)(e:En)(h:H):exec call N (.for_ k it b) e h=match ax call it e h with
 | some (x,ak)=>match items ak x with
   | some vs=>if k<e.length then dR k (bn call N b) (dy ak x) vs e ak else none
   | none=>none
 | none=>none:=rfl
theorem vX (call:bV)(elt:Ex)(k:Nat)(it c:Ex)(e:En)(h:H):ax call (.compIf elt k it c) e h=match ax call it e h with
 | some (x,ak)=>match items ak x with
   | some vs=>match dv (i6 call elt c k e) (dy ak x) vs ak with
     | some (ys,aO)=>dW aO ys
     | none=>none
   | none=>none
 | none=>none:=rfl
end
end
section
section
noncomputable def Al (h:H) (o:O) (k:Nat) (h':H):Prop:=h.length=k/\h++[o]=h'
theorem fJ {h:H}{o:O}:Al h o h.length (h++[o]):=⟨rfl,rfl⟩
theorem Cv {h r:H}{o:O}:Al (h++r) o (h.length+r.length) (h++(r++[o])):=⟨bd,aH h r [o]⟩
theorem iE {β:Type}{o:Option (V×H)}{g:V->H->Option β}{u:V}{ak:H}{r:Option β}(p:o=some (u,ak))(q:g u ak=r):(match(generalizing:=false) o with | some (x,ak)=>g x ak | none=>none)=r:=by cases p;exact q
theorem Aw {β:Type}{o:Option (List V×H)}{g:List V->H->Option β}{u:List V}{ak:H}{r:Option β}(p:o=some (u,ak))(q:g u ak=r):(match(generalizing:=false) o with | some (x,ak)=>g x ak | none=>none)=r:=by cases p;exact q
theorem wm {β:Type}{o:Option (V×H)}{g:Nat->H->Option β}{u:Nat}{ak:H}{r:Option β}(p:o=some (.ref u,ak))(q:g u ak=r):(match(generalizing:=false) o with | some (.ref a,ak)=>g a ak | _=>none)=r:=by cases p;exact q
theorem Bw {β:Type}{o:Option (V×H)}{g:Int->H->Option β}{u:Int}{ak:H}{r:Option β}(p:o=some (.int u,ak))(q:g u ak=r):(match(generalizing:=false) o with | some (.int a,ak)=>g a ak | _=>none)=r:=by cases p;exact q
theorem iM {α β:Type}{o:Option α}{g:α->β}{x:α}(p:o=some x):o.map g=some (g x):=ag (Option.map g) p
theorem iT {β:Type}{o:Option Bool}{f g r:Option β}(p:o=some true)(q:f=r):(match(generalizing:=false) o with | some true=>f | some false=>g | none=>none)=r:=by cases p;exact q
theorem iF {β:Type}{o:Option Bool}{f g r:Option β}(p:o=some false)(q:g=r):(match(generalizing:=false) o with | some true=>f | some false=>g | none=>none)=r:=by cases p;exact q
theorem iL {β:Type}{o:Option O}{g:List V->Option β}{vs:List V}{r:Option β}(p:o=some (.list vs))(q:g vs=r):(match(generalizing:=false) o with | some (.list vs)=>g vs | _=>none)=r:=by cases p;exact q
theorem iD {β:Type}{o:Option O}{g:List (Int×V)->Option β}{kv:List (Int×V)}{r:Option β}(p:o=some (.idict kv))(q:g kv=r):(match(generalizing:=false) o with | some (.idict kvs)=>g kvs | _=>none)=r:=by cases p;exact q
theorem EY {β:Type}{o:Option O}{g:List V->Option β}{f:List (Int×V)->Option β}{r:Option β}{q:O}(p:o=some q)(z:(match(generalizing:=false) (some q:Option O) with | some (.list vs)=>g vs | some (.idict kvs)=>f kvs | _=>none)=r):(match(generalizing:=false) o with | some (.list vs)=>g vs | some (.idict kvs)=>f kvs | _=>none)=r:=by cases p;exact z
theorem DI {β:Type}{o:Option (List V)}{g:List V->Option β}{vs:List V}{r:Option β}(p:o=some vs)(q:g vs=r):(match(generalizing:=false) o with | some x=>g x | none=>none)=r:=by cases p;exact q
theorem iV {β:Type}{o:Option V}{g:V->Option β}{v:V}{r:Option β}(p:o=some v)(q:g v=r):(match(generalizing:=false) o with | some x=>g x | none=>none)=r:=by cases p;exact q
theorem Fk {β:Type}{o:Option V}{g:Int->Option β}{v:Int}{r:Option β}(p:o=some (.int v))(q:g v=r):(match(generalizing:=false) o with | some (.int x)=>g x | _=>none)=r:=by cases p;exact q
theorem Fm {β:Type}{o:Option (List (Int×V))}{g:List (Int×V)->Option β}{v:List (Int×V)}{r:Option β}(p:o=some v)(q:g v=r):(match(generalizing:=false) o with | some x=>g x | none=>none)=r:=by cases p;exact q
theorem tJ {h aO:H}{k:Nat}{vs:List V}(l:vs.length≤1000000)(a:Al h (.list vs) k aO):dW h vs=some (.ref k,aO):=by cases a.1;cases a.2;exact ap l
theorem Eh {β:Type}{o u:Option O}{g:List V->List V->Option β}{vs us:List V}{r:Option β}(p:o=some (.list vs))(p':u=some (.list us))(q:g vs us=r):(match(generalizing:=false) o,u with | some (.list xs),some (.list ys)=>g xs ys | _,_=>none)=r:=by cases p;cases p';exact q
theorem Fn {β:Type}{o:Option (V×H)}{g:List V->H->Option β}{u:List V}{ak:H}{r:Option β}(p:o=some (.tup u,ak))(q:g u ak=r):(match(generalizing:=false) o with | some (.tup a,ak)=>g a ak | _=>none)=r:=by cases p;exact q
theorem iN {β:Type}{o:Option (V×H)}{g:H->Option β}{ak:H}{r:Option β}(p:o=some (.none,ak))(q:g ak=r):(match(generalizing:=false) o with | some (.none,ak)=>g ak | _=>none)=r:=by cases p;exact q
theorem Fo {β:Type}{o:Option (En×H)}{g:En->H->Option β}{u:En}{ak:H}{r:Option β}(p:o=some (u,ak))(q:g u ak=r):(match(generalizing:=false) o with | some (x,ak)=>g x ak | none=>none)=r:=by cases p;exact q
theorem DJ {β:Type}{c:Prop} [Decidable c] {a b r:β}(l:c)(q:a=r):(if c then a else b)=r:=(ap l).trans q
theorem lT {h:H}{k:Nat}{vs:List V}(g:h[k]?=some (.list vs)):truthy h (.ref k)=some (!vs.isEmpty):=iL g rfl
section
variable {B:En->H->mx}{chk:H->Bool}{bs:List UInt8}{T:Tg}{ts:List Tg}
variable {c:bV}{N:Nat}{e bt cK:En}{h ak aO d5:H}{a b x y z:Ex}{u v w:V}{k f d j:Nat}{es:pU}{vs us:List V}{o:mx}{t:Bool}{i m n:Int}{op:Cn}{bo:Co}{cs:Cs}{s:St}{r q:dz}{fl:Fl}{kv:List (Int×V)}{fs:List V}
theorem ao:ax c (.lit v) e h=some (v,h):=rfl
theorem ac (p:e[k]?=some (some v)):ax c (.var k) e h=some (v,h):=by show(match e[k]? with | some (some v)=>some (v,h) | _=>none)=_;rw[p]
theorem cm (p:ax c x e h=some (u,ak))(p':ax c y e ak=some (v,aO))(g:jE aO bo u v=some (w,d5)):ax c (.bin bo x y) e h=some (w,d5):=iE p (iE p' g)
theorem kf (p:ax c x e h=some (.int i,ak)):ax c (.neg x) e h=some (.int (-i),ak):=Bw p rfl
theorem gB (p:ax c x e h=some (v,ak))(g:truthy ak v=some t):ax c (.not x) e h=some (.bool (!t),ak):=iE p (iM g)
theorem bD (p:gG c es e h=some (v,ak)):ax c (.and es) e h=some (v,ak):=p
theorem dP (p:jw c es e h=some (v,ak)):ax c (.or es) e h=some (v,ak):=p
theorem ch (p:ax c x e h=some (v,ak)):gG c (.cons x .nil) e h=some (v,ak):=p
theorem cV (p:ax c x e h=some (v,ak)):jw c (.cons x .nil) e h=some (v,ak):=p
theorem cg (p:ax c x e h=some (u,ak))(g:truthy ak u=some true)(p':gG c (.cons y es) e ak=some (v,aO)):gG c (.cons x (.cons y es)) e h=some (v,aO):=iE p (iT g p')
theorem cr (p:ax c x e h=some (u,ak))(g:truthy ak u=some false):gG c (.cons x (.cons y es)) e h=some (u,ak):=iE p (iF g rfl)
theorem sk (p:ax c x e h=some (u,ak))(g:truthy ak u=some true):jw c (.cons x (.cons y es)) e h=some (u,ak):=iE p (iT g rfl)
theorem cS (p:ax c x e h=some (u,ak))(g:truthy ak u=some false)(p':jw c (.cons y es) e ak=some (v,aO)):jw c (.cons x (.cons y es)) e h=some (v,aO):=iE p (iF g p')
theorem az (p:ax c x e h=some (u,ak))(p':ax c y e ak=some (v,aO))(g:i7 aO op u v=some t):ax c (.cmp x (.one op y)) e h=some (.bool t,aO):=iE p (iM (x:=(t,aO)) (iE p' (iM g)))
theorem fL (p:ax c x e h=some (u,ak))(p':jx c u cs e ak=some (t,aO)):ax c (.cmp x cs) e h=some (.bool t,aO):=iE p (iM p')
theorem pK (p':ax c y e h=some (v,aO))(g:i7 aO op u v=some t):jx c u (.one op y) e h=some (t,aO):=iE p' (iM g)
theorem nS (p':ax c y e h=some (v,ak))(g:i7 ak op u v=some true)(q:jx c v cs e ak=some (t,aO)):jx c u (.more op y cs) e h=some (t,aO):=iE p' (iT g q)
theorem CX (p':ax c y e h=some (v,ak))(g:i7 ak op u v=some false):jx c u (.more op y cs) e h=some (false,ak):=iE p' (iF g rfl)
theorem qM (p:ax c z e h=some (u,ak))(g:truthy ak u=some true)(p':ax c x e ak=some (v,aO)):ax c (.ite z x y) e h=some (v,aO):=iE p (iT g p')
theorem kC (p:ax c z e h=some (u,ak))(g:truthy ak u=some false)(p':ax c y e ak=some (v,aO)):ax c (.ite z x y) e h=some (v,aO):=iE p (iF g p')
theorem bS (p:dg c es e h=some (vs,ak)):ax c (.tup es) e h=some (.tup vs,ak):=Aw p rfl
theorem bA (p:dg c es e h=some (vs,ak))(l:vs.length≤1000000)(a:Al ak (.list vs) k aO):ax c (.list es) e h=some (.ref k,aO):=Aw p (tJ l a)
theorem em (a:Al h (.idict []) k aO):ax c (.dict .nil) e h=some (.ref k,aO):=by cases a.1;cases a.2;rfl
theorem Bd (p:dg c es e h=some (vs,ak))(g:dictFrom vs []=some kv)(a:Al ak (.idict kv) k aO):ax c (.dict es) e h=some (.ref k,aO):=by cases a.1;cases a.2;exact Aw p (Fm g rfl)
theorem bE (p:ax c x e h=some (u,ak))(p':ax c y e ak=some (v,aO))(g:cP aO u v=some w):ax c (.sub x y) e h=some (w,aO):=iE p (iE p' (iM g))
theorem jM (p:ax c x e h=some (u,ak))(p':ax c y e ak=some (v,aO))(g:sliceTo aO u v=some (w,d5)):ax c (.sliceTo x y) e h=some (w,d5):=iE p (iE p' g)
theorem jg (p:ax c x e h=some (u,ak))(p':ax c y e ak=some (v,aO))(g:sliceFrom aO u v=some (w,d5)):ax c (.sliceFrom x y) e h=some (w,d5):=iE p (iE p' g)
theorem tu (p:ax c x e h=some (.ref k,ak))(g:ak[k]?=some (.list vs))(l:vs.length≤1000000)(a:Al ak (.list vs.reverse) j aO):ax c (.sliceRev x) e h=some (.ref j,aO):=wm p (iL g (tJ (Nat.le_trans (Nat.le_of_eq List.length_reverse) l) a))
theorem Fz (g:ak[k]?=some (.inst d fs))(g':fs[f]?=some v):gS ak (.ref k) d f=some v:=by show(match ak[k]? with | some (.inst d' fs)=>if d'=d then fs[f]? else none | _=>none)=_;rw[g];exact(ap rfl).trans g'
theorem am (p:ax c x e h=some (.ref k,ak))(g:ak[k]?=some (.inst d fs))(g':fs[f]?=some v):ax c (.attr x d f) e h=some (v,ak):=iE p (iM (Fz g g'))
theorem bL (p:dg c es e h=some (vs,ak))(g:c f vs ak=some (v,aO)):ax c (.call f es) e h=some (v,aO):=Aw p g
theorem qL (p:ax c x e h=some (.bytes bs,ak))(l:bs.length≤1000000):ax c (.len x) e h=some (.int bs.length,ak):=by show(match ax c x e h with | some (.bytes bs,ak)=>_ | some (.ref a,ak)=>_ | _=>_)=_;rw[p];exact ap l
theorem jh (p:ax c x e h=some (.ref k,ak))(g:ak[k]?=some (.list vs)):ax c (.len x) e h=some (.int vs.length,ak):=by show(match ax c x e h with | some (.bytes bs,ak)=>_ | some (.ref a,ak)=>_ | _=>_)=_;rw[p];exact iL g rfl
theorem yW (p:ax c x e h=some (.ref k,ak))(g:ak[k]?=some (.list vs))(q:gc vs=some bs):ax c (.bytesOf x) e h=some (.bytes bs,ak):=wm p (iL g (iM q))
theorem CW (p:ax c x e h=some (.int i,ak)):ax c (.intOf x) e h=some (.int i,ak):=Bw p rfl
theorem wS (p:ax c x e h=some (.ref k,ak))(g:ak[k]?=some (.list vs))(l:vs.length≤1000000)(a:Al ak (.list vs) j aO):ax c (.listOf x) e h=some (.ref j,aO):=wm p (EY g (tJ l a))
theorem vj (p:ax c x e h=some (.ref k,ak))(g:ak[k]?=some (.idict kv))(l:kv.length≤1000000)(a:Al ak (.list (kv.map fun p=>V.int p.1)) j aO):ax c (.listOf x) e h=some (.ref j,aO):=wm p (EY g (tJ (Nat.le_trans (Nat.le_of_eq (aD _)) l) a))
theorem qK (p:ax c x e h=some (.int i,ak))(l:i<1000000):ax c (.range x) e h=some (.range i,ak):=Bw p (ap l)
theorem CV (p:ax c x e h=some (.ref k,ak))(g:ak[k]?=some (.list vs))(l:vs.getLast?=some v)(g':ak.set k (.list vs.dropLast)=aO):ax c (.pop x) e h=some (v,aO):=wm p (iL g (iV l (ag (fun z=>some (v,z)) g')))
theorem fp {α:Type}{F:α->V}{y:α}{S:List α}(p:ax c x e h=some (.ref k,ak))(g:ak[k]?=some (.list ((y::S).reverse.map F)))(g':ak.set k (.list (S.reverse.map F))=aO):ax c (.pop x) e h=some (F y,aO):=
 CV p g (by rw[List.reverse_cons,List.map_append];exact List.getLast?_concat) (by rw[List.reverse_cons,List.map_append];exact(ag (fun z=>ak.set k (.list z)) List.dropLast_concat).trans g')
theorem uk (p:ax c x e h=some (.ref k,ak))(p':ax c y e ak=some (.int i,aO))(g:aO[k]?=some (.list vs))(l:lz i vs=some j):ax c (.index x y) e h=some (.int j,aO):=wm p (Bw p' (iL g (iM (by rw[l];rfl))))
theorem Bc (p:ax c x e h=some (.ref k,ak))(p':ax c y e ak=some (.int i,aO))(p'':ax c z e aO=some (w,d5))(g:d5[k]?=some (.idict kv)):ax c (.getd x y z) e h=some ((lookup kv i).getD w,d5):=wm p (Bw p' (iE p'' (iD g rfl)))
theorem wR (p:dg c es e h=some (vs,ak))(g:c d (.ref ak.length::vs) (ak++[.inst d []])=some (.none,aO)):ax c (.new d es) e h=some (.ref ak.length,aO):=Aw p (iN g rfl)
theorem kD (p:ax c x e h=some (v,ak))(g:items ak v=some vs)(q:dv (ig c y k e) (dy ak v) vs ak=some (us,aO))(l:us.length≤1000000)(a:Al aO (.list us) j d5):ax c (.comp y k x) e h=some (.ref j,d5):=iE p (DI g (Aw q (tJ l a)))
theorem sm (p:ax c x e h=some (v,ak))(g:items ak v=some vs)(q:dv (i6 c y z k e) (dy ak v) vs ak=some (us,aO))(l:us.length≤1000000)(a:Al aO (.list us) j d5):ax c (.compIf y k x z) e h=some (.ref j,d5):=iE p (DI g (Aw q (tJ l a)))
theorem aN:dg c .nil e h=some ([],h):=rfl
theorem ah (p:ax c x e h=some (v,ak))(p':dg c es e ak=some (vs,aO)):dg c (.cons x es) e h=some (v::vs,aO):=iE p (Aw p' rfl)
theorem bk (p:k<e.length):j_ c (.name k) v e h=some (e.set k (some v),h):=ap p
theorem dO (p:ax c x e h=some (u,ak))(g:setAttr ak u d f v=some aO):j_ c (.attr x d f) v e h=some (e,aO):=iE p (iM g)
theorem f0 (p:ax c x e h=some (u,ak))(p':ax c y e ak=some (w,aO))(g:cW aO u w v=some d5):j_ c (.sub x y) v e h=some (e,d5):=iE p (iE p' (iM g))
theorem j3:stores c [] [] e h=some (e,h):=rfl
theorem db (p:j_ c T v e h=some (bt,ak))(p':stores c ts vs bt ak=some (cK,aO)):stores c (T::ts) (v::vs) e h=some (cK,aO):=Fo p p'
theorem bf (p:ax c x e h=some (v,ak))(g:j_ c T v e ak=some (bt,aO)):exec c N (.assign T x) e h=some (.next,bt,aO):=iE p (iM g)
theorem fh (p:ax c x e h=some (v,ak))(q:k8 ak v=some vs)(g:stores c ts vs e ak=some (bt,aO)):exec c N (.assigns ts x) e h=some (.next,bt,aO):=iE p (DI q (iM g))
theorem gg (p:ax c x e h=some (.ref k,ak))(g:ak[k]?=some (.list us))(p':ax c y e ak=some (v,aO))(g':aO[k]?=some (.list vs))(l:vs.length<1000000)(g'':aO.set k (.list (vs++[v]))=d5):exec c N (.append x y) e h=some (.next,e,d5):=wm p (iL g (iE p' (iL g' (DJ l (ag (fun z=>some (Fl.next,e,z)) g'')))))
theorem wo (p:ax c x e h=some (.ref k,ak))(g:ak[k]?=some (.list fs))(p':ax c y e ak=some (.ref j,aO))(g':aO[k]?=some (.list vs))(q:aO[j]?=some (.list us))(l:k≠j/\vs.length+us.length≤1000000)(g'':aO.set k (.list (vs++us))=d5):exec c N (.extend x y) e h=some (.next,e,d5):=wm p (iL g (wm p' (Eh g' q (DJ l (ag (fun z=>some (Fl.next,e,z)) g'')))))
theorem AU (p:ax c x e h=some (.ref k,ak))(g:ak[k]?=some (.list fs))(p':ax c y e ak=some (.tup us,aO))(g':aO[k]?=some (.list vs))(l:vs.length+us.length≤1000000)(g'':aO.set k (.list (vs++us.reverse))=d5):exec c N (.extendRev x y) e h=some (.next,e,d5):=wm p (iL g (Fn p' (iL g' (DJ l (ag (fun z=>some (Fl.next,e,z)) g'')))))
theorem nz {α:Type}{F:α->V}{Y:α}{S:List α}(p:ax c x e h=some (.ref k,ak))(g:ak[k]?=some (.list us))(p':ax c y e ak=some (F Y,aO))(g':aO[k]?=some (.list (S.reverse.map F)))(l:S.length<1000000)(g'':aO.set k (.list ((Y::S).reverse.map F))=d5):exec c N (.append x y) e h=some (.next,e,d5):=
 gg p g p' g' (by rw[aD,List.length_reverse];exact l) ((ag (fun z=>aO.set k (.list z)) (by rw[List.reverse_cons,List.map_append];rfl)).trans g'')
theorem ng {α:Type}{F:α->V}{S T:List α}(p:ax c x e h=some (.ref k,ak))(g:ak[k]?=some (.list fs))(p':ax c y e ak=some (.tup (T.map F),aO))(g':aO[k]?=some (.list (S.reverse.map F)))(l:S.length+T.length≤1000000)(g'':aO.set k (.list ((T++S).reverse.map F))=d5):exec c N (.extendRev x y) e h=some (.next,e,d5):=
 AU p g p' g' (by rw[aD,aD,List.length_reverse];exact l) ((ag (fun z=>aO.set k (.list z)) (by rw[List.reverse_append,List.map_append,<-List.map_reverse])).trans g'')
theorem CD (p:ax c x e h=some (.ref k,ak))(p':ax c y e ak=some (.int i,aO))(g:aO[k]?=some (.idict kv))(l:lookup kv i=some (.int m))(p'':ax c z e aO=some (.int n,d5)){xF:H}(g':cW d5 (.ref k) (.int i) (.int (m+n))=some xF):exec c N (.augAdd x y z) e h=some (.next,e,xF):=wm p (Bw p' (iD g (Fk l (Bw p'' (iM g')))))
theorem bX (p:ax c x e h=some (v,ak))(g:truthy ak v=some true)(p':execs c N r e ak=o):exec c N (.if_ x r q) e h=o:=iE p (iT g p')
theorem aS (p:ax c x e h=some (v,ak))(g:truthy ak v=some false)(p':execs c N q e ak=o):exec c N (.if_ x r q) e h=o:=iE p (iF g p')
theorem AT (p:dB (eT c x) (bn c N r) N e h=o):exec c N (.while_ x r) e h=o:=p
theorem fC (p:ax c x e h=some (v,ak))(g:items ak v=some vs)(l:k<e.length)(q:dR k (bn c N r) (dy ak v) vs e ak=o):exec c N (.for_ k x r) e h=o:=iE p (DI g (DJ l q))
theorem bR (p:ax c x e h=some (v,ak)):exec c N (.ret x) e h=some (.ret v,e,ak):=iE p rfl
theorem iu:exec c N .cont e h=some (.cont,e,h):=rfl
theorem aF:execs c N .nil e h=some (.next,e,h):=rfl
theorem an (p:exec c N s e h=some (.next,bt,ak))(p':execs c N r bt ak=o):execs c N (.cons s r) e h=o:=by show(match exec c N s e h with | some (.next,bt,ak)=>_ | some (.cont,bt,ak)=>_ | some (.ret v,bt,ak)=>_ | none=>_)=_;rw[p];exact p'
theorem bb (p:exec c N s e h=some (.ret v,bt,ak)):execs c N (.cons s r) e h=some (.ret v,bt,ak):=by show(match exec c N s e h with | some (.next,bt,ak)=>_ | some (.cont,bt,ak)=>_ | some (.ret v,bt,ak)=>_ | none=>_)=_;rw[p]
theorem cT (p:exec c N s e h=some (.cont,bt,ak)):execs c N (.cons s r) e h=some (.cont,bt,ak):=by show(match exec c N s e h with | some (.next,bt,ak)=>_ | some (.cont,bt,ak)=>_ | some (.ret v,bt,ak)=>_ | none=>_)=_;rw[p]
theorem iq (p:exec c N s e h=some (fl,bt,ak)):execs c N (.cons s .nil) e h=some (fl,bt,ak):=by show(match exec c N s e h with | some (.next,bt,ak)=>_ | some (.cont,bt,ak)=>_ | some (.ret v,bt,ak)=>_ | none=>_)=_;rw[p];cases fl<;>rfl
theorem oN (p:chk h=true):dR k B chk [] e h=some (.next,e,h):=ap p
theorem d6 (p:chk h=true)(g:B (e.set k (some v)) h=some (.next,bt,ak))(q:dR k B chk vs bt ak=o):dR k B chk (v::vs) e h=o:=(show dR k B chk (v::vs) e h=_ from ap p).trans (by rw[g];exact q)
theorem gM (p:ax c x e h=some (v,ak))(g:truthy ak v=some t):eT c x e h=some (t,ak):=iE p (iM g)
theorem k9 (p:ax c x (e.set k (some u)) h=some (v,ak)):ig c x k e u h=some ([v],ak):=iE p rfl
theorem wT (p:ax c y (e.set k (some u)) h=some (w,ak))(g:truthy ak w=some true)(p':ax c x (e.set k (some u)) ak=some (v,aO)):i6 c x y k e u h=some ([v],aO):=iE p (iT g (iE p' rfl))
theorem nT (p:ax c y (e.set k (some u)) h=some (w,ak))(g:truthy ak w=some false):i6 c x y k e u h=some ([],ak):=iE p (iF g rfl)
end
variable {x0 x1 x2 x3 x4 x5:O}{xs ys:List V}{fd:FD}
theorem br {h:H}{o:O}{r:List O}:(h++o::r)[h.length]?=some o:=bC h o r
theorem bH {h:H}{r:List O}{k:Nat}{o:O}(p:r[k]?=some o):(h++r)[h.length+k]?=some o:=(bz h r k).trans p
theorem dE {h:H}{o o':O}{r:List O}:(h++o'::r).set h.length o=h++o::r:=fw h _ o
theorem lO {h:H}{o:O}:Al (h++[x0]) o (h.length+1) (h++[x0,o]):=⟨bd,aH h _ _⟩
theorem wb {h:H}{o:O}:Al (h++[x0,x1]) o (h.length+2) (h++[x0,x1,o]):=⟨bd,aH h _ _⟩
theorem Aa {h:H}{o:O}:Al (h++[x0,x1,x2]) o (h.length+3) (h++[x0,x1,x2,o]):=⟨bd,aH h _ _⟩
theorem Ep {h:H}{o:O}:Al (h++[x0,x1,x2,x3]) o (h.length+4) (h++[x0,x1,x2,x3,o]):=⟨bd,aH h _ _⟩
theorem Eo {h:H}{o:O}:Al (h++[x0,x1,x2,x3,x4]) o (h.length+5) (h++[x0,x1,x2,x3,x4,o]):=⟨bd,aH h _ _⟩
theorem Em {h:H}{o:O}:Al (h++[x0,x1,x2,x3,x4,x5]) o (h.length+6) (h++[x0,x1,x2,x3,x4,x5,o]):=⟨bd,aH h _ _⟩
theorem vh {h r:H}{y o:O}:(h++x0::y::r).set (h.length+1) o=h++x0::o::r:=eV h _ _ o
theorem A_ {h r:H}{y o:O}:(h++x0::x1::y::r).set (h.length+2) o=h++x0::x1::o::r:=eV h _ _ o
theorem A9 {h r:H}{y o:O}:(h++x0::x1::x2::y::r).set (h.length+3) o=h++x0::x1::x2::o::r:=eV h _ _ o
theorem gO {h:H}{u v:V}{t:Bool}(g:jm h u v=some t):i7 h .notIn u v=some (!t):=iM g
theorem BM {h:H}{u v:V}{t:Bool}(g:f6 h 8 u v=some t):i7 h .ne u v=some (!t):=iM g
theorem DZ {h:H}{n a b:Nat}(g:h[a]?=some (.list xs))(q:h[b]?=some (.list ys)):f6 h (n+1) (.ref a) (.ref b)=if xs.length=ys.length then fm (f6 h n) xs ys else some false:=Eh g q rfl
theorem CZ {h:H}{n a b:Nat}{vs:List V}(g:h[a]?=some (.list vs))(q:h[b]?=some (.list [])):f6 h (n+1) (.ref a) (.ref b)=some vs.isEmpty:=(DZ g q).trans (by cases vs<;>rfl)
theorem ny {h:H}{a b:Nat}{vs:List V}(g:h[a]?=some (.list vs))(q:h[b]?=some (.list [])):i7 h .ne (.ref a) (.ref b)=some (!vs.isEmpty):=BM (CZ g q)
theorem zY {h:H}{a b:Nat}{vs:List V}(g:h[a]?=some (.list vs))(q:h[b]?=some (.list [])):i7 h .eq (.ref a) (.ref b)=some vs.isEmpty:=CZ g q
theorem jD {h:H}{x y:Int}(l:0<y):jE h .mod (.int x) (.int y)=some (.int (x%y),h):=iM (ap l)
theorem rC {h:H}{x y:Int}(l:0<y/\y<1000000):jE h .fdiv (.int x) (.int y)=some (.int (x/y),h):=iM (ap l)
theorem tV {h aO:H}{a b k:Nat}(g:h[a]?=some (.list xs))(q:h[b]?=some (.list ys))(l:(xs++ys).length≤1000000)(z:Al h (.list (xs++ys)) k aO):jE h .add (.ref a) (.ref b)=some (.ref k,aO):=Eh g q (tJ l z)
theorem lX {c:bV}{x:Ex}{e:En}{h ak:H}{k m:Nat}{vs:List V}(p:ax c x e h=some (.ref k,ak))(g:ak[k]?=some (.list vs))(l:vs.length=m):ax c (.len x) e h=some (.int m,ak):=l▸jh p g
theorem A8 {h:H}{a:Nat}{vs:List V}(g:h[a]?=some (.list vs)):k8 h (.ref a)=some vs:=iL g rfl
theorem Aq {h:H}{n:Nat}{x y:Int}:f6 h (n+1) (.int x) (.int y)=some (x==y):=rfl
theorem xc {h:H}{n:Nat}{x y:Bool}:f6 h (n+1) (.bool x) (.bool y)=some (x==y):=rfl
theorem zb {h:H}{n:Nat}{x y:List UInt8}:f6 h (n+1) (.bytes x) (.bytes y)=some (x==y):=rfl
theorem Ap {h:H}{n:Nat}:f6 h (n+1) (.tup xs) (.tup ys)=if xs.length=ys.length then fm (f6 h n) xs ys else none:=rfl
theorem rG {f:V->V->Option Bool}:fm f [] []=some true:=rfl
theorem lP {f:V->V->Option Bool}{a b:V}{r q:List V}:fm f (a::r) (b::q)=match f a b with
 | some x=>match fm f r q with
   | some y=>some (x&&y)
   | none=>none
 | none=>none:=rfl
theorem ki {a b:Int}(h:a≠b):(!(a==b))=true:=by simp[h]
theorem ur {a b:Int}(h:a=b):(!(a==b))=false:=by simp[h]
theorem dG {h:H}{a:Nat}{vs:List V}(g:h[a]?=some (.list vs)):items h (.ref a)=some vs:=by show(match h[a]? with | some (.list vs)=>_ | some (.idict kvs)=>_ | _=>_)=_;rw[g]
theorem tI {h:H}{a:Nat}{kv:List (Int×V)}(g:h[a]?=some (.idict kv)):items h (.ref a)=some (kv.map fun p=>.int p.1):=by show(match h[a]? with | some (.list vs)=>_ | some (.idict kvs)=>_ | _=>_)=_;rw[g]
theorem cL {N n f:Nat}{vs:List V}{h ak:H}{e bt:En}{v:V}{o:Option (V×H)}(p:aw[f]?=some fd)(g:bindArgs fd vs=some e)(q:execs (av aw N n) N fd.body e h=some (.ret v,bt,ak))(g':some (v,ak)=o):av aw N (n+1) f vs h=o:=by rw[o8 p,g];dsimp only;rw[q];exact g'
theorem Ay {N n f:Nat}{vs:List V}{h ak:H}{e bt:En}{o:Option (V×H)}(p:aw[f]?=some fd)(g:bindArgs fd vs=some e)(q:execs (av aw N n) N fd.body e h=some (.next,bt,ak))(g':some (.none,ak)=o):av aw N (n+1) f vs h=o:=by rw[o8 p,g];dsimp only;rw[q];exact g'
section
variable {l:Ex}
variable {call:bV}{N:Nat}
theorem DT {v:V}{e:En}{h:H}:ax call (.lit v) e h=some (v,h):=rfl
theorem wy {k:Nat}{e:En}{h:H}:ax call (.var k) e h=match e[k]? with
 | some (some v)=>some (v,h)
 | _=>none:=rfl
theorem DS {a:Ex}{e:En}{h:H}:ax call (.not a) e h=match ax call a e h with
 | some (x,ak)=>(truthy ak x).map fun b=>(.bool (!b),ak)
 | none=>none:=rfl
theorem CO {es:pU}{e:En}{h:H}:ax call (.list es) e h=match dg call es e h with
 | some (vs,ak)=>dW ak vs
 | none=>none:=rfl
theorem CN {a:Ex}{c:Nat}{f:Nat}{e:En}{h:H}:ax call (.attr a c f) e h=match ax call a e h with
 | some (x,ak)=>(gS ak x c f).map fun v=>(v,ak)
 | none=>none:=rfl
theorem DP {c:Ex}{a:dz}{b:dz}{e:En}{h:H}:exec call N (.if_ c a b) e h=match ax call c e h with
 | some (x,ak)=>match truthy ak x with
   | some true=>execs call N a e ak
   | some false=>execs call N b e ak
   | none=>none
 | none=>none:=rfl
theorem CM {k:Nat}{r:Nat}{e:En}{h:H}:exec call N (.tryRefused k r) e h=match e[k]? with
 | some (some o)=>match gS h o 1 6 with
   | some (.bool true)=>if r<e.length then some (.next,e.set r (some (.bool true)),h) else none
   | _=>none
 | _=>none:=rfl
theorem DR {e:En}{h:H}:dg call .nil e h=some ([],h):=rfl
theorem DQ {a:Ex}{r:pU}{e:En}{h:H}:dg call (.cons a r) e h=match ax call a e h with
 | some (x,ak)=>match dg call r e ak with
   | some (xs,aO)=>some (x::xs,aO)
   | none=>none
 | none=>none:=rfl
theorem DO {e:En}{h:H}:execs call N .nil e h=some (.next,e,h):=rfl
theorem DN {s:St}{r:dz}{e:En}{h:H}:execs call N (.cons s r) e h=match exec call N s e h with
 | some (.next,bt,ak)=>execs call N r bt ak
 | some (.cont,bt,ak)=>some (.cont,bt,ak)
 | some (.ret v,bt,ak)=>some (.ret v,bt,ak)
 | none=>none:=rfl
end
section
variable {chk:H->Bool}{bs:List UInt8}
variable {h:H}{x y v:V}{vs us:List V}{f:V->H->Option (List V×H)}
theorem eC {k:Nat}{b:En->H->mx}{e:En}:dR k b chk [] e h=if chk h then some (.next,e,h) else none:=rfl
theorem bK {k:Nat}{b:En->H->mx}{e:En}{r:List V}:dR k b chk (v::r) e h=if chk h then match b (e.set k (some v)) h with
 | some (.next,cK,aO)=>dR k b chk r cK aO
 | some (.cont,cK,aO)=>dR k b chk r cK aO
 | some (.ret v,cK,aO)=>some (.ret v,cK,aO)
 | none=>none
 else none:=rfl
theorem ef {c:En->H->Option (Bool×H)}{b:En->H->mx}{n:Nat}{e:En}:dB c b (n+1) e h=match c e h with
 | some (true,ak)=>match b e ak with
   | some (.next,cK,aO)=>dB c b n cK aO
   | some (.cont,cK,aO)=>dB c b n cK aO
   | some (.ret v,cK,aO)=>some (.ret v,cK,aO)
   | none=>none
 | some (false,ak)=>some (.next,e,ak)
 | none=>none:=rfl
theorem jC:dv f chk [] h=if chk h then some ([],h) else none:=rfl
theorem dj {r:List V}:dv f chk (v::r) h=if chk h then match f v h with
 | some (xs,ak)=>match dv f chk r ak with
   | some (ys,aO)=>some (xs++ys,aO)
   | none=>none
 | none=>none
 else none:=rfl
theorem iw {a:Nat}{i:Int}:cP h (.ref a) (.int i)=match h[a]? with
 | some (.list vs)=>(iS i vs.length).bind fun k=>vs[k]?
 | some (.idict kvs)=>lookup kvs i
 | _=>none:=rfl
theorem mc {a:Nat}:jm h x (.ref a)=match h[a]? with
 | some (.list vs)=>kA (f6 h 4) x vs
 | some (.idict kvs)=>match x with
   | .int i=>some (kvs.any fun p=>decide (p.1=i))
   | .tup vs=>match V.nums vs with
     | some _=>if kvs.isEmpty then some false else none
     | none=>none
   | _=>none
 | some (.tdict kvs)=>match x with
   | .tup vs=>match V.nums vs with
     | some is=>some (kvs.any fun p=>decide (p.1=is))
     | none=>none
   | _=>none
 | _=>none:=rfl
theorem tq {a:Nat}:cW h (.ref a) x v=match h[a]? with
 | some (.idict kvs)=>match x with
   | .int i=>if kvs.length<1000000 then some (h.set a (.idict (put kvs i v))) else none
   | .tup vs=>match V.nums vs with
     | some is=>if kvs.isEmpty then some (h.set a (.tdict [(is,v)])) else none
     | none=>none
   | _=>none
 | some (.tdict kvs)=>match x with
   | .tup vs=>match V.nums vs with
     | some is=>if kvs.length<1000000 then some (h.set a (.tdict (put kvs is v))) else none
     | none=>none
   | _=>none
 | _=>none:=rfl
theorem uR {f:V->V->Option Bool}{r:List V}:kA f x (v::r)=match f v x,kA f x r with
 | some b,some c=>some (b || c)
 | _,_=>none:=rfl
theorem n9:V.nums []=some []:=rfl
theorem lk:V.nums (v::vs)=match v.num,V.nums vs with
 | some i,some is=>some (i::is)
 | _,_=>none:=rfl
theorem n7 {i:Int}:V.num (.int i)=some i:=rfl
theorem lc {b:Bool}:V.num (.bool b)=some (if b then 1 else 0):=rfl
theorem wL {i:Int}:sliceTo h (.bytes bs) (.int i)=if 0≤i/\bs.length≤1000000 then some (.bytes (bs.take i.toNat),h) else none:=rfl
theorem A4 {i:Int}:sliceTo h (.tup vs) (.int i)=if 0≤i/\i<vs.length/\vs.length≤1000000 then some (.tup (vs.take i.toNat),h) else none:=rfl
theorem CP {i:Int}:sliceTo h (.flist vs) (.int i)=if 0≤i/\vs.length≤1000000 then dW h (vs.take i.toNat) else none:=rfl
theorem A5 {a:Nat}{i:Int}:sliceTo h (.ref a) (.int i)=match h[a]? with
 | some (.list vs)=>if 0≤i then dW h (vs.take i.toNat) else none
 | _=>none:=rfl
theorem wM {a:Nat}{i:Int}:sliceFrom h (.ref a) (.int i)=match h[a]? with
 | some (.list vs)=>if 0≤i then dW h (vs.drop i.toNat) else none
 | _=>none:=rfl
theorem i2 {p:Int->Int->Bool}{a b:Int}:vN p (.int a) (.int b)=some (p a b):=rfl
theorem yc {a c k:Nat}:gS h (.ref a) c k=match h[a]? with
 | some (.inst d fs)=>if d=c then fs[k]? else none
 | _=>none:=rfl
theorem A6 {a:Nat}:k8 h (.ref a)=match h[a]? with
 | some (.list vs)=>some vs
 | _=>none:=rfl
theorem ue {b:Bool}:truthy h (.bool b)=some b:=rfl
theorem wC {a:Nat}:truthy h (.ref a)=match h[a]? with
 | some (.list vs)=>some (!vs.isEmpty)
 | _=>none:=rfl
theorem A3 {k:Nat}(g:h[k]?=some (.list vs)):k8 h (.ref k)=some vs:=by rw[A6,g]
theorem oj {n:Int}:items h (.range n)=if-1000000<n/\n<1000000 then some ((List.range n.toNat).map fun(k:Nat)=>V.int k) else none:=rfl
end
end
end
section
variable {fs vs:List V}{k a d:Nat}{v:V}{ak r aO h':H}{es:pU}{e:En}{b:Int}
section
noncomputable def tG:List V->Option (List V)
 | [a]=>some [a,.int 0,.int 0,.int 0,.int 0,.bool false,.bool false]
 | [a,b]=>some [a,b,.int 0,.int 0,.int 0,.bool false,.bool false]
 | [a,b,c]=>some [a,b,c,.int 0,.int 0,.bool false,.bool false]
 | [a,b,c,d,e,f]=>some [a,b,c,d,e,f,.bool false]
 | _=>none
theorem Am {h:H}(g:h[a]?=some (.inst d fs)):setAttr h (.ref a) d k v=if d=d/\k<lq d then(if k<fs.length then some (h.set a (.inst d (fs.set k v))) else if k=fs.length then some (h.set a (.inst d (fs++[v]))) else none) else none:=by
 show(match h[a]? with | some (.inst d' fs)=>_ | _=>none)=_;rw[g]
theorem fK {h:H}(p:fs.length=k)(q:k<lq d):setAttr (h++.inst d fs::r) (.ref h.length) d k v=some (h++.inst d (fs++[v])::r):=by rw[Am (bC h _ r),ap ⟨rfl,q⟩,au (by lia),ap p.symm,fw];rfl
theorem qa {h:H}(g:h[a]?=some (.inst d fs))(p:k<fs.length)(q:k<lq d):setAttr h (.ref a) d k v=some (h.set a (.inst d (fs.set k v))):=by rw[Am g,ap ⟨rfl,q⟩,ap p]
theorem nN {h:H}(p:k<fs.length)(q:k<lq d):setAttr (h++.inst d fs::r) (.ref h.length) d k v=some (h++.inst d (fs.set k v)::r):=
 (qa (bC h _ r) p q).trans (ag some (fw h _ _))
theorem zp {N n:Nat}{h:H}{a b c d e f:V}:execs (av aw N n) N fN [some (.ref h.length),some a,some b,some c,some d,some e,some f] (h++[.inst 0 []])=some (.next,[some (.ref h.length),some a,some b,some c,some d,some e,some f],h++[.inst 0 [a,b,c,d,e,f,.bool false]]):=by have s:∀ {fs:List V} {v:V} {k:Nat} (p:fs.length=k) (q:k<7),setAttr (h++[.inst 0 fs]) (.ref h.length) 0 k v=some (h++[.inst 0 (fs++[v])]):=fun p q=>fK p q;exact an (bf (ac rfl) (dO (ac rfl) (s rfl (by decide)))) (an (bf (ac rfl) (dO (ac rfl) (s rfl (by decide)))) (an (bf (ac rfl) (dO (ac rfl) (s rfl (by decide)))) (an (bf (ac rfl) (dO (ac rfl) (s rfl (by decide)))) (an (bf (ac rfl) (dO (ac rfl) (s rfl (by decide)))) (an (bf (ac rfl) (dO (ac rfl) (s rfl (by decide)))) (an (bf ao (dO (ac rfl) (s rfl (by decide)))) aF))))))
theorem BO {N n:Nat}{h:H}(e:tG vs=some fs):av aw N (n+1) 0 (.ref h.length::vs) (h++[.inst 0 []])=some (.none,h++[.inst 0 fs]):=by
 have k:∀ {a b c d f g:V} {en:En},bindArgs eI (.ref h.length::vs)=some [some (.ref h.length),some a,some b,some c,some d,some f,some g]->av aw N (n+1) 0 (.ref h.length::vs) (h++[.inst 0 []])=some (.none,h++[.inst 0 [a,b,c,d,f,g,.bool false]]):=fun q=>Ay rfl q zp rfl;cases vs with
 | nil=>exact nn e
 | cons a vs=>cases vs with
   | nil=>exact sj e▸k (en:=[]) rfl
   | cons b vs=>cases vs with
     | nil=>exact sj e▸k (en:=[]) rfl
     | cons c vs=>cases vs with
       | nil=>exact sj e▸k (en:=[]) rfl
       | cons d vs=>cases vs with
         | nil=>exact nn e
         | cons f vs=>cases vs with
           | nil=>exact nn e
           | cons g vs=>cases vs with
             | nil=>exact sj e▸k (en:=[]) rfl
             | cons x vs=>exact nn e
theorem BD {N n:Nat}{h:H}(hv:dg (av aw N (n+1)) es e h=some (vs,ak))(hf:tG vs=some fs):
 ax (av aw N (n+1)) (.new 0 es) e h=some (.ref ak.length,ak++[.inst 0 fs]):=by
 exact wR hv (BO hf)
theorem gC {N' n':Nat}{h:H}(p:dg (av aw N' (n'+1)) es e h=some (vs,ak))(g:tG vs=some fs)(a:Al ak (.inst 0 fs) k aO):ax (av aw N' (n'+1)) (.new 0 es) e h=some (.ref k,aO):=by simp only[<-a.1,<-a.2];exact BD p g
noncomputable def Le (h h':H):Prop:=∀ (a:Nat) (o:O),h[a]?=some o->h'[a]?=some o
theorem Le.refl (h:H):Le h h:=fun y y e=>e
theorem Le.trans {h:H}(x:Le h ak)(y:Le ak aO):Le h aO:=fun a o e=>y a o (x a o e)
theorem Le.app (h x:H):Le h (h++x):=fun a o e=>by rw[List.getElem?_append_left (bP e).1];exact e
theorem Le.len {h:H}(x:Le h h'):h.length≤h'.length:=by
 rcases Nat.eq_zero_or_pos h.length with e | e
 ·lia
 ·have:=x (h.length-1) h[h.length-1] (by simp[e])
  have:=(bP this).1
  lia
theorem Le.set {h:H}{o:O}(x:Le h h')(ha:h.length≤a):Le h (h'.set a o):=fun b o' e=>by have hb:=(bP e).1;rw[List.getElem?_set_ne (by lia)];exact x b o' e
variable {N n:Nat}{h:H}
noncomputable def ways (i:I):List Int:=if i.op=0 then [i.out,i.arg] else if i.op=5 then [i.out] else []
theorem aU {a:Int}(h:a≠b):(a==b)=false:=by simp[h]
theorem beq_of_eq {a:Int}(h:a=b):(a==b)=true:=by simp[h]
theorem gu {i:I}(ha:h[a]?=some (.inst 0 i.fs)):av aw N (n+1) 10 [.ref a] h=some (.tup ((ways i).map .int),h):=by
 by_cases h0:i.op=0
 ·rw[ways,ap h0]
  apply cL (e:=[some (.ref a)]) rfl rfl
  ·skip
   exact(bb (bX (az (am (ac rfl) ha rfl) ao (ag some (beq_of_eq h0))) rfl (bb (bR (bS (ah (am (ac rfl) ha rfl) (ah (am (ac rfl) ha rfl) aN)))))))
  ·rfl
 ·rw[ways,au h0]
  by_cases h5:i.op=5
  ·rw[ap h5]
   apply cL (e:=[some (.ref a)]) rfl rfl
   ·skip
    exact(an (aS (az (am (ac rfl) ha rfl) ao (ag some (aJ h0))) rfl aF) (bb (bX (az (am (ac rfl) ha rfl) ao (ag some (beq_of_eq h5))) rfl (bb (bR (bS (ah (am (ac rfl) ha rfl) aN)))))))
   ·rfl
  ·rw[au h5]
   apply cL (e:=[some (.ref a)]) rfl rfl
   ·skip
    exact(an (aS (az (am (ac rfl) ha rfl) ao (ag some (aJ h0))) rfl aF) (an (aS (az (am (ac rfl) ha rfl) ao (ag some (aJ h5))) rfl aF) (bb (bR (bS aN)))))
   ·rfl
end
end
section
variable {a:Nat}{h':H}{i:I}
section
structure PD where
 insts:List I
 start:Int
 loose:Int
 rev:Bool
 as:Bool
 ae:Bool
 flat:Bool
 heads:List Int
 pre:List UInt8
 pf:Bool
noncomputable def aM (h:H):List Nat->List I->Prop
 | [],[]=>True
 | a::as,i::is=>h[a]?=some (.inst 0 i.fs)/\aM h as is
 | _,_=>False
theorem aM.len {h:H}:∀ {as:List Nat} {is:List I},aM h as is->as.length=is.length
 | [],[],_=>rfl
 | a::as,i::is,x=>by simp[aM.len x.2]
 | [],_::_,x=>x.elim
 | _::_,[],x=>x.elim
theorem aM.mono {h:H}(l:Le h h'):∀ {as:List Nat} {is:List I},aM h as is->aM h' as is
 | [],[],_=>trivial
 | a::as,i::is,x=>⟨l _ _ x.1,aM.mono l x.2⟩
 | [],_::_,x=>x.elim
 | _::_,[],x=>x.elim
theorem aM.get {h:H}:∀ {as:List Nat} {is:List I} {k:Nat} {i:I},aM h as is->is[k]?=some i->bp (fun a=>as[k]?=some a) (fun a=>h[a]?=some (.inst 0 i.fs))
 | a::as,i::is,0,j,x,e=>by simp at e;subst e;exact⟨a,rfl,x.1⟩
 | a::as,i::is,k+1,j,x,e=>by simp at e;obtain⟨b,h1,h2⟩:=aM.get x.2 e;exact⟨b,by simpa using h1,h2⟩
 | [],[],_,_,_,e=>by simp at e
 | [],_::_,_,_,x,_=>x.elim
 | _::_,[],_,_,x,_=>x.elim
theorem aM.app {h:H}:∀ {as bs:List Nat} {is js:List I},aM h as is->aM h bs js->aM h (as++bs) (is++js)
 | [],_,[],_,_,y=>y
 | a::as,_,i::is,_,x,y=>⟨x.1,aM.app x.2 y⟩
 | [],_,_::_,_,x,_=>x.elim
 | _::_,_,[],_,x,_=>x.elim
theorem aM.lt {h:H}:∀ {as:List Nat} {is:List I},aM h as is->∀a∈as,a<h.length
 | a::as,i::is,x,b,hb=>by
   rcases a_ hb with rfl | hb
   ·exact(bP x.1).1
   ·exact aM.lt x.2 b hb
 | [],[],_,_,hb=>by simp at hb
 | [],_::_,x,_,_=>x.elim
 | _::_,[],x,_,_=>x.elim
structure PA (h:H) (p L Hd:Nat) (as:List Nat) (d:PD):Prop where
 obj:h[p]?=some (.inst 1 [.ref L,.int d.start,.int d.loose,.bool d.rev,.bool d.as,.bool d.ae,.bool d.flat,.ref Hd,.bytes d.pre,.bool d.pf,.none])
 list:h[L]?=some (.list (as.map .ref))
 insts:aM h as d.insts
 heads:h[Hd]?=some (.list (d.heads.map .int))
theorem PA.mono {h:H}{p L Hd:Nat}{as:List Nat}{d:PD}(x:PA h p L Hd as d)(l:Le h h'):PA h' p L Hd as d:=⟨l _ _ x.obj,l _ _ x.list,x.insts.mono l,l _ _ x.heads⟩
theorem aY {h:H}{o:O}(e:h[a]?=some o)(x:H):(h++x)[a]?=some o:=Le.app h x a o e
variable {N n:Nat}{h:H}{p L Hd:Nat}{as:List Nat}{d:PD}
noncomputable def eN (d:PD):V:=.tup [.bool d.rev,.bool d.as,.bool d.ae,.bytes d.pre,.bool d.pf]
theorem lL (x:PA h p L Hd as d):av aw N (n+1) 19 [.ref p] h=some (eN d,h):=by
 have h1:=x.obj;apply cL (e:=[some (.ref p)]) rfl rfl
 ·skip
  exact(bb (bR (bS (ah (am (ac rfl) h1 rfl) (ah (am (ac rfl) h1 rfl) (ah (am (ac rfl) h1 rfl) (ah (am (ac rfl) h1 rfl) (ah (am (ac rfl) h1 rfl) aN))))))))
 ·rfl
noncomputable def f8 (i:I):List V:=[.int i.op,.int i.out,.int i.arg,.int i.low,.int i.high,.bool i.fold]
theorem Az (ha:h[a]?=some (.inst 0 i.fs)):av aw N (n+1) 20 [.ref a] h=some (.tup (f8 i),h):=by
 apply cL (e:=[some (.ref a)]) rfl rfl
 ·skip
  exact(bb (bR (bS (ah (am (ac rfl) ha rfl) (ah (am (ac rfl) ha rfl) (ah (am (ac rfl) ha rfl) (ah (am (ac rfl) ha rfl) (ah (am (ac rfl) ha rfl) (ah (am (ac rfl) ha rfl) aN)))))))))
 ·rfl
theorem BP (ha:h[a]?=some (.inst 0 i.fs)):av aw N (n+1) 14 [.ref a] h=some (.tup (f8 i),h):=by
 apply cL (e:=[some (.ref a)]) rfl rfl
 ·skip
  exact(bb (bR (bS (ah (am (ac rfl) ha rfl) (ah (am (ac rfl) ha rfl) (ah (am (ac rfl) ha rfl) (ah (am (ac rfl) ha rfl) (ah (am (ac rfl) ha rfl) (ah (am (ac rfl) ha rfl) aN)))))))))
 ·rfl
theorem qr {e:En}:ax (av aw N (n+2)) (.new 1 .nil) e h=some (.ref h.length,h++[.inst 1 [.ref (h.length+2),.int 0,.int 0,.bool false,.bool false,.bool false,.bool false,.ref (h.length+3),.bytes [],.bool false,.none],
 .inst 0 [.int 6,.int 0,.int 0,.int 0,.int 0,.bool false,.bool false],.list [.ref (h.length+1)],.list []]):=by
 apply wR aN;apply Ay (e:=[some (.ref h.length)]) rfl rfl
 ·skip
  exact(an (bf (bA (ah (gC (ah ao aN) rfl lO) aN) (aj rfl) wb) (dO (ac rfl) (fK rfl (aj rfl)))) (an (bf ao (dO (ac rfl) (fK rfl (aj rfl)))) (an (bf ao (dO (ac rfl) (fK rfl (aj rfl)))) (an (bf ao (dO (ac rfl) (fK rfl (aj rfl)))) (an (bf ao (dO (ac rfl) (fK rfl (aj rfl)))) (an (bf ao (dO (ac rfl) (fK rfl (aj rfl)))) (an (bf ao (dO (ac rfl) (fK rfl (aj rfl)))) (an (bf (bA aN (aj rfl) Aa) (dO (ac rfl) (fK rfl (aj rfl)))) (an (bf ao (dO (ac rfl) (fK rfl (aj rfl)))) (an (bf ao (dO (ac rfl) (fK rfl (aj rfl)))) (an (bf ao (dO (ac rfl) (fK rfl (aj rfl)))) aF)))))))))))
 ·rfl
end
end
section
variable {a:Nat}{vs:List V}
section
noncomputable def dz.nth:dz->Nat->St
 | .cons s _,0=>s
 | .cons _ r,k+1=>r.nth k
 | .nil,_=>.bad
noncomputable def St.body:St->dz
 | .for_ _ _ b=>b
 | .while_ _ b=>b
 | .if_ _ a _=>a
 | _=>.nil
theorem xZ {h ak:H}(e:yh ak[a]? h[a]?):dy ak (.ref a) h=true:= @decide_eq_true _ (Classical.propDecidable _) e
theorem cB {h ak:H}(bt:ak[a]?=some (.list vs))(e:h[a]?=some (.list vs)):dy ak (.ref a) h=true:=xZ (by rw[bt,e];exact .list)
theorem iI {h ak:H}:dy ak (.tup vs) h=true:=rfl
theorem mo {h ak:H}{k:Int}:dy ak (.range k) h=true:=rfl
theorem lI {h ak:H}{us vs:List (Int×V)}(bt:ak[a]?=some (.idict us))(e:h[a]?=some (.idict vs))(hk:us.map (·.1)=vs.map (·.1)):dy ak (.ref a) h=true:=xZ (by rw[bt,e];exact .dict hk)
section
variable {s:St}{r:dz}
variable {call:bV}{N:Nat}{e bt:En}{h ak:H}
theorem aC (hs:exec call N s e h=some (.next,bt,ak)):execs call N (.cons s r) e h=execs call N r bt ak:=an hs rfl
theorem fr {v:V}(hs:exec call N s e h=some (.ret v,bt,ak)):execs call N (.cons s r) e h=some (.ret v,bt,ak):=bb hs
theorem fc {k:Nat}{it:Ex}{b:dz}{x:V}{vs:List V}{o:mx}(h1:ax call it e h=some (x,ak))(h2:items ak x=some vs)(hk:k<e.length)(h3:dR k (bn call N b) (dy ak x) vs e ak=o):
 exec call N (.for_ k it b) e h=o:=by
 rw[BC,h1];simp only[h2,hk,if_true,h3]
end
theorem fu {N n f:Nat}{vs:List V}{h h':H}{fd:FD}{e e':En}{v:V}(hf:aw[f]?=some fd)(hb:bindArgs fd vs=some e)(hx:execs (av aw N n) N fd.body e h=some (.ret v,e',h')):
 av aw N (n+1) f vs h=some (v,h'):=by
 rw[o8 hf,hb];simp only[hx]
variable {N n:Nat}{h:H}{p L Hd:Nat}{as:List Nat}{d:PD}
theorem jB {h:H}{g:V->H->Option (List V×H)}{chk:H->Bool}{r:I->V}(hc:chk h=true)(hg:∀a i,h[a]?=some (.inst 0 i.fs)->g (.ref a) h=some ([r i],h)):
 ∀ {as:List Nat} {is:List I},aM h as is->dv g chk (as.map .ref) h=some (is.map r,h)
 | [],[],_=>by simp[jC,dj,hc]
 | a::as,i::is,x=>by
   rw[List.map_cons,dj,ap hc,hg a i x.1];simp only[jB hc hg x.2]
   rfl
 | [],_::_,x=>x.elim
 | _::_,[],x=>x.elim
noncomputable def gY (i:I):V:=.tup (f8 i++[.bool i.last])
theorem BL (x:PA h p L Hd as d)(h1:d.insts.length≤1000000)(h2:d.heads.length≤1000000):
 av aw N (n+2) 21 [.ref p] h=some (.tup [.ref h.length,.int d.start,.int d.loose,.bool d.flat,.ref (h.length+1),eN d],h++[.list (d.insts.map gY),.list (d.heads.map .int)]):=by
 have x1:=x.obj;have x2:=x.list;have hp:∀y,(h++y)[p]?=_:=aY x.obj;have hh:∀y,(h++y)[Hd]?=_:=aY x.heads;have hm:∀y,av aw N (n+1) 19 [.ref p] (h++y)=some (eN d,h++y):=fun y=>lL (x.mono (Le.app h y));have hl:(d.insts.map gY).length≤1000000:=by rw[aD];exact h1
 have hl2:(d.heads.map V.int).length≤1000000:=by rw[aD];exact h2
 have hc:dv (ig (av aw N (n+1)) (.bin .add (.call 20 (.cons (.var 1) .nil)) (.tup (.cons (.attr (.var 1) 0 6) .nil))) 1 [some (.ref p),none,none]) (dy h (.ref L)) (as.map .ref) h=some (d.insts.map gY,h):=jB (cB x2 x2) (fun a i ha=>by have hk:=Az (N:=N) (n:=n) ha;exact(k9 (cm (bL (ah (ac rfl) aN) hk) (bS (ah (am (ac rfl) ha rfl) aN)) rfl))) x.insts
 apply cL (e:=[some (.ref p),none,none]) rfl rfl
 ·exact(an (bf (kD (am (ac rfl) x1 rfl) (dG x2) hc hl fJ) (bk (aj rfl))) (bb (bR (bS (ah (ac rfl) (ah (am (ac rfl) (hp _) rfl) (ah (am (ac rfl) (hp _) rfl) (ah (am (ac rfl) (hp _) rfl) (ah (wS (am (ac rfl) (hp _) rfl) (hh _) hl2 lO) (ah (bL (ah (ac rfl) aN) (hm _)) aN))))))))))
 ·rfl
end
end
section
variable {k:Nat}
section
structure pS (m:Nat) (i:I):Prop where
 op0:0≤i.op
 op6:i.op≤6
 out:i.op≠4->i.op≠6->0≤i.out/\i.out<m
 alt:i.op=0->0≤i.arg/\i.arg<m
 rng:i.op=1->0≤i.low/\i.low≤i.high/\i.high≤255
 cap:i.op=2->2≤i.arg/\i.arg≤5
 emp:i.op=3->1≤i.arg/\i.arg≤63
 mat:i.op=4->0≤i.arg/\i.arg≤2
noncomputable abbrev dD:=Int×Nat×List Int
noncomputable def cF (c:dD):V:=.tup [.int c.1,.int c.2.1,.tup (c.2.2.map .int)]
noncomputable def sX (x y:Int):Int:=((x.toNat&&& y.toNat:Nat):Int)
noncomputable def n5 (i:I) (t:Int):Int:=if i.fold=true/\65≤t/\t≤90 then t+32 else t
noncomputable def qA (text:List UInt8) (at_:Nat):Int:=((text.getD at_ 0).toNat:Int)
noncomputable def cQ (text:List UInt8) (holds:List Int) (i:I) (at_:Nat) (k:List Int):List dD:=
 if i.op=0 then [(i.out,at_,k),(i.arg,at_,k)]
 else if i.op=5\/(i.op=3/\sX (holds.getD at_ 0) i.arg=i.arg) then [(i.out,at_,k)]
 else if i.op=2 then [(i.out,at_,k.take (i.arg-2).toNat++[(at_:Int)]++k.drop (i.arg-1).toNat)]
 else if i.op=4 then [(-1-i.arg,at_,k)]
 else if i.op=1/\at_<text.length/\i.low≤n5 i (qA text at_)/\n5 i (qA text at_)≤i.high then [(i.out,at_+1,k)]
 else []
variable {N n:Nat}{h:H}
noncomputable abbrev Dm:Ex:=.ite (.and (.cons (.attr (.var 0) 0 5) (.cons (.cmp (.lit (.int 65)) (.more .le (.sub (.var 3) (.var 1)) (.one .le (.lit (.int 90))))) (.nil)))) (.bin .add (.sub (.var 3) (.var 1)) (.lit (.int 32))) (.sub (.var 3) (.var 1))
theorem sub_int {l:List Int}{hl:Nat}{t:Int}(g:h[hl]?=some (.list (l.map .int)))(p:l[k]?=some t):cP h (.ref hl) (.int k)=some (.int t):=by
 have hk:=(bP p).1;rw[iw,g];dsimp only;rw[iS,ap (Int.natCast_nonneg _),aD,ap (Int.ofNat_lt.mpr hk)]
 show(l.map V.int)[k]?=_
 rw[List.getElem?_map,p];rfl
theorem wJ {bs:List UInt8}(p:k<bs.length)(q:bs.length≤1000000):cP h (.bytes bs) (.int k)=some (.int (qA bs k)):=ap ⟨q,Int.natCast_nonneg _,Int.ofNat_lt.mpr p⟩
theorem BK {a hl_ at_ m:Nat}{i:I}{k:List Int}{text:List UInt8}{holds:List Int}(ha:h[a]?=some (.inst 0 i.fs))(w:pS m i)(hk:k.length=4)(ht:text.length≤1000000)(hh:h[hl_]?=some (.list (holds.map .int)))(hat:at_<holds.length)(hpos:∀x∈holds,0≤x):
 av aw N (n+1) 23 [.ref a,.int at_,.tup (k.map .int),.bytes text,.ref hl_] h=some (.ref h.length,h++[.list ((cQ text holds i at_ k).map cF)]):=by
 obtain⟨t,hx⟩:∃t,holds[at_]?=some t:=⟨_,List.getElem?_eq_getElem hat⟩;have hg:holds.getD at_ 0=t:=by simp[List.getD,hx]
 have hx0:0≤t:=hpos _ (List.mem_of_getElem? hx)
 by_cases h0:i.op=0
 ·rw[cQ,ap h0]
  apply cL (e:=[some (.ref a),some (.int at_),some (.tup (k.map .int)),some (.bytes text),some (.ref hl_),none]) rfl rfl
  ·skip
   exact(bb (bX (az (am (ac rfl) ha rfl) ao rfl) (ag some (beq_of_eq h0)) (bb (bR (bA (ah (bS (ah (am (ac rfl) ha rfl) (ah (ac rfl) (ah (ac rfl) aN)))) (ah (bS (ah (am (ac rfl) ha rfl) (ah (ac rfl) (ah (ac rfl) aN)))) aN)) (aj rfl) fJ)))))
  ·rfl
 by_cases h5:i.op=5
 ·rw[cQ,au h0,ap (.inl h5)]
  apply cL (e:=[some (.ref a),some (.int at_),some (.tup (k.map .int)),some (.bytes text),some (.ref hl_),none]) rfl rfl
  ·skip
   exact(an (aS (az (am (ac rfl) ha rfl) ao rfl) (ag some (aU h0)) aF) (bb (bX (dP (sk (az (am (ac rfl) ha rfl) ao rfl) (ag some (beq_of_eq h5)))) (ag some (beq_of_eq h5)) (bb (bR (bA (ah (bS (ah (am (ac rfl) ha rfl) (ah (ac rfl) (ah (ac rfl) aN)))) aN) (aj rfl) fJ))))))
  ·rfl
 by_cases h3:i.op=3
 ·obtain⟨e1,e2⟩:=w.emp h3
  have hb:band t i.arg=some (sX t i.arg):=ap ⟨hx0,by lia⟩
  have hs:cP h (.ref hl_) (.int at_)=some (.int t):=sub_int hh hx;have hbb:jE h .band (.int t) (.int i.arg)=some (.int (sX t i.arg),h):=ag (fun z:Option Int=>z.map fun z=>(V.int z,h)) hb;have h2:i.op≠2:=by lia
  have h4:i.op≠4:=by lia
  have h1:i.op≠1:=by lia
  by_cases hq:sX t i.arg=i.arg
  ·rw[cQ,au h0,hg,ap (.inr ⟨h3,hq⟩)]
   apply cL (e:=[some (.ref a),some (.int at_),some (.tup (k.map .int)),some (.bytes text),some (.ref hl_),none]) rfl rfl
   ·skip
    exact(an (aS (az (am (ac rfl) ha rfl) ao rfl) (ag some (aU h0)) aF) (bb (bX (dP (cS (az (am (ac rfl) ha rfl) ao rfl) (ag some (aU h5)) (cV (bD (cg (az (am (ac rfl) ha rfl) ao rfl) (ag some (beq_of_eq h3)) (ch (az (cm (bE (ac rfl) (ac rfl) hs) (am (ac rfl) ha rfl) hbb) (am (ac rfl) ha rfl) rfl))))))) (ag some (beq_of_eq hq)) (bb (bR (bA (ah (bS (ah (am (ac rfl) ha rfl) (ah (ac rfl) (ah (ac rfl) aN)))) aN) (aj rfl) fJ))))))
   ·rfl
  ·rw[cQ,au h0,hg,au (fun z=>z.elim h5 fun z=>hq z.2),au h2,au h4,au fun z=>h1 z.1]
   apply cL (e:=[some (.ref a),some (.int at_),some (.tup (k.map .int)),some (.bytes text),some (.ref hl_),none]) rfl rfl
   ·skip
    exact(an (aS (az (am (ac rfl) ha rfl) ao rfl) (ag some (aU h0)) aF) (an (aS (dP (cS (az (am (ac rfl) ha rfl) ao rfl) (ag some (aU h5)) (cV (bD (cg (az (am (ac rfl) ha rfl) ao rfl) (ag some (beq_of_eq h3)) (ch (az (cm (bE (ac rfl) (ac rfl) hs) (am (ac rfl) ha rfl) hbb) (am (ac rfl) ha rfl) rfl))))))) (ag some (aU hq)) aF) (an (aS (az (am (ac rfl) ha rfl) ao rfl) (ag some (aU h2)) aF) (an (aS (az (am (ac rfl) ha rfl) ao rfl) (ag some (aU h4)) aF) (an (aS (bD (cr (az (am (ac rfl) ha rfl) ao rfl) (ag some (aU h1)))) (ag some (aU h1)) aF) (bb (bR (bA aN (aj rfl) fJ))))))))
   ·rfl
 have n53:¬ (i.op=5\/(i.op=3/\sX (holds.getD at_ 0) i.arg=i.arg)):=fun z=>z.elim h5 fun z=>h3 z.1;rw[cQ,au h0,au n53]
 by_cases h2:i.op=2
 ·obtain⟨e1,e2⟩:=w.cap h2
  obtain⟨k0,k1,k2,k3,rfl⟩:yo (fun k0 k1 k2 k3=>k=[k0,k1,k2,k3]):=by
   match k,hk with
   | [a,b,c,d],_=>exact⟨a,b,c,d,rfl⟩
  rw[ap h2];have he:i.arg=2\/i.arg=3\/i.arg=4\/i.arg=5:=by lia
  have s1:sliceTo h (.tup ([k0,k1,k2,k3].map .int)) (.int (i.arg-2))=some (.tup (([k0,k1,k2,k3].take (i.arg-2).toNat).map .int),h):=by rcases he with he | he | he | he<;>rw[he]<;>rfl
  have s2:sliceFrom h (.tup ([k0,k1,k2,k3].map .int)) (.int (i.arg-1))=some (.tup (([k0,k1,k2,k3].drop (i.arg-1).toNat).map .int),h):=by rcases he with he | he | he | he<;>rw[he]<;>rfl
  have s3:jE h .add (.tup (([k0,k1,k2,k3].take (i.arg-2).toNat).map .int)) (.tup [.int at_])=some (.tup (([k0,k1,k2,k3].take (i.arg-2).toNat++[(at_:Int)]).map .int),h):=by rcases he with he | he | he | he<;>rw[he]<;>rfl
  have s4:jE h .add (.tup (([k0,k1,k2,k3].take (i.arg-2).toNat++[(at_:Int)]).map .int)) (.tup (([k0,k1,k2,k3].drop (i.arg-1).toNat).map .int))=some (.tup (([k0,k1,k2,k3].take (i.arg-2).toNat++[(at_:Int)]++[k0,k1,k2,k3].drop (i.arg-1).toNat).map .int),h):=by rcases he with he | he | he | he<;>rw[he]<;>rfl
  apply cL (e:=[some (.ref a),some (.int at_),some (.tup ([k0,k1,k2,k3].map .int)),some (.bytes text),some (.ref hl_),none]) rfl rfl
  ·skip
   exact(an (aS (az (am (ac rfl) ha rfl) ao rfl) (ag some (aU h0)) aF) (an (aS (dP (cS (az (am (ac rfl) ha rfl) ao rfl) (ag some (aU h5)) (cV (bD (cr (az (am (ac rfl) ha rfl) ao rfl) (ag some (aU h3))))))) (ag some (aU h3)) aF) (bb (bX (az (am (ac rfl) ha rfl) ao rfl) (ag some (beq_of_eq h2)) (bb (bR (bA (ah (bS (ah (am (ac rfl) ha rfl) (ah (ac rfl) (ah (cm (cm (jM (ac rfl) (cm (am (ac rfl) ha rfl) ao rfl) s1) (bS (ah (ac rfl) aN)) s3) (jg (ac rfl) (cm (am (ac rfl) ha rfl) ao rfl) s2) s4) aN)))) aN) (aj rfl) fJ)))))))
  ·rfl
 rw[au h2]
 by_cases h4:i.op=4
 ·rw[ap h4]
  apply cL (e:=[some (.ref a),some (.int at_),some (.tup (k.map .int)),some (.bytes text),some (.ref hl_),none]) rfl rfl
  ·skip
   exact(an (aS (az (am (ac rfl) ha rfl) ao rfl) (ag some (aU h0)) aF) (an (aS (dP (cS (az (am (ac rfl) ha rfl) ao rfl) (ag some (aU h5)) (cV (bD (cr (az (am (ac rfl) ha rfl) ao rfl) (ag some (aU h3))))))) (ag some (aU h3)) aF) (an (aS (az (am (ac rfl) ha rfl) ao rfl) (ag some (aU h2)) aF) (bb (bX (az (am (ac rfl) ha rfl) ao rfl) (ag some (beq_of_eq h4)) (bb (bR (bA (ah (bS (ah (cm (kf ao) (am (ac rfl) ha rfl) rfl) (ah (ac rfl) (ah (ac rfl) aN)))) aN) (aj rfl) fJ))))))))
  ·rfl
 rw[au h4]
 by_cases h1:i.op=1
 ·by_cases hl:at_<text.length
  ·obtain⟨b,hb⟩:∃b:Int,qA text at_=b:=⟨_,rfl⟩
   have hs:cP h (.bytes text) (.int at_)=some (.int b):=hb▸wJ hl ht;have hl':(at_:Int)< (text.length:Int):=Int.ofNat_lt.mpr hl;rw[hb]
   generalize hq:n5 i b=q
   have ho:ax (av aw N n) Dm [some (.ref a),some (.int at_),some (.tup (k.map .int)),some (.bytes text),some (.ref hl_),none] h=some (.int q,h):=by
    cases hf:i.fold with
    | false=>
      rw[<-hq,n5,au fun z=>by rw[hf] at z;cases z.1]
      exact(kC (bD (cr (am (ac rfl) ha rfl) (ag some hf))) (ag some hf) (bE (ac rfl) (ac rfl) hs))
    | true=>
      by_cases g1:65≤b
      ·by_cases g2:b≤90
       ·rw[<-hq,n5,ap ⟨hf,g1,g2⟩]
        exact(qM (bD (cg (am (ac rfl) ha rfl) (ag some hf) (ch (fL ao (nS (bE (ac rfl) (ac rfl) hs) (ag some (aW g1)) (pK ao rfl)))))) (ag some (aW g2)) (cm (bE (ac rfl) (ac rfl) hs) ao rfl))
       ·rw[<-hq,n5,au fun z=>g2 z.2.2]
        exact(kC (bD (cg (am (ac rfl) ha rfl) (ag some hf) (ch (fL ao (nS (bE (ac rfl) (ac rfl) hs) (ag some (aW g1)) (pK ao rfl)))))) (ag some (aJ g2)) (bE (ac rfl) (ac rfl) hs))
      ·rw[<-hq,n5,au fun z=>g1 z.2.1]
       exact(kC (bD (cg (am (ac rfl) ha rfl) (ag some hf) (ch (fL ao (CX (bE (ac rfl) (ac rfl) hs) (ag some (aJ g1))))))) rfl (bE (ac rfl) (ac rfl) hs))
   by_cases l1:i.low≤q
   ·by_cases l2:q≤i.high
    ·rw[ap ⟨h1,hl,l1,l2⟩]
     apply cL (e:=[some (.ref a),some (.int at_),some (.tup (k.map .int)),some (.bytes text),some (.ref hl_),none]) rfl rfl
     ·skip
      exact(an (aS (az (am (ac rfl) ha rfl) ao rfl) (ag some (aU h0)) aF) (an (aS (dP (cS (az (am (ac rfl) ha rfl) ao rfl) (ag some (aU h5)) (cV (bD (cr (az (am (ac rfl) ha rfl) ao rfl) (ag some (aU h3))))))) (ag some (aU h3)) aF) (an (aS (az (am (ac rfl) ha rfl) ao rfl) (ag some (aU h2)) aF) (an (aS (az (am (ac rfl) ha rfl) ao rfl) (ag some (aU h4)) aF) (bb (bX (bD (cg (az (am (ac rfl) ha rfl) ao rfl) (ag some (beq_of_eq h1)) (ch (az (ac rfl) (qL (ac rfl) ht) rfl)))) (ag some (aW hl')) (an (bf ho (bk (aj rfl))) (bb (bX (fL (am (ac rfl) ha rfl) (nS (ac rfl) (ag some (aW l1)) (pK (am (ac rfl) ha rfl) rfl))) (ag some (aW l2)) (bb (bR (bA (ah (bS (ah (am (ac rfl) ha rfl) (ah (cm (ac rfl) ao rfl) (ah (ac rfl) aN)))) aN) (aj rfl) fJ))))))))))))
     ·rfl
    ·rw[au fun z=>l2 z.2.2.2]
     apply cL (e:=[some (.ref a),some (.int at_),some (.tup (k.map .int)),some (.bytes text),some (.ref hl_),none]) rfl rfl
     ·skip
      exact(an (aS (az (am (ac rfl) ha rfl) ao rfl) (ag some (aU h0)) aF) (an (aS (dP (cS (az (am (ac rfl) ha rfl) ao rfl) (ag some (aU h5)) (cV (bD (cr (az (am (ac rfl) ha rfl) ao rfl) (ag some (aU h3))))))) (ag some (aU h3)) aF) (an (aS (az (am (ac rfl) ha rfl) ao rfl) (ag some (aU h2)) aF) (an (aS (az (am (ac rfl) ha rfl) ao rfl) (ag some (aU h4)) aF) (an (bX (bD (cg (az (am (ac rfl) ha rfl) ao rfl) (ag some (beq_of_eq h1)) (ch (az (ac rfl) (qL (ac rfl) ht) rfl)))) (ag some (aW hl')) (an (bf ho (bk (aj rfl))) (an (aS (fL (am (ac rfl) ha rfl) (nS (ac rfl) (ag some (aW l1)) (pK (am (ac rfl) ha rfl) rfl))) (ag some (aJ l2)) aF) aF))) (bb (bR (bA aN (aj rfl) fJ))))))))
     ·rfl
   ·rw[au fun z=>l1 z.2.2.1]
    apply cL (e:=[some (.ref a),some (.int at_),some (.tup (k.map .int)),some (.bytes text),some (.ref hl_),none]) rfl rfl
    ·skip
     exact(an (aS (az (am (ac rfl) ha rfl) ao rfl) (ag some (aU h0)) aF) (an (aS (dP (cS (az (am (ac rfl) ha rfl) ao rfl) (ag some (aU h5)) (cV (bD (cr (az (am (ac rfl) ha rfl) ao rfl) (ag some (aU h3))))))) (ag some (aU h3)) aF) (an (aS (az (am (ac rfl) ha rfl) ao rfl) (ag some (aU h2)) aF) (an (aS (az (am (ac rfl) ha rfl) ao rfl) (ag some (aU h4)) aF) (an (bX (bD (cg (az (am (ac rfl) ha rfl) ao rfl) (ag some (beq_of_eq h1)) (ch (az (ac rfl) (qL (ac rfl) ht) rfl)))) (ag some (aW hl')) (an (bf ho (bk (aj rfl))) (an (aS (fL (am (ac rfl) ha rfl) (CX (ac rfl) (ag some (aJ l1)))) rfl aF) aF))) (bb (bR (bA aN (aj rfl) fJ))))))))
    ·rfl
  ·rw[au fun z=>hl z.2.1]
   have hl':¬ (at_:Int)< (text.length:Int):=fun z=>hl (Int.ofNat_lt.mp z);apply cL (e:=[some (.ref a),some (.int at_),some (.tup (k.map .int)),some (.bytes text),some (.ref hl_),none]) rfl rfl
   ·skip
    exact(an (aS (az (am (ac rfl) ha rfl) ao rfl) (ag some (aU h0)) aF) (an (aS (dP (cS (az (am (ac rfl) ha rfl) ao rfl) (ag some (aU h5)) (cV (bD (cr (az (am (ac rfl) ha rfl) ao rfl) (ag some (aU h3))))))) (ag some (aU h3)) aF) (an (aS (az (am (ac rfl) ha rfl) ao rfl) (ag some (aU h2)) aF) (an (aS (az (am (ac rfl) ha rfl) ao rfl) (ag some (aU h4)) aF) (an (aS (bD (cg (az (am (ac rfl) ha rfl) ao rfl) (ag some (beq_of_eq h1)) (ch (az (ac rfl) (qL (ac rfl) ht) rfl)))) (ag some (aJ hl')) aF) (bb (bR (bA aN (aj rfl) fJ))))))))
   ·rfl
 ·rw[au fun z=>h1 z.1]
  apply cL (e:=[some (.ref a),some (.int at_),some (.tup (k.map .int)),some (.bytes text),some (.ref hl_),none]) rfl rfl
  ·skip
   exact(an (aS (az (am (ac rfl) ha rfl) ao rfl) (ag some (aU h0)) aF) (an (aS (dP (cS (az (am (ac rfl) ha rfl) ao rfl) (ag some (aU h5)) (cV (bD (cr (az (am (ac rfl) ha rfl) ao rfl) (ag some (aU h3))))))) (ag some (aU h3)) aF) (an (aS (az (am (ac rfl) ha rfl) ao rfl) (ag some (aU h2)) aF) (an (aS (az (am (ac rfl) ha rfl) ao rfl) (ag some (aU h4)) aF) (an (aS (bD (cr (az (am (ac rfl) ha rfl) ao rfl) (ag some (aU h1)))) (ag some (aU h1)) aF) (bb (bR (bA aN (aj rfl) fJ))))))))
  ·rfl
end
end
section
section
theorem rS (text:List UInt8)(holds:List Int)(i:I)(at_:Nat)(k:List Int):(cQ text holds i at_ k).length≤2:=by
 unfold cQ
 repeat (split; · simp)
 simp
noncomputable def cM:dz:=(eW.nth 1).body
noncomputable def rN:dz:=(cM.nth 5).body
variable {N n:Nat}
theorem sD {H:H}{hl at_ m:Nat}{k:List Int}{text:List UInt8}{holds:List Int}{L2:O}{chk:Mine.H->Bool}{x0 x1 x4 x5 x6 x7 x8:Option V}(hk:k.length=4)(ht:text.length≤1000000)(hh:H[hl]?=some (.list (holds.map .int)))(hat:at_<holds.length)(hpos:∀x∈holds,0≤x)
 (hchk:∀a J,chk (H++a::L2::J)=true):
 ∀ (is:List I) (bs:List Nat) (acc:List dD) (J:Mine.H) (x12:Option V),aM H bs is->(∀i∈is,pS m i)->acc.length+2*is.length≤1000000->
   mS (fun J' x'=>dR 12 (bn (av aw N (n+1)) N rN) chk (bs.map .ref) [x0,x1,some (.bytes text),some (.ref hl),x4,x5,x6,x7,x8,some (.int at_),some (.tup (k.map .int)),some (.ref H.length),x12] (H++.list (acc.map cF)::L2::J)=
    some (.next,[x0,x1,some (.bytes text),some (.ref hl),x4,x5,x6,x7,x8,some (.int at_),some (.tup (k.map .int)),some (.ref H.length),x'],H++.list ((acc++is.flatMap fun i=>cQ text holds i at_ k).map cF)::L2::J')):=by
 intro is
 induction is with
 | nil=>
   intro v9;cases v9 with
   | nil=>
     intro acc J x12 _ _ _;exact⟨J,x12,by simp[eC,bK,hchk]⟩
   | cons _ _=>
     intro _ _ _ x _ _;exact x.elim
 | cons i is ih=>
   intro v9;cases v9 with
   | nil=>
     intro _ _ _ x _ _;exact x.elim
   | cons b bs=>
     intro acc J x12 hi hw hlen;have hl2:=rS text holds i at_ k;simp only[List.length_cons] at hlen;obtain⟨J',x',hr⟩:=ih bs (acc++cQ text holds i at_ k) (J++[.list ((cQ text holds i at_ k).map cF)]) (some (.ref b)) hi.2 (fun j hj=>hw j (aP _ hj)) (by rw[bd];lia)
     refine⟨J',x',?_⟩;rw[List.map_cons,bK,ap (hchk _ _)];have hc:=BK (N:=N) (n:=n) (h:=H++.list (acc.map cF)::L2::J) (aY hi.1 _) (hw i aK) hk ht (aY hh _) hat hpos
     have hb:bn (av aw N (n+1)) N rN ([x0,x1,some (.bytes text),some (.ref hl),x4,x5,x6,x7,x8,some (.int at_),some (.tup (k.map .int)),some (.ref H.length),x12].set 12 (some (.ref b))) (H++.list (acc.map cF)::L2::J)=
      some (.next,[x0,x1,some (.bytes text),some (.ref hl),x4,x5,x6,x7,x8,some (.int at_),some (.tup (k.map .int)),some (.ref H.length),some (.ref b)],H++.list ((acc++cQ text holds i at_ k).map cF)::L2::(J++[.list ((cQ text holds i at_ k).map cF)])):=by
      have hg:acc.length+(cQ text holds i at_ k).length≤1000000:=by lia
      have hg':(acc.map cF).length+((cQ text holds i at_ k).map cF).length≤1000000:=by rw[aD,aD];exact hg
      have hn:H.length≠(H++.list (acc.map cF)::L2::J).length:=by rw[bd,List.length_cons];lia
      rw[List.map_append]
      show execs _ _ rN _ _=_
      refine iq (wo (ac rfl) br (bL (ah (ac rfl) (ah (ac rfl) (ah (ac rfl) (ah (ac rfl) (ah (ac rfl) aN))))) hc) ?_ br ⟨hn,hg'⟩ ?_)
      ·exact aY br _
      ·rw[aH];exact dE
     rw[hb];simp only[hr,List.flatMap_cons,aH]
noncomputable abbrev jd:=Int×Nat
noncomputable def oa (m:List jd):O:=if m=[] then .idict [] else .tdict (m.map fun q=>([q.1,(q.2:Int)],.bool true))
inductive Run (W:dD->List dD):List dD->List jd->List dD->List jd->Prop
 | nil (m:List jd):Run W [] m [] m
 | skip {c:dD} {S:List dD} {m:List jd} {o:List dD} {m':List jd}:(c.1,c.2.1)∈m->Run W S m o m'->Run W (c::S) m o m'
 | emit {c:dD} {S:List dD} {m:List jd} {o:List dD} {m':List jd}:(c.1,c.2.1)∉m->c.1<0->Run W S (m++[(c.1,c.2.1)]) o m'->Run W (c::S) m ((-1-c.1,c.2)::o) m'
 | go {c:dD} {S:List dD} {m:List jd} {o:List dD} {m':List jd}:(c.1,c.2.1)∉m->0≤c.1->Run W (W c++S) (m++[(c.1,c.2.1)]) o m'->Run W (c::S) m o m'
structure qu (N n:Nat) (h:H) (p:Nat) (lst:Int->List I) (m:Nat) (U:Int->Prop):Prop where
 get:∀k,U k->0≤k->bp (fun bs=>aM h bs (lst k)) (fun bs=>∀Y,av aw N (n+1) 22 [.ref p,.int k] (h++Y)=some (.ref (h++Y).length,h++Y++[.list (bs.map .ref)]))
 wf:∀k,U k->0≤k->∀i∈lst k,pS m i
 small:∀k,U k->0≤k->(lst k).length≤100
noncomputable def dK (text:List UInt8) (holds:List Int) (lst:Int->List I) (c:dD):List dD:=(lst c.1).flatMap fun i=>cQ text holds i c.2.1 c.2.2
noncomputable def e_ (p hl b:Nat) (start:Int) (text:List UInt8) (y:List (Option V)):En:=[some (.ref p),some (.int start),some (.bytes text),some (.ref hl),some (.ref b),some (.ref (b+1)),some (.ref (b+2)),some (.ref (b+3))]++y
noncomputable def ce (h:H) (o:List dD) (m:List jd) (S:List dD) (J:H):H:=h++.list (o.map cF)::.idict []::oa m::.list (S.reverse.map cF)::J
end
end
section
section
variable {call:bV}{N:Nat}{e bt:En}{h ak:H}
theorem oQ {s:St}{r:dz}(hs:exec call N s e h=some (.cont,bt,ak)):execs call N (.cons s r) e h=some (.cont,bt,ak):=cT hs
theorem execs_nil:execs call N .nil e h=some (.next,e,h):=aF
end
variable {m:List jd}{c:dD}{S o:List dD}{J:H}{y11 y12 y10:Option V}{a:Int}{b r:Nat}
theorem uz:(m.map fun q=>([q.1,(q.2:Int)],V.bool true)).any (fun p=>decide (p.1=[a,(b:Int)]))=decide ((a,b)∈m):=by
 induction m with
 | nil=>rfl
 | cons q m ih=>
   obtain⟨x,y⟩:=q;rw[List.map_cons,List.any_cons,ih]
   by_cases h1:(a,b)=(x,y)
   ·cases h1;simp
   ·have:¬ ([x,(y:Int)]=[a,(b:Int)]):=by
     intro h2;simp at h2;obtain⟨h3,h4⟩:=h2;have:y=b:=by lia
     exact h1 (by rw[h3,this])
    simp[this,h1]
theorem xC {h:H}(e:h[r]?=some (oa m)):jm h (.tup [.int a,.int b]) (.ref r)=some (decide ((a,b)∈m)):=by
 rw[mc,e];unfold oa
 by_cases h1:m=[]
 ·subst h1;simp[n9,lk,n7,lc]
 ·rw[au h1]
  have hk:=uz (a:=a) (b:=b) (m:=m);rw[List.any_map] at hk;simp[n9,lk,n7,lc,hk]
theorem yQ {h:H}(e:h[r]?=some (oa m))(hm:(a,b)∉m)(hl:m.length<1000000):cW h (.ref r) (.tup [.int a,.int b]) (.bool true)=some (h.set r (oa (m++[(a,b)]))):=by
 rw[tq,e];unfold oa
 by_cases h1:m=[]
 ·subst h1;simp[n9,lk,n7,lc]
 ·rw[au h1]
  have hk:=uz (a:=a) (b:=b) (m:=m);simp only[hm,decide_false] at hk;simp[n9,lk,n7,lc,put,hk,hl,h1]
variable {N n:Nat}{h:H}{p hl:Nat}{start:Int}{text:List UInt8}{holds:List Int}
theorem vS {y8 y9:Option V}:
 exec (av aw N n) N (cM.nth 0) (e_ p hl h.length start text [y8,y9,y10,y11,y12]) (ce h o m (c::S) J)=some (.next,e_ p hl h.length start text [some (.int c.1),some (.int c.2.1),some (.tup (c.2.2.map .int)),y11,y12],ce h o m S J):=by
 exact(fh (fp (ac rfl) (bH rfl) A9) rfl (db (bk (aj rfl)) (db (bk (aj rfl)) (db (bk (aj rfl)) j3))))
theorem xI (hc:(c.1,c.2.1)∈m):
 exec (av aw N n) N (cM.nth 1) (e_ p hl h.length start text [some (.int c.1),some (.int c.2.1),y10,y11,y12]) (ce h o m S J)=some (.cont,e_ p hl h.length start text [some (.int c.1),some (.int c.2.1),y10,y11,y12],ce h o m S J):=by
 have hm:∀H:Mine.H,H[h.length+2]?=some (oa m)->jm H (.tup [.int c.1,.int c.2.1]) (.ref (h.length+2))=some true:=fun H e=>by rw[xC e];simp[hc]
 have hm':=hm (ce h o m S J) (by simp[ce])
 exact(bX (az (bS (ah (ac rfl) (ah (ac rfl) aN))) (ac rfl) hm') rfl (cT iu))
theorem qg (hc:(c.1,c.2.1)∉m):
 exec (av aw N n) N (cM.nth 1) (e_ p hl h.length start text [some (.int c.1),some (.int c.2.1),y10,y11,y12]) (ce h o m S J)=some (.next,e_ p hl h.length start text [some (.int c.1),some (.int c.2.1),y10,y11,y12],ce h o m S J):=by
 have hm:∀H:Mine.H,H[h.length+2]?=some (oa m)->jm H (.tup [.int c.1,.int c.2.1]) (.ref (h.length+2))=some false:=fun H e=>by rw[xC e];simp[hc]
 have hm':=hm (ce h o m S J) (by simp[ce])
 exact(aS (az (bS (ah (ac rfl) (ah (ac rfl) aN))) (ac rfl) hm') rfl aF)
theorem oz (hc:(c.1,c.2.1)∉m)(hl':m.length<1000000):
 exec (av aw N n) N (cM.nth 2) (e_ p hl h.length start text [some (.int c.1),some (.int c.2.1),y10,y11,y12]) (ce h o m S J)=some (.next,e_ p hl h.length start text [some (.int c.1),some (.int c.2.1),y10,y11,y12],ce h o (m++[(c.1,c.2.1)]) S J):=by
 have hm':=yQ (h:=ce h o m S J) (r:=h.length+2) (m:=m) (a:=c.1) (b:=c.2.1) (by simp[ce]) hc hl'
 have hs:(ce h o m S J).set (h.length+2) (oa (m++[(c.1,c.2.1)]))=ce h o (m++[(c.1,c.2.1)]) S J:=by simp[ce]
 rw[hs] at hm';exact(bf ao (f0 (ac rfl) (bS (ah (ac rfl) (ah (ac rfl) aN))) hm'))
theorem tL (hc:c.1<0)(ho:o.length<1000000):
 exec (av aw N n) N (cM.nth 3) (e_ p hl h.length start text [some (.int c.1),some (.int c.2.1),some (.tup (c.2.2.map .int)),y11,y12]) (ce h o m S J)=some (.cont,e_ p hl h.length start text [some (.int c.1),some (.int c.2.1),some (.tup (c.2.2.map .int)),y11,y12],ce h (o++[(-1-c.1,c.2)]) m S J):=by
 have ho':(o.map cF).length<1000000:=by rw[aD];exact ho
 have e:(o++[(-1-c.1,c.2)]).map cF=o.map cF++[cF (-1-c.1,c.2)]:=List.map_append;unfold ce;rw[e];exact(bX (az (ac rfl) ao rfl) (ag some (aW hc)) (an (gg (ac rfl) br (bS (ah (cm (kf ao) (ac rfl) rfl) (ah (ac rfl) (ah (ac rfl) aN)))) br ho' dE) (cT iu)))
theorem vR (hc:0≤c.1):
 exec (av aw N n) N (cM.nth 3) (e_ p hl h.length start text [some (.int c.1),some (.int c.2.1),some (.tup (c.2.2.map .int)),y11,y12]) (ce h o m S J)=some (.next,e_ p hl h.length start text [some (.int c.1),some (.int c.2.1),some (.tup (c.2.2.map .int)),y11,y12],ce h o m S J):=by
 have:¬c.1<0:=by lia
 exact(aS (az (ac rfl) ao rfl) (ag some (aJ this)) aF)
end
section
variable {o S:List dD}{mk:List jd}
variable {N n:Nat}{h:H}{p hl m:Nat}{start:Int}{text:List UInt8}{holds:List Int}{lst:Int->List I}{U:Int->Prop}
theorem xV {J:H}:Le h (ce h o mk S J):=Le.app h _
theorem oB {text:List UInt8}{holds:List Int}{at_:Nat}{k:List Int}:∀is:List I,(is.flatMap fun i=>cQ text holds i at_ k).length≤2*is.length
 | []=>by simp
 | i::is=>by have:=oB (text:=text) (holds:=holds) (at_:=at_) (k:=k) is;have:=rS text holds i at_ k;simp only[List.flatMap_cons,bd,List.length_cons];lia
theorem xJ {c:dD}{J:H}{y11 y12:Option V}(L:qu N n h p lst m U)(hu:U c.1)(h0:0≤c.1)(hk:c.2.2.length=4)(ht:text.length≤1000000)(hh:h[hl]?=some (.list (holds.map .int)))(hat:c.2.1<holds.length)(hpos:∀x∈holds,0≤x)(hS:S.length<900000):
 mR (fun J' z11 z12=>execs (av aw N (n+1)) N (.cons (cM.nth 4) (.cons (cM.nth 5) (.cons (cM.nth 6) .nil))) (e_ p hl h.length start text [some (.int c.1),some (.int c.2.1),some (.tup (c.2.2.map .int)),y11,y12]) (ce h o mk S J)=
  some (.next,e_ p hl h.length start text [some (.int c.1),some (.int c.2.1),some (.tup (c.2.2.map .int)),z11,z12],ce h o mk (dK text holds lst c++S) J')):=by
 obtain⟨bs,hb,hcall⟩:=L.get c.1 hu h0
 have s4:exec (av aw N (n+1)) N (cM.nth 4) (e_ p hl h.length start text [some (.int c.1),some (.int c.2.1),some (.tup (c.2.2.map .int)),y11,y12]) (ce h o mk S J)=some (.next,e_ p hl h.length start text [some (.int c.1),some (.int c.2.1),some (.tup (c.2.2.map .int)),some (.ref (ce h o mk S J).length),y12],ce h o mk S J++[.list []]):=by exact bf (bA aN (aj rfl) fJ) (bk (aj rfl))
 generalize hH:ce h o mk S J=H at s4
 have le:Le h H:=by rw[<-hH];exact xV
 have hc:av aw N (n+1) 22 [.ref p,.int c.1] (H++[.list []])=some (.ref (H.length+1),H++[.list [],.list (bs.map .ref)]):=by
  have:=hcall (.list (o.map cF)::.idict []::oa mk::.list (S.reverse.map cF)::J++[.list []]);rw[<-aH] at this
  show av aw N (n+1) 22 [.ref p,.int c.1] (H++[.list []])=_
  rw[<-hH];unfold ce;simp only[List.cons_append,aH] at this⊢;rw[this];simp
  lia
 have hfl:=oB (text:=text) (holds:=holds) (at_:=c.2.1) (k:=c.2.2) (lst c.1);have hsm:=L.small c.1 hu h0
 obtain⟨J',x',hin⟩:=sD (n:=n) (N:=N) (H:=H) (hl:=hl) (at_:=c.2.1) (m:=m) (k:=c.2.2) (text:=text) (holds:=holds) (L2:=.list (bs.map .ref)) (chk:=dy (H++[.list [],.list (bs.map .ref)]) (.ref (H.length+1)))
  (x0:=some (.ref p)) (x1:=some (.int start)) (x4:=some (.ref h.length)) (x5:=some (.ref (h.length+1))) (x6:=some (.ref (h.length+2))) (x7:=some (.ref (h.length+3))) (x8:=some (.int c.1)) hk ht (le _ _ hh) hat hpos (fun a J=>cB (vs:=bs.map .ref) (by simp) (by simp)) (lst c.1) bs [] [] y12 (hb.mono le) (L.wf c.1 hu h0) (by simp;lia)
 have s5:exec (av aw N (n+1)) N (cM.nth 5) (e_ p hl h.length start text [some (.int c.1),some (.int c.2.1),some (.tup (c.2.2.map .int)),some (.ref H.length),y12]) (H++[.list []])=
  some (.next,e_ p hl h.length start text [some (.int c.1),some (.int c.2.1),some (.tup (c.2.2.map .int)),some (.ref H.length),x'],H++.list ((dK text holds lst c).map cF)::.list (bs.map .ref)::J'):=by
  refine fc (x:=.ref (H.length+1)) (vs:=bs.map .ref) (ak:=H++[.list [],.list (bs.map .ref)]) ?_ ?_ ?_ ?_
  ·exact bL (ah (ac rfl) (ah (ac rfl) aN)) hc
  ·exact dG (bH rfl)
  ·exact aj rfl
  ·dsimp only[List.map_nil,List.nil_append] at hin
   exact hin
 have s6:exec (av aw N (n+1)) N (cM.nth 6) (e_ p hl h.length start text [some (.int c.1),some (.int c.2.1),some (.tup (c.2.2.map .int)),some (.ref H.length),x']) (H++.list ((dK text holds lst c).map cF)::.list (bs.map .ref)::J')=
  some (.next,e_ p hl h.length start text [some (.int c.1),some (.int c.2.1),some (.tup (c.2.2.map .int)),some (.ref H.length),x'],ce h o mk (dK text holds lst c++S) (J++.list ((dK text holds lst c).map cF)::.list (bs.map .ref)::J'++[.list ((dK text holds lst c).reverse.map cF)])):=by
  have q:(dK text holds lst c).length≤1000:=by unfold dK;lia
  have q':(dK text holds lst c).length≤1000000:=by lia
  have q2:S.length+(dK text holds lst c).length≤1000000:=by lia
  have E:∀X:Mine.H,H++X=ce h o mk S (J++X):=fun X=>hH▸aH h _ X;have g1:(ce h o mk S (J++.list ((dK text holds lst c).map cF)::.list (bs.map .ref)::J'))[h.length+3]?=some (.list (S.reverse.map cF)):=bH rfl;have g0:(ce h o mk S (J++.list ((dK text holds lst c).map cF)::.list (bs.map .ref)::J'))[H.length]?=some (.list ((dK text holds lst c).map cF)):=E _▸br;rw[E];refine wo (ac rfl) g1 (tu (ac rfl) g0 (by rw[aD];exact q') fJ) (aY g1 _) br ⟨Nat.ne_of_lt (bP g1).1,by rw[aD,List.length_reverse,List.length_reverse,aD];exact q2⟩ ?_
  rw[<-List.map_reverse,<-List.map_append,<-List.reverse_append];unfold ce;rw[aH];exact A9
 exact⟨_,_,_,(aC s4).trans ((aC s5).trans ((aC s6).trans execs_nil))⟩
end
section
section
theorem gb {α:Type} [DecidableEq α]:∀ {l u:List α},l.Nodup->(∀a∈l,a∈u)->l.length≤u.length
 | [],_,_,_=>Nat.zero_le _
 | a::l,u,nd,hs=>by
   rw[List.nodup_cons] at nd;have ha:=hs a aK;have h1:=gb (l:=l) (u:=u.erase a) nd.2 fun b hb=>(List.mem_erase_of_ne (fun(z:b=a)=>nd.1 (by rw[<-z];exact hb))).mpr (hs b (aP _ hb))
   have h2:=List.length_erase_of_mem ha;have h3:0<u.length:=List.length_pos_of_mem ha;simp only[List.length_cons]
   lia
theorem cw {α:Type}{l:List α}{a:α}(nd:l.Nodup)(h:a∉l):(l++[a]).Nodup:=by rw[List.nodup_append];exact⟨nd,List.nodup_cons.mpr ⟨by simp,List.nodup_nil⟩,fun b hb c hc=>by rw[aB hc];exact fun z=>h (z▸hb)⟩
variable {N n:Nat}{h:H}{p hl m:Nat}{start:Int}{text:List UInt8}{holds:List Int}{lst:Int->List I}{U:Int->Prop}{UK:List jd}
noncomputable def cE:Ex:=.cmp (.var 7) (.one .ne (.list .nil))
theorem oA {S:List dD}{mk:List jd}{o:List dD}{J:H}{y8 y9 y10 y11 y12:Option V}:
 eT (av aw N n) cE (e_ p hl h.length start text [y8,y9,y10,y11,y12]) (ce h o mk S J)=some (!S.isEmpty,ce h o mk S (J++[.list []])):=by
 have eA:ce h o mk S J++[.list []]=ce h o mk S (J++[.list []]):=aH h _ _;have eE:(S.reverse.map cF).isEmpty=S.isEmpty:=by rw[List.isEmpty_map,List.isEmpty_reverse]
 exact eE▸gM (az (ac rfl) (bA aN (aj rfl) ⟨rfl,eA⟩) (ny (bH rfl) (eA▸br))) rfl
structure SK (UK:List jd) (W:dD->List dD) (U:Int->Prop) (hlen:Nat):Prop where
 step:∀c:dD,(c.1,c.2.1)∈UK->0≤c.1->c.2.2.length=4->∀c'∈W c,(c'.1,c'.2.1)∈UK/\c'.2.2.length=4
 at_:∀q∈UK,q.2<hlen/\(0≤q.1->U q.1)
 small:UK.length≤1000
theorem vT (L:qu N n h p lst m U)(ht:text.length≤1000000)(hh:h[hl]?=some (.list (holds.map .int)))(hpos:∀x∈holds,0≤x)(K:SK UK (dK text holds lst) U holds.length):
 ∀ (F:Nat) (S:List dD) (mk:List jd) (o:List dD) (J:H) (y8 y9 y10 y11 y12:Option V),(∀c∈S,(c.1,c.2.1)∈UK/\c.2.2.length=4)->mk.Nodup->(∀q∈mk,q∈UK)->o.length≤mk.length->
   S.length+300*(UK.length-mk.length)<F->S.length+300*(UK.length-mk.length)<900000->
   yl (fun o' mk' J' z8 z9 z10 z11 z12=>Run (dK text holds lst) S mk o' mk') (fun o' mk' J' z8 z9 z10 z11 z12=>o.length+o'.length≤UK.length) (fun o' mk' J' z8 z9 z10 z11 z12=>dB (eT (av aw N (n+1)) cE) (bn (av aw N (n+1)) N cM) F (e_ p hl h.length start text [y8,y9,y10,y11,y12]) (ce h o mk S J)=
    some (.next,e_ p hl h.length start text [z8,z9,z10,z11,z12],ce h (o++o') mk' [] J')):=by
 intro F
 induction F with
 | zero=>
   intro S mk o J _ _ _ _ _ _ _ _ _ hF _;exact absurd hF (Nat.not_lt_zero _)
 | succ F ih=>
   intro v9;cases v9 with
   | nil=>
     intro mk o J y8 y9 y10 y11 y12 hS nd hm ho hF hB;refine⟨[],mk,J++[.list []],y8,y9,y10,y11,y12,.nil mk,by have:=gb nd hm;simp;lia,?_⟩
     rw[ef,oA];simp
   | cons c S=>
     intro mk o J y8 y9 y10 y11 y12 hS nd hm ho hF hB;rw[ef,oA];simp only[List.isEmpty_cons,Bool.not_false];obtain⟨hc1,hc2⟩:=hS c aK;have hS':∀c∈S,(c.1,c.2.1)∈UK/\c.2.2.length=4:=fun d hd=>hS d (aP _ hd);have hml:mk.length≤UK.length:=gb nd hm;have hsm:=K.small;simp only[List.length_cons] at hF hB;have hpop:=vS (N:=N) (n:=n+1) (p:=p) (hl:=hl) (start:=start) (text:=text) (h:=h) (c:=c) (S:=S) (m:=mk) (o:=o) (J:=J++[.list []]) (y8:=y8) (y9:=y9) (y10:=y10) (y11:=y11) (y12:=y12);have hbf:∀e h',bn (av aw N (n+1)) N cM e h'=execs (av aw N (n+1)) N (.cons (cM.nth 0) (.cons (cM.nth 1) (.cons (cM.nth 2) (.cons (cM.nth 3) (.cons (cM.nth 4) (.cons (cM.nth 5) (.cons (cM.nth 6) .nil))))))) e h':=fun e h'=>rfl
     by_cases hin:(c.1,c.2.1)∈mk
     ·obtain⟨o',mk',J',z8,z9,z10,z11,z12,r1,r0,r2⟩:=ih S mk o (J++[.list []]) (some (.int c.1)) (some (.int c.2.1)) (some (.tup (c.2.2.map .int))) y11 y12 hS' nd hm ho (by lia) (by lia)
      refine⟨o',mk',J',z8,z9,z10,z11,z12,.skip hin r1,r0,?_⟩;rw[hbf,aC hpop,oQ (xI hin)];exact r2
     ·have hml':mk.length<UK.length:=by
       have:=gb (cw nd hin) (u:=UK) (fun q hq=>by
        rcases ba hq with hq | hq
        ·exact hm q hq
        ·rw[aB hq];exact hc1)
       simp at this;lia
      have nd':=cw nd hin
      have hm':∀q∈mk++[(c.1,c.2.1)],q∈UK:=fun q hq=>by
       rcases ba hq with hq | hq
       ·exact hm q hq
       ·rw[aB hq];exact hc1
      have hle:(mk++[(c.1,c.2.1)]).length=mk.length+1:=by simp
      by_cases hneg:c.1<0
      ·obtain⟨o',mk',J',z8,z9,z10,z11,z12,r1,r0,r2⟩:=ih S (mk++[(c.1,c.2.1)]) (o++[(-1-c.1,c.2)]) (J++[.list []]) (some (.int c.1)) (some (.int c.2.1)) (some (.tup (c.2.2.map .int))) y11 y12 hS' nd' hm' (by simp;lia) (by rw[hle];exact Nat.lt_of_succ_lt_succ (Ct (by assumption) (by assumption))) (by rw[hle];exact Nat.lt_of_succ_lt (Ct (by assumption) (by assumption)))
       refine⟨(-1-c.1,c.2)::o',mk',J',z8,z9,z10,z11,z12,.emit hin hneg r1,?_,?_⟩
       ·simp at r0⊢;lia
       ·rw[hbf,aC hpop,aC (qg hin),aC (oz hin (by lia)),oQ (tL hneg (by lia))]
        simp only[r2,aH,List.singleton_append]
      ·have h0:0≤c.1:=by lia
       have hat:=(K.at_ _ hc1).1;have hU:=(K.at_ _ hc1).2 h0
       have hwl:(dK text holds lst c).length≤200:=by have:=oB (text:=text) (holds:=holds) (at_:=c.2.1) (k:=c.2.2) (lst c.1);have:=L.small c.1 hU h0;unfold dK;lia
       obtain⟨J1,z1,z2,hgo⟩:=xJ (S:=S) (mk:=mk++[(c.1,c.2.1)]) (o:=o) (J:=J++[.list []]) (start:=start) (y11:=y11) (y12:=y12) L hU h0 hc2 ht hh hat hpos (by lia)
       obtain⟨o',mk',J',z8,z9,z10,z11,z12,r1,r0,r2⟩:=ih (dK text holds lst c++S) (mk++[(c.1,c.2.1)]) o J1 (some (.int c.1)) (some (.int c.2.1)) (some (.tup (c.2.2.map .int))) z1 z2 (fun d hd=>by
        rcases ba hd with hd | hd
        ·exact K.step c hc1 h0 hc2 d hd
        ·exact hS' d hd) nd' hm' (by simp;lia) (by rw[hle,bd];exact Nat.lt_of_succ_lt_succ (Cu (by assumption) (by assumption) (Nat.le_trans (by assumption) (by decide)))) (by rw[hle,bd];exact Nat.lt_of_succ_lt (Cu (by assumption) (by assumption) (Nat.le_trans (by assumption) (by decide))))
       refine⟨o',mk',J',z8,z9,z10,z11,z12,.go hin h0 r1,r0,?_⟩;rw[hbf,aC hpop,aC (qg hin),aC (oz hin (by lia)),aC (vR h0),hgo]
       exact r2
theorem uP (L:qu N n h p lst m U)(ht:text.length≤1000000)(hh:h[hl]?=some (.list (holds.map .int)))(hpos:∀x∈holds,0≤x)(K:SK UK (dK text holds lst) U holds.length)(hs:(start,0)∈UK)(hN:400000≤N):
 u5 (fun o mk X=>Run (dK text holds lst) [(start,0,[-1,-1,-1,-1])] [] o mk) (fun o mk X=>o.length≤1000) (fun o mk X=>av aw N (n+2) 24 [.ref p,.int start,.bytes text,.ref hl] h=some (.ref h.length,h++.list (o.map cF)::X)):=by
 have hsm:=K.small
 obtain⟨o',mk',J',z8,z9,z10,z11,z12,r1,r0,r2⟩:=vT (n:=n) (start:=start) L ht hh hpos K N [(start,0,[-1,-1,-1,-1])] [] [] [] none none none none none
  (fun c hc=>by rw[aB hc];exact⟨hs,rfl⟩) List.nodup_nil (by simp) (by simp) (by simp;lia) (by simp;lia)
 refine⟨o',mk',.idict []::oa mk'::.list []::J',r1,by simp at r0;lia,?_⟩
 refine fu (fd:=jt) (e:=[some (.ref p),some (.int start),some (.bytes text),some (.ref hl),none,none,none,none,none,none,none,none,none]) (e':=e_ p hl h.length start text [z8,z9,z10,z11,z12]) rfl rfl ?_
 have s0:exec (av aw N (n+1)) N (eW.nth 0) [some (.ref p),some (.int start),some (.bytes text),some (.ref hl),none,none,none,none,none,none,none,none,none] h=
  some (.next,e_ p hl h.length start text [none,none,none,none,none],ce h [] [] [(start,0,[-1,-1,-1,-1])] []):=by
  exact(fh (bS (ah (bA aN (aj rfl) fJ) (ah (em lO) (ah (em wb) (ah (bA (ah (bS (ah (ac rfl) (ah ao (ah (bS (ah (kf ao) (ah (kf ao) (ah (kf ao) (ah (kf ao) aN))))) aN)))) aN) (aj rfl) Aa) aN))))) rfl (db (bk (aj rfl)) (db (bk (aj rfl)) (db (bk (aj rfl)) (db (bk (aj rfl)) j3)))))
 have s1:exec (av aw N (n+1)) N (eW.nth 1) (e_ p hl h.length start text [none,none,none,none,none]) (ce h [] [] [(start,0,[-1,-1,-1,-1])] [])=some (.next,e_ p hl h.length start text [z8,z9,z10,z11,z12],ce h o' mk' [] J'):=
  (jv _ _ _ _ _ _).trans r2
 have s2:exec (av aw N (n+1)) N (eW.nth 2) (e_ p hl h.length start text [z8,z9,z10,z11,z12]) (ce h o' mk' [] J')=some (.ret (.ref h.length),e_ p hl h.length start text [z8,z9,z10,z11,z12],ce h o' mk' [] J'):=by exact bR (ac rfl)
 exact(aC s0).trans ((aC s1).trans (fr s2))
end
end
section
set_option backward.match.sparseCases true
variable {a k L2 Hd2:Nat}{is:List I}{fs pre post:List Nat}{d2:PD}
section
variable {N n:Nat}{h:H}{p L Hd:Nat}{as:List Nat}{d:PD}
theorem vm {n:Nat}(h:k<n):iS (k:Int) n=some k:=by
 unfold iS;rw[ap (by lia),ap (by lia)]
 simp
theorem nW {n:Nat}(h:0<n):iS (-1) n=some (n-1):=by unfold iS;rw[au (by lia),ap rfl,ap h]
theorem eY {h:H}{vs:List V}{v:V}(e:h[a]?=some (.list vs))(hk:vs[k]?=some v):cP h (.ref a) (.int (k:Int))=some v:=by rw[iw,e];dsimp only;rw[vm (bP hk).1];exact hk
theorem rX {h:H}{b:Nat}{k:Int}{as:List Nat}(e:h[a]?=some (.list (as.map .ref)))(hk:as[k.toNat]?=some b)(h0:0≤k):cP h (.ref a) (.int k)=some (.ref b):=by rw[<-Int.toNat_of_nonneg h0];exact eY e (by rw[List.getElem?_map,hk];rfl)
theorem tU (x:PA h p L Hd as d)(hf:d.flat=false)(ha:as[k]?=some a)(Y:H):
 av aw N (n+1) 22 [.ref p,.int k] (h++Y)=some (.ref (h++Y).length,h++Y++[.list [.ref a]]):=by
 have x':=x.mono (Le.app h Y)
 generalize h++Y=H at x'
 have hs:=eY (k:=k) (v:=.ref a) x'.list (by rw[List.getElem?_map,ha];rfl)
 have h1:=x'.obj;rw[hf] at h1;apply cL (e:=[some (.ref p),some (.int k),none]) rfl rfl
 ·exact(bb (bX (gB (am (ac rfl) h1 rfl) rfl) rfl (bb (bR (bA (ah (bE (am (ac rfl) h1 rfl) (ac rfl) hs) aN) (aj rfl) fJ)))))
 ·rfl
noncomputable def gi (is:List I) (k:Int):I:=is.getD k.toNat ⟨0,0,0,0,0,false,false⟩
theorem jo {k:Int}(h0:0≤k)(h1:k<is.length):is[k.toNat]?=some (gi is k):=by
 unfold gi;have:k.toNat<is.length:=by lia
 simp[List.getD,this]
theorem aM.gi {h:H}{as:List Nat}{k:Int}(x:aM h as is)(h0:0≤k)(h1:k<is.length):bp (fun a=>as[k.toNat]?=some a) (fun a=>h[a]?=some (.inst 0 (gi is k).fs)):=x.get (jo h0 h1)
noncomputable def mZ (is:List I) (k:Int):List I:=[gi is k]
theorem vF (x:PA h p L Hd as d)(hf:d.flat=false){m:Nat}(w:∀i∈d.insts,pS m i):qu N n h p (mZ d.insts) m (fun k=>k<d.insts.length) where
 get:=fun k hk h0=>by obtain⟨a,h1,h2⟩:=x.insts.gi h0 hk;refine⟨[a],⟨h2,trivial⟩,fun Y=> ?_⟩;have:=tU (N:=N) (n:=n) x hf h1 Y;rw[Int.toNat_of_nonneg h0] at this;exact this
 wf:=fun k hk h0 i hi=>by rw[aB hi];exact w _ (List.mem_of_getElem? (jo h0 hk))
 small:=fun k y y=>by simp[mZ]
noncomputable def cZ:List I->Prop
 | []=>False
 | [i]=>i.last=true
 | i::r=>i.last=false/\cZ r
noncomputable def pB:dz:=(fx.nth 2).body
noncomputable def lE:Ex:=.not (.attr (.sub (.var 2) (.neg (.lit (.int 1)))) 0 6)
theorem rY {H J:Mine.H}:cP (H++.list ((fs++[a]).map .ref)::J) (.ref H.length) (.int (-1))=some (.ref a):=by
 rw[iw,List.getElem?_append_right (Nat.le_refl _),Nat.sub_self]
 show(iS (-1) ((fs++[a]).map V.ref).length).bind _=_
 rw[aD,nW (by simp)];simp
theorem qe {H:Mine.H}{i:I}{J:Mine.H}{x0 x1:Option V}(ha:H[a]?=some (.inst 0 i.fs)):
 eT (av aw N n) lE [x0,x1,some (.ref H.length)] (H++.list ((fs++[a]).map .ref)::J)=some (!i.last,H++.list ((fs++[a]).map .ref)::J):=by
 have ha':=aY ha (.list ((fs++[a]).map .ref)::J);exact(gM (gB (am (bE (ac rfl) (kf ao) rY) ha' rfl) rfl) rfl)
theorem vG {H:Mine.H}{number:Nat}{a':Nat}{J:Mine.H}{as2:List Nat}(x:PA H p L2 Hd2 as2 d2)(ha:as2[number+fs.length]?=some a')(hfs:fs.length<1000000):
 bn (av aw N n) N pB [some (.ref p),some (.int number),some (.ref H.length)] (H++.list (fs.map .ref)::J)=some (.next,[some (.ref p),some (.int number),some (.ref H.length)],H++.list ((fs++[a']).map .ref)::J):=by
 have h1:=aY x.obj (.list (fs.map .ref)::J);have hs:=eY (k:=number+fs.length) (v:=.ref a') (aY x.list (.list (fs.map .ref)::J)) (by rw[List.getElem?_map,ha];rfl)
 rw[show(((number+fs.length:Nat):Int))=(number:Int)+((fs.map V.ref).length:Nat) by rw[aD];rfl] at hs
 have hfs':(fs.map V.ref).length<1000000:=by rw[aD];exact hfs
 rw[List.map_append]
 show execs _ _ pB _ _=_
 exact(an (gg (ac rfl) br (bE (am (ac rfl) h1 rfl) (cm (ac rfl) (jh (ac rfl) br) rfl) hs) br hfs' dE) aF)
theorem vH {H:Mine.H}{J:Mine.H}:∀ (rest:List Nat) (a:Nat) (fs:List Nat) (i:I) (irest:List I) (F:Nat),PA H p L2 Hd2 (pre++(fs++a::rest)++post) d2->aM H (a::rest) (i::irest)->cZ (i::irest)->rest.length<F->fs.length+rest.length<999999->
 dB (eT (av aw N n) lE) (bn (av aw N n) N pB) F [some (.ref p),some (.int pre.length),some (.ref H.length)] (H++.list ((fs++[a]).map .ref)::J)=
  some (.next,[some (.ref p),some (.int pre.length),some (.ref H.length)],H++.list ((fs++a::rest).map .ref)::J):=by
 intro rest
 induction rest with
 | nil=>
   intro a fs i ir F x hi he hF _;cases ir with
   | cons=>exact hi.2.elim
   | nil=>
     cases F with
     | zero=>cases hF
     | succ F=>
       rw[ef,qe hi.1,show i.last=true from he];rfl
 | cons b rest ih=>
   intro a fs i ir F x hi he hF hb;cases ir with
   | nil=>exact hi.2.elim
   | cons j ir=>
     cases F with
     | zero=>cases hF
     | succ F=>
       rw[ef,qe hi.1,show i.last=false from he.1];have x':PA H p L2 Hd2 (pre++(fs++[a]++b::rest)++post) d2:=by rw[aH fs];exact x
       show(match bn (av aw N n) N pB _ _ with | some (.next,cK,aO)=>dB _ _ F cK aO | some (.cont,cK,aO)=>dB _ _ F cK aO | some (.ret v,cK,aO)=>some (.ret v,cK,aO) | none=>none)=_
       rw[vG (N:=N) (n:=n) (H:=H) (number:=pre.length) (a':=b) (fs:=fs++[a]) (J:=J) x (by simp) (by simp;simp at hb;lia)]
       exact(ih b (fs++[a]) j ir F x' hi.2 he.2 (Nat.lt_of_succ_lt_succ hF) (by simp;simp at hb;lia)).trans (by rw[aH fs];rfl)
theorem mO {d:PD}{al:List Nat}{il:List I}(x:PA h p L Hd (pre++al++post) d)(hf:d.flat=true)(hi:aM h al il)(he:cZ il)(hl:al.length<900000)(hN:900000≤N)(Y:H):
 av aw N (n+1) 22 [.ref p,.int pre.length] (h++Y)=some (.ref (h++Y).length,h++Y++[.list (al.map .ref)]):=by
 have x':=x.mono (Le.app h Y);have hi':=hi.mono (Le.app h Y)
 generalize h++Y=H at x' hi'
 cases al with
 | nil=>cases il with
   | nil=>exact he.elim
   | cons=>exact hi'.elim
 | cons a rest=>cases il with
   | nil=>exact hi'.elim
   | cons i irest=>
     simp only[List.length_cons] at hl;have hs:=eY (k:=pre.length) (v:=.ref a) x'.list (by simp)
     have h1:=x'.obj;refine fu (fd:=kM) (e:=[some (.ref p),some (.int pre.length),none]) (e':=[some (.ref p),some (.int pre.length),some (.ref H.length)]) rfl rfl ?_
     have s0:exec (av aw N n) N (fx.nth 0) [some (.ref p),some (.int pre.length),none] H=some (.next,[some (.ref p),some (.int pre.length),none],H):=by rw[hf] at h1;exact(aS (gB (am (ac rfl) h1 rfl) rfl) rfl aF)
     have s1:exec (av aw N n) N (fx.nth 1) [some (.ref p),some (.int pre.length),none] H=some (.next,[some (.ref p),some (.int pre.length),some (.ref H.length)],H++[.list [.ref a]]):=by exact(bf (bA (ah (bE (am (ac rfl) h1 rfl) (ac rfl) hs) aN) (aj rfl) fJ) (bk (aj rfl)))
     have s2:=(jv (av aw N n) N lE pB [some (.ref p),some (.int pre.length),some (.ref H.length)] (H++[.list [.ref a]])).trans (vH (n:=n) (J:=[]) rest a [] i irest N x' hi' he (by lia) (by simp;lia))
     have s3:exec (av aw N n) N (fx.nth 3) [some (.ref p),some (.int pre.length),some (.ref H.length)] (H++[.list ((a::rest).map .ref)])=some (.ret (.ref H.length),[some (.ref p),some (.int pre.length),some (.ref H.length)],H++[.list ((a::rest).map .ref)]):=by exact bR (ac rfl)
     exact(aC s0).trans ((aC s1).trans ((aC s2).trans (fr s3)))
end
end
section
variable {k e:Int}{is:List I}{kv ps:KV}{v:V}
inductive io (is:List I):Int->Int->Prop
 | stop {k:Int}:(gi is k).op≠5->io is k k
 | nop {k e:Int}:(gi is k).op=5->io is (gi is k).out e->io is k e
theorem io.det {a b:Int}(x:io is k a)(y:io is k b):a=b:=by
 induction x with
 | stop h=>cases y with
   | stop _=>rfl
   | nop h' _=>exact absurd h' h
 | nop h _ ih=>cases y with
   | stop h'=>exact absurd h h'
   | nop _ y=>exact ih y
open Classical in
noncomputable def bh (is:List I) (k:Int):Int:=if h:∃e,io is k e then h.choose else 0
theorem gn (x:io is k e):bh is k=e:=by unfold bh;rw[dif_pos ⟨e,x⟩];exact io.det (Exists.choose_spec (⟨e,x⟩:∃e,io is k e)) x
theorem gp (x:¬ ∃e,io is k e):bh is k=0:=by unfold bh;rw[dif_neg x]
theorem kO (h:(gi is k).op≠5):bh is k=k:=gn (.stop h)
theorem jR (h:(gi is k).op=5):bh is k=bh is (gi is k).out:=by
 by_cases x:∃e,io is (gi is k).out e
 ·obtain⟨e,x⟩:=x
  rw[gn x,gn (.nop h x)]
 ·rw[gp x,gp]
  rintro⟨e,y⟩
  cases y with
  | stop h'=>exact h' h
  | nop _ y=>exact x ⟨e,y⟩
structure ii (is:List I):Prop where
 wf:∀i∈is,pS is.length i
 first:(gi is 0).op=6
 pos:0<is.length
theorem ii.at (w:ii is)(h0:0≤k)(h1:k<is.length):pS is.length (gi is k):=w.wf _ (List.mem_of_getElem? (jo h0 h1))
theorem io.range (w:ii is)(x:io is k e)(h0:0≤k)(h1:k<is.length):0≤e/\e<is.length/\(gi is e).op≠5:=by
 induction x with
 | stop h=>exact⟨h0,h1,h⟩
 | nop h _ ih=>
   have:=(w.at h0 h1).out (by lia) (by lia)
   exact ih this.1 this.2
theorem d8 (w:ii is)(h0:0≤k)(h1:k<is.length):0≤bh is k/\bh is k<is.length/\(gi is (bh is k)).op≠5:=by
 by_cases x:∃e,io is k e
 ·obtain⟨e,x⟩:=x
  rw[gn x];exact x.range w h0 h1
 ·rw[gp x]
  have:=w.pos;exact⟨by lia,by lia,by rw[w.first];decide⟩
theorem Bn {P:Int->Prop}(h5:∀x,P x->(gi is x).op=5)(hc:∀x,P x->P (gi is x).out)(hk:P k):¬ ∃e,io is k e:=by
 rintro⟨e,x⟩
 induction x with
 | stop h=>exact h (h5 _ hk)
 | nop _ _ ih=>exact ih (hc _ hk)
noncomputable abbrev KV:=List (Int×V)
structure qw (is:List I) (kv:KV):Prop where
 ok:∀q∈kv,0≤q.1/\q.1<is.length/\(gi is q.1).op=5/\q.2=.int (bh is q.1)
 nd:(kv.map (·.1)).Nodup
theorem og:lookup kv k=some v->(k,v)∈kv:=by unfold lookup;intro h;obtain⟨q,h1,h2⟩:=Option.map_eq_some_iff.mp h;have h3:=List.find?_some h1;have h4:=List.mem_of_find?_eq_some h1;simp at h3;obtain⟨a,b⟩:=q;simp at h2 h3;rw[h2,h3] at h4;exact h4
theorem fD:lookup kv k=none↔k∉kv.map (·.1):=by
 unfold lookup;rw[Option.map_eq_none_iff,List.find?_eq_none];simp
 constructor
 ·intro h v hv;exact h k v hv rfl
 ·intro h a v hv e;exact h v (e▸hv)
theorem tX:(kv.any fun p=>decide (p.1=k))=decide (k∈kv.map (·.1)):=by rw[Bool.eq_iff_iff];simp
theorem xD {h:H}{D:Nat}{t:Bool}(g:h[D]?=some (.idict kv))(q:decide (k∈kv.map (·.1))=t):jm h (.int k) (.ref D)=some t:=by rw[mc,g,<-q,<-tX]
theorem m0 (h:k∈kv.map (·.1)):lookup (kv++ps) k=lookup kv k:=by
 unfold lookup;rw[List.find?_append];cases hq:kv.find? (fun p=>decide (p.1=k)) with
 | some q=>rfl
 | none=>
   have:lookup kv k=none:=by unfold lookup;rw[hq];rfl
   exact absurd h (fD.mp this)
theorem l9 (h:k∉kv.map (·.1)):lookup (kv++ps) k=lookup ps k:=by have h':=fD.mpr h;unfold lookup at h'⊢;rw[Option.map_eq_none_iff] at h';rw[List.find?_append,h'];rfl
theorem nr (h:k∉kv.map (·.1)):put kv k v=kv++[(k,v)]:=by unfold put;rw[tX];simp only[h,decide_false];rfl
theorem qN (h:k∈kv.map (·.1)):put kv k v=kv.map fun p=>if p.1=k then(p.1,v) else p:=by unfold put;rw[tX];simp only[h,decide_true];rfl
theorem xm (h:k∉kv.map (·.1)):(kv.map fun p=>if p.1=k then(p.1,v) else p)=kv:=by
 induction kv with
 | nil=>rfl
 | cons q kv ih=>
   simp at h;rw[List.map_cons,au (fun z=>h.1 z.symm),ih (by simpa using h.2)]
end
section
variable {k e:Int}{G:KV->H}{len:Nat}{kv0 kv:KV}{y:List V}{x5 x4 x0 x1:Option V}{ps:List Int}{v:V}
section
variable {N n:Nat}{h:H}{L D:Nat}{as:List Nat}{is:List I}
structure kR (G:KV->H) (D L:Nat) (as:List Nat) (is:List I) (len:Nat):Prop where
 d:∀kv,(G kv)[D]?=some (.idict kv)
 l:∀kv,(G kv)[L]?=some (.list (as.map .ref))
 i:∀kv,aM (G kv) as is
 hlen:∀kv,(G kv).length=len
 lt:D<len
 set:∀kv kv',(G kv).set D (.idict kv')=G kv'
theorem gX {h:H}{D:Nat}(g:h[D]?=some (.idict kv))(l:kv.length<1000000):cW h (.ref D) (.int k) v=some (h.set D (.idict (put kv k v))):=by rw[tq,g];exact ap l
noncomputable def nE:Ex:=.and (.cons (.cmp (.attr (.sub (.var 0) (.var 1)) 0 0) (.one .eq (.lit (.int 5)))) (.cons (.cmp (.var 1) (.one .notIn (.var 2))) (.nil)))
noncomputable def rM:dz:=(d_.nth 1).body
noncomputable def rL:dz:=(d_.nth 3).body
theorem vC (E:kR G D L as is len)(h0:0≤k)(h1:k<is.length):
 eT (av aw N n) nE [some (.ref L),some (.int k),some (.ref D),some (.ref len),x4,x5] (G kv++[.list y])=some (decide ((gi is k).op=5/\k∉kv.map (·.1)),G kv++[.list y]):=by
 obtain⟨a,ha,hi⟩:=(E.i kv).gi h0 h1;have hs:=rX (aY (E.l kv) [.list y]) ha h0;have hi':=aY hi [.list y];have hd:=aY (E.d kv) [.list y]
 by_cases h5:(gi is k).op=5
 ·by_cases hk:k∈kv.map (·.1)
  ·have hin:=xD (k:=k) hd (aW hk)
   rw[aJ fun z=>z.2 hk];exact(gM (bD (cg (az (am (bE (ac rfl) (ac rfl) hs) hi' rfl) ao (ag some (beq_of_eq h5))) rfl (ch (az (ac rfl) (ac rfl) (gO hin))))) rfl)
  ·have hin:=xD (k:=k) hd (aJ hk)
   rw[aW ⟨h5,hk⟩];exact(gM (bD (cg (az (am (bE (ac rfl) (ac rfl) hs) hi' rfl) ao (ag some (beq_of_eq h5))) rfl (ch (az (ac rfl) (ac rfl) (gO hin))))) rfl)
 ·rw[aJ fun z=>h5 z.1]
  exact(gM (bD (cr (az (am (bE (ac rfl) (ac rfl) hs) hi' rfl) ao (ag some (aJ h5))) rfl)) rfl)
theorem vD (E:kR G D L as is len)(h0:0≤k)(h1:k<is.length)(hk:k∉kv.map (·.1))(hkl:kv.length<1000000)(hy:y.length<1000000):
 bn (av aw N n) N rM [some (.ref L),some (.int k),some (.ref D),some (.ref len),x4,x5] (G kv++[.list y])=some (.next,[some (.ref L),some (.int (gi is k).out),some (.ref D),some (.ref len),x4,x5],G (kv++[(k,.int 0)])++[.list (y++[.int k])]):=by
 obtain⟨a,ha,hi⟩:=(E.i (kv++[(k,.int 0)])).gi h0 h1;have hs:=rX (aY (E.l (kv++[(k,.int 0)])) [.list (y++[.int k])]) ha h0;have hi':=aY hi [.list (y++[.int k])]
 have hset:cW (G kv++[.list y]) (.ref D) (.int k) (.int 0)=some (G (kv++[(k,.int 0)])++[.list y]):=by rw[gX (aY (E.d kv) [.list y]) hkl,List.set_append_left _ _ (by rw[E.hlen];exact E.lt),E.set,nr hk]
 have hg:∀kv y,(G kv++[.list y])[len]?=some (.list y):=fun kv y=>by rw[<-E.hlen kv];exact br
 have hgs:∀ (kv:KV) (y z:List V),List.set (G kv++[O.list y]) len (O.list z)=G kv++[O.list z]:=fun kv y z=>by rw[<-E.hlen kv];exact dE
 show execs _ _ rM _ _=_
 exact(an (bf ao (f0 (ac rfl) (ac rfl) hset)) (an (gg (ac rfl) (hg _ _) (ac rfl) (hg _ _) hy (hgs _ _ _)) (an (bf (am (bE (ac rfl) (ac rfl) hs) hi' rfl) (bk (aj rfl))) aF)))
structure E_ (is:List I) (kv0:KV) (k0:Int) (k:Int) (ps:List Int):Prop where
 r0:0≤k
 r1:k<is.length
 nd:ps.Nodup
 old:∀x∈ps,x∉kv0.map (·.1)
 rng:∀x∈ps,0≤x/\x<is.length/\(gi is x).op=5
 eq:∀x∈ps,bh is x=bh is k
 eq0:bh is k0=bh is k
 nxt:∀x∈ps,(gi is x).out∈ps\/(gi is x).out=k
noncomputable def gV (kv0:KV) (ps:List Int) (v:V):KV:=kv0++ps.map fun x=>(x,v)
theorem lv:k∈(gV kv0 ps v).map (·.1)↔k∈kv0.map (·.1)\/k∈ps:=by unfold gV;rw[List.map_append,List.mem_append,List.map_map];simp
theorem bW {m:Nat}(nd:ps.Nodup)(h:∀x∈ps,0≤x/\x<m):ps.length≤m:=by
 have:=gb (l:=ps) (u:=(List.range m).map fun(k:Nat)=>(k:Int)) nd fun x hx=>by obtain⟨h0,h1⟩:=h x hx;rw[List.mem_map];exact⟨x.toNat,by rw[List.mem_range];lia,by lia⟩
 simpa using this
theorem vA (E:kR G D L as is len)(w:ii is){k0:Int}(hkl:kv0.length+is.length<900000):
 ∀ (F:Nat) (k:Int) (ps:List Int),E_ is kv0 k0 k ps->is.length-ps.length<F->
   dU (fun k' ps'=>E_ is kv0 k0 k' ps') (fun k' ps'=>¬ ((gi is k').op=5/\k'∉(gV kv0 ps' (.int 0)).map (·.1))) (fun k' ps'=>dB (eT (av aw N n) nE) (bn (av aw N n) N rM) F [some (.ref L),some (.int k),some (.ref D),some (.ref len),x4,x5] (G (gV kv0 ps (.int 0))++[.list (ps.map .int)])=
       some (.next,[some (.ref L),some (.int k'),some (.ref D),some (.ref len),x4,x5],G (gV kv0 ps' (.int 0))++[.list (ps'.map .int)])):=by
 intro F
 induction F with
 | zero=>
   intro _ _ _ hF;exact absurd hF (Nat.not_lt_zero _)
 | succ F ih=>
   intro k ps S hF;rw[ef,vC E S.r0 S.r1]
   by_cases hc:(gi is k).op=5/\k∉(gV kv0 ps (.int 0)).map (·.1)
   ·simp only[hc,not_false_eq_true,and_self,decide_true]
    have hk:=hc.2;rw[lv,not_or] at hk;have hpl:=bW S.nd fun x hx=>⟨(S.rng x hx).1,(S.rng x hx).2.1⟩
    have hpl':=bW (cw S.nd hk.2) (m:=is.length) fun x hx=>by
     rcases ba hx with hx | hx
     ·exact⟨(S.rng x hx).1,(S.rng x hx).2.1⟩
     ·rw[aB hx];exact⟨S.r0,S.r1⟩
    simp at hpl';rw[vD E S.r0 S.r1 hc.2 (by unfold gV;simp;lia) (by simp;lia)]
    simp only;have e1:gV kv0 ps (.int 0)++[(k,.int 0)]=gV kv0 (ps++[k]) (.int 0):=by unfold gV;simp
    have e2:ps.map V.int++[V.int k]=(ps++[k]).map V.int:=by simp
    rw[e1,e2];have ho:=(w.at S.r0 S.r1).out (by lia) (by lia)
    exact ih (gi is k).out (ps++[k]) ⟨ho.1,ho.2,cw S.nd hk.2,fun x hx=>by
     rcases ba hx with hx | hx
     ·exact S.old x hx
     ·rw[aB hx];exact hk.1,fun x hx=>by
     rcases ba hx with hx | hx
     ·exact S.rng x hx
     ·rw[aB hx];exact⟨S.r0,S.r1,hc.1⟩,fun x hx=>by
     rcases ba hx with hx | hx
     ·rw[S.eq x hx,jR hc.1]
     ·rw[aB hx,jR hc.1],by rw[S.eq0,jR hc.1],fun x hx=>by
     rcases ba hx with hx | hx
     ·rcases S.nxt x hx with q | q
      ·exact .inl (List.mem_append_left _ q)
      ·rw[q];exact .inl (by simp)
     ·rw[aB hx];exact .inr rfl⟩ (by simp;lia)
   ·have hd:decide ((gi is k).op=5/\k∉(gV kv0 ps (.int 0)).map (·.1))=false:=aJ hc
    rw[hd];exact⟨k,ps,S,hc,rfl⟩
theorem vB (E:kR G D L as is len)(hk:k∈kv.map (·.1))(hkl:kv.length<1000000):
 bn (av aw N n) N rL ([x0,x1,some (.ref D),some (.ref len),some (.int e),x5].set 5 (some (.int k))) (G kv++[.list y])=some (.next,[x0,x1,some (.ref D),some (.ref len),some (.int e),some (.int k)],G (kv.map fun p=>if p.1=k then(p.1,.int e) else p)++[.list y]):=by
 have hset:cW (G kv++[.list y]) (.ref D) (.int k) (.int e)=some (G (kv.map fun p=>if p.1=k then(p.1,.int e) else p)++[.list y]):=by rw[gX (aY (E.d kv) [.list y]) hkl,List.set_append_left _ _ (by rw[E.hlen];exact E.lt),E.set,qN hk]
 show execs _ _ rL _ _=_
 exact(an (bf (ac rfl) (f0 (ac rfl) (ac rfl) hset)) aF)
theorem A0 {d r:List Int}{x:Int}(h0:x∉kv0.map (·.1))(hd:x∉d)(hr:x∉r):
 ((gV kv0 d (.int e)++(x::r).map fun y=>(y,V.int 0)).map fun p=>if p.1=x then(p.1,V.int e) else p)=gV kv0 (d++[x]) (.int e)++r.map fun y=>(y,V.int 0):=by
 have h1:x∉(gV kv0 d (.int e)).map (·.1):=by rw[lv,not_or];exact⟨h0,hd⟩
 have h2:x∉(r.map fun y=>(y,V.int 0)).map (·.1):=by rw[List.map_map];simpa using hr
 rw[List.map_append,xm h1,List.map_cons,List.map_cons,ap rfl,xm h2];unfold gV;simp
theorem xk (E:kR G D L as is len){chk:H->Bool}(hchk:∀kv,chk (G kv++[.list y])=true):
 ∀ (r d:List Int) (x5:Option V),(d++r).Nodup->(∀x∈d++r,x∉kv0.map (·.1))->kv0.length+(d++r).length<1000000->
   ∃z5,dR 5 (bn (av aw N n) N rL) chk (r.map .int) [x0,x1,some (.ref D),some (.ref len),some (.int e),x5] (G (gV kv0 d (.int e)++r.map fun y=>(y,V.int 0))++[.list y])=
    some (.next,[x0,x1,some (.ref D),some (.ref len),some (.int e),z5],G (gV kv0 (d++r) (.int e))++[.list y]):=by
 intro r
 induction r with
 | nil=>
   intro d x5 _ _ _;exact⟨x5,by simp[eC,bK,hchk]⟩
 | cons x r ih=>
   intro d x5 nd ho hl;have nd':=nd;rw[List.nodup_append] at nd;obtain⟨n1,n2,n3⟩:=nd;rw[List.nodup_cons] at n2;have hd:x∉d:=fun hx=>n3 x hx x aK rfl;have h0:=ho x (by simp)
   obtain⟨z5,hz⟩:=ih (d++[x]) (some (.int x)) (by simpa using nd') (by simpa using ho) (by simpa using hl)
   refine⟨z5,?_⟩;rw[List.map_cons,bK,ap (hchk _)];have hb:=vB (N:=N) (n:=n) E (k:=x) (kv:=gV kv0 d (.int e)++(x::r).map fun y=>(y,V.int 0)) (y:=y) (e:=e) (x0:=x0) (x1:=x1) (x5:=x5) (by simp) (by unfold gV;simp at hl⊢;omega)
   rw[A0 h0 hd n2.1] at hb;rw[hb];simp only;rw[hz];simp
theorem iJ (E:kR G D L as is len)(w:ii is)(g:qw is kv0)(h0:0≤k)(h1:k<is.length)(hs:is.length<1000)(hN:900000≤N):
 cD (fun kv' X=>qw is kv') (fun kv' X=>av aw N (n+1) 8 [.ref L,.int k,.ref D] (G kv0)=some (.int (bh is k),G kv'++X)):=by
 have hkl:kv0.length≤is.length:=by
  have:=bW g.nd (m:=is.length) fun x hx=>by rw[List.mem_map] at hx;obtain⟨q,hq,rfl⟩:=hx;exact⟨(g.ok q hq).1,(g.ok q hq).2.1⟩
  simpa using this
 obtain⟨k',ps,S,hstop,hw⟩:=vA (N:=N) (n:=n) E w (kv0:=kv0) (k0:=k) (x4:=none) (x5:=none) (by lia) N k [] ⟨h0,h1,List.nodup_nil,by simp,by simp,by simp,rfl,by simp⟩ (by simp;lia)
 have hpl:=bW S.nd fun x hx=>⟨(S.rng x hx).1,(S.rng x hx).2.1⟩
 have hfound:(lookup (gV kv0 ps (.int 0)) k').getD (.int k')=.int (bh is k'):=by
  by_cases h5:(gi is k').op=5
  ·have hin:k'∈(gV kv0 ps (.int 0)).map (·.1):=Classical.byContradiction fun z=>hstop ⟨h5,z⟩
   rw[lv] at hin
   by_cases ho:k'∈kv0.map (·.1)
   ·unfold gV
    rw[m0 ho];cases hq:lookup kv0 k' with
    | none=>exact absurd ho (fD.mp hq)
    | some v=>
      have hv:v=.int (bh is k'):=(g.ok _ (og hq)).2.2.2;rw[hv];rfl
   ·have hp:k'∈ps:=hin.resolve_left ho
    have hz:bh is k'=0:=gp (Bn (P:=fun x=>x∈ps) (fun x hx=>(S.rng x hx).2.2) (fun x hx=>by
     rcases S.nxt x hx with q | q
     ·exact q
     ·rw[q];exact hp) hp)
    unfold gV;rw[l9 ho];cases hq:lookup (ps.map fun x=>(x,V.int 0)) k' with
    | none=>exact absurd (fD.mp hq) (by rw[List.map_map];simpa using hp)
    | some v=>
      have:=og hq;rw[List.mem_map] at this;obtain⟨x,_,hx⟩:=this;cases hx;rw[hz];rfl
  ·have hno:k'∉(gV kv0 ps (.int 0)).map (·.1):=by
    rw[lv,not_or];refine⟨fun z=> ?_,fun z=>h5 (S.rng k' z).2.2⟩;rw[List.mem_map] at z;obtain⟨q,hq,rfl⟩:=z;exact h5 (g.ok q hq).2.2.1
   rw[fD.mpr hno,kO h5];rfl
 refine⟨gV kv0 ps (.int (bh is k')),[.list (ps.map .int)],⟨fun q hq=> ?_,?_⟩,?_⟩
 ·unfold gV at hq
  rcases ba hq with hq | hq
  ·exact g.ok q hq
  ·rw[List.mem_map] at hq
   obtain⟨x,hx,rfl⟩:=hq;have:=S.rng x hx;exact⟨this.1,this.2.1,this.2.2,by rw[S.eq x hx]⟩
 ·unfold gV
  rw[List.map_append,List.map_map,List.nodup_append];refine⟨g.nd,by simpa [Function.comp_def] using S.nd,fun x hx y hy z=> ?_⟩
  subst z;simp at hy;exact S.old x hy hx
 ·rw[S.eq0]
  have s0:exec (av aw N n) N (d_.nth 0) [some (.ref L),some (.int k),some (.ref D),none,none,none] (G kv0)=some (.next,[some (.ref L),some (.int k),some (.ref D),some (.ref len),none,none],G (gV kv0 [] (.int 0))++[.list []]):=by rw[show gV kv0 [] (.int 0)=kv0 from List.append_nil _];exact bf (bA aN (aj rfl) ⟨E.hlen kv0,rfl⟩) (bk (aj rfl))
  have s1:=(jv (av aw N n) N nE rM [some (.ref L),some (.int k),some (.ref D),some (.ref len),none,none] (G (gV kv0 [] (.int 0))++[.list []])).trans hw;have hd:=aY (E.d (gV kv0 ps (.int 0))) [.list (ps.map .int)]
  have s2:exec (av aw N n) N (d_.nth 2) [some (.ref L),some (.int k'),some (.ref D),some (.ref len),none,none] (G (gV kv0 ps (.int 0))++[.list (ps.map .int)])=some (.next,[some (.ref L),some (.int k'),some (.ref D),some (.ref len),some (.int (bh is k')),none],G (gV kv0 ps (.int 0))++[.list (ps.map .int)]):=by rw[<-hfound];exact bf (Bc (ac rfl) (ac rfl) (ac rfl) hd) (bk (aj rfl))
  have hg:∀kv y,(G kv++[.list y])[len]?=some (.list y):=fun kv y=>by rw[<-E.hlen kv];exact br
  obtain⟨z5,hf⟩:=xk (N:=N) (n:=n) E (kv0:=kv0) (y:=ps.map .int) (e:=bh is k') (x0:=some (.ref L)) (x1:=some (.int k')) (chk:=dy (G (gV kv0 ps (.int 0))++[.list (ps.map .int)]) (.ref len)) (fun kv=>cB (hg _ _) (hg _ _)) ps [] none (by simpa using S.nd) (by simpa using S.old) (by simp;lia)
  have e0:gV kv0 [] (.int (bh is k'))++(ps.map fun y=>(y,V.int 0))=gV kv0 ps (.int 0):=by unfold gV;simp
  rw[e0] at hf;simp only[List.nil_append] at hf
  have s3:exec (av aw N n) N (d_.nth 3) [some (.ref L),some (.int k'),some (.ref D),some (.ref len),some (.int (bh is k')),none] (G (gV kv0 ps (.int 0))++[.list (ps.map .int)])=some (.next,[some (.ref L),some (.int k'),some (.ref D),some (.ref len),some (.int (bh is k')),z5],G (gV kv0 ps (.int (bh is k')))++[.list (ps.map .int)]):=by
   refine fc (x:=.ref len) (vs:=ps.map .int) (ak:=G (gV kv0 ps (.int 0))++[O.list (ps.map .int)]) ?_ ?_ ?_ ?_
   ·exact ac rfl
   ·exact dG (hg _ _)
   ·exact aj rfl
   ·exact hf
  have s4:exec (av aw N n) N (d_.nth 4) [some (.ref L),some (.int k'),some (.ref D),some (.ref len),some (.int (bh is k')),z5] (G (gV kv0 ps (.int (bh is k')))++[.list (ps.map .int)])=some (.ret (.int (bh is k')),[some (.ref L),some (.int k'),some (.ref D),some (.ref len),some (.int (bh is k')),z5],G (gV kv0 ps (.int (bh is k')))++[.list (ps.map .int)]):=by exact bR (ac rfl)
  exact fu (fd:=kL) (e:=[some (.ref L),some (.int k),some (.ref D),none,none,none]) rfl rfl ((aC s0).trans ((aC s1).trans ((aC s2).trans ((aC s3).trans (fr s4)))))
end
end
section
variable {a:Nat}{i:I}{kv:KV}{acc:List V}{J:H}{o:Int}
section
variable {N n:Nat}{h:H}{p L Hd D:Nat}{as:List Nat}{is:List I}{d:PD}
noncomputable def fo (b:Nat) (d:PD):List V:=[.ref (b+2),.int 0,.int 0,.bool d.rev,.bool d.as,.bool d.ae,.bool false,.ref (b+3),.bytes d.pre,.bool d.pf,.none]
noncomputable def gN:List V:=[.int 6,.int 0,.int 0,.int 0,.int 0,.bool false,.bool false]
theorem x_ (x:PA h p L Hd as d):av aw N (n+3) 2 [.ref p] h=some (.ref h.length,h++[.inst 1 (fo h.length d),.inst 0 gN,.list [.ref (h.length+1)],.list []]):=by
 have hp:∀y,(h++y)[p]?=_:=aY x.obj;apply cL (e:=[some (.ref p),none]) rfl rfl
 ·have hc:= @qr N n h [some (.ref p),none]
  exact(an (bf hc (bk (aj rfl))) (an (bf (am (ac rfl) (hp _) rfl) (dO (ac rfl) (nN (aj rfl) (aj rfl)))) (an (bf (am (ac rfl) (hp _) rfl) (dO (ac rfl) (nN (aj rfl) (aj rfl)))) (an (bf (am (ac rfl) (hp _) rfl) (dO (ac rfl) (nN (aj rfl) (aj rfl)))) (an (bf (am (ac rfl) (hp _) rfl) (dO (ac rfl) (nN (aj rfl) (aj rfl)))) (an (bf (am (ac rfl) (hp _) rfl) (dO (ac rfl) (nN (aj rfl) (aj rfl)))) (bb (bR (ac rfl)))))))))
 ·rfl
theorem iH (hl:h[L]?=some (.list (as.map .ref)))(hi:aM h as is)(Y:H):kR (fun kv=>h++.idict kv::Y) h.length L as is (h.length+(Y.length+1)) where
 d:=fun kv=>by simp
 l:=fun kv=>aY hl _
 i:=fun kv=>hi.mono (Le.app h _)
 hlen:=fun kv=>by simp
 lt:=by lia
 set:=fun kv kv'=>by simp
noncomputable def dJ (is:List I) (i:I):I:={op:=i.op,out:=if i.op=4\/i.op=6 then 0 else bh is i.out,arg:=if i.op=0 then bh is i.arg else i.arg,low:=i.low,high:=i.high,fold:=i.fold,last:=false}
noncomputable def rK:dz:=(gv.nth 2).body
theorem tc (ha:h[a]?=some (.inst 0 i.fs))(hacc:acc.length<1000000){u v:Int}:
 exec (av aw N (n+1)) N (rK.nth 3) [some (.ref p),some (.ref h.length),some (.ref (h.length+1)),some (.ref a),some (.int u),some (.int v),none] (h++.idict kv::.list acc::J)=
  some (.next,[some (.ref p),some (.ref h.length),some (.ref (h.length+1)),some (.ref a),some (.int u),some (.int v),none],h++.idict kv::.list (acc++[.ref (h.length+(J.length+2))])::(J++[.inst 0 [.int i.op,.int u,.int v,.int i.low,.int i.high,.bool i.fold,.bool false]])):=by
 have hi:∀y,(h++y)[a]?=_:=aY ha;exact(gg (ac rfl) (bH rfl) (gC (ah (am (ac rfl) (hi _) rfl) (ah (ac rfl) (ah (ac rfl) (ah (am (ac rfl) (hi _) rfl) (ah (am (ac rfl) (hi _) rfl) (ah (am (ac rfl) (hi _) rfl) aN)))))) rfl Cv) (bH rfl) hacc vh)
theorem wq {X:H}{o:O}{u v:O}:(h++u::v::(J++(X++[o])))[h.length+((J++X).length+2)]?=some o:=by rw[<-aH J];exact(bz h (u::v::(J++X++[o])) ((J++X).length+2)).trans List.getElem?_concat_length
theorem bq {a:Int}:(a==o)=decide (o=a):=decide_eq_decide.mpr eq_comm
theorem zr {H:Mine.H}{t:Bool}(q:decide (o=4\/o=6)=t):jm H (.int o) (.tup [.int 4,.int 6])=some t:=by
 simp only[<-q]
 show some (4==o || (6==o || false))=_
 simp only[Bool.decide_or,<-bq,<-bq,Bool.or_false]
theorem yy (x:PA h p L Hd as d)(w:ii d.insts)(hs:d.insts.length<1000)(hN:900000≤N)(ha:h[a]?=some (.inst 0 i.fs))(hw:pS d.insts.length i)(g:qw d.insts kv)(hacc:acc.length<1000000){x4 x5:Option V}:
 AJ (fun kv' X b z4 z5=>qw d.insts kv') (fun kv' X b z4 z5=>(∀u v,(h++u::v::(J++X))[b]?=some (.inst 0 (dJ d.insts i).fs))) (fun kv' X b z4 z5=>bn (av aw N (n+1)) N rK [some (.ref p),some (.ref h.length),some (.ref (h.length+1)),some (.ref a),x4,x5,none] (h++.idict kv::.list acc::J)=
     some (.next,[some (.ref p),some (.ref h.length),some (.ref (h.length+1)),some (.ref a),z4,z5,none],h++.idict kv'::.list (acc++[.ref b])::(J++X))):=by
 have hp:∀y,(h++y)[p]?=_:=aY x.obj;have hi:∀y,(h++y)[a]?=_:=aY ha
 have s1:exec (av aw N (n+1)) N (rK.nth 0) [some (.ref p),some (.ref h.length),some (.ref (h.length+1)),some (.ref a),x4,x5,none] (h++.idict kv::.list acc::J)=
  some (.next,[some (.ref p),some (.ref h.length),some (.ref (h.length+1)),some (.ref a),some (.int 0),some (.int i.arg),none],h++.idict kv::.list acc::J):=by
  exact(fh (bS (ah ao (ah (am (ac rfl) (hi _) rfl) aN))) rfl (db (bk (aj rfl)) (db (bk (aj rfl)) j3)))
 by_cases o46:i.op=4\/i.op=6
 ·have h0:i.op≠0:=by lia
  have hin:=zr (H:=[]) (aW o46);have eL:dJ d.insts i={op:=i.op,out:=0,arg:=i.arg,low:=i.low,high:=i.high,fold:=i.fold,last:=false}:=by rw[dJ,ap o46,au h0]
  rw[eL];refine⟨kv,[.inst 0 _],h.length+(J.length+2),some (.int 0),some (.int i.arg),g,fun u v=>(bz h (u::v::(J++[_])) (J.length+2)).trans List.getElem?_concat_length,?_⟩
  have s2:exec (av aw N (n+1)) N (rK.nth 1) [some (.ref p),some (.ref h.length),some (.ref (h.length+1)),some (.ref a),some (.int 0),some (.int i.arg),none] (h++.idict kv::.list acc::J)=
   some (.next,[some (.ref p),some (.ref h.length),some (.ref (h.length+1)),some (.ref a),some (.int 0),some (.int i.arg),none],h++.idict kv::.list acc::J):=by
   exact(aS (az (am (ac rfl) (hi _) rfl) (bS (ah ao (ah ao aN))) (gO hin)) rfl aF)
  have s3:exec (av aw N (n+1)) N (rK.nth 2) [some (.ref p),some (.ref h.length),some (.ref (h.length+1)),some (.ref a),some (.int 0),some (.int i.arg),none] (h++.idict kv::.list acc::J)=
   some (.next,[some (.ref p),some (.ref h.length),some (.ref (h.length+1)),some (.ref a),some (.int 0),some (.int i.arg),none],h++.idict kv::.list acc::J):=by
   exact(aS (az (am (ac rfl) (hi _) rfl) ao (ag some (aJ h0))) rfl aF)
  exact an s1 (an s2 (an s3 (an (tc ha hacc) aF)))
 ·have hin:=zr (H:=[]) (aJ o46)
  obtain⟨h4,h6⟩:=not_or.mp o46;obtain⟨o0,o1⟩:=hw.out h4 h6;obtain⟨kv1,X1,g1,hc1⟩:=iJ (N:=N) (n:=n) (iH x.list x.insts (.list acc::J)) w g o0 o1 hs hN
  replace hc1:=hc1.trans (ag (fun z=>some (V.int (bh d.insts i.out),z)) (aH h (.idict kv1::.list acc::J) X1))
  have s2:exec (av aw N (n+1)) N (rK.nth 1) [some (.ref p),some (.ref h.length),some (.ref (h.length+1)),some (.ref a),some (.int 0),some (.int i.arg),none] (h++.idict kv::.list acc::J)=
   some (.next,[some (.ref p),some (.ref h.length),some (.ref (h.length+1)),some (.ref a),some (.int (bh d.insts i.out)),some (.int i.arg),none],h++.idict kv1::.list acc::(J++X1)):=by
   exact(bX (az (am (ac rfl) (hi _) rfl) (bS (ah ao (ah ao aN))) (gO hin)) rfl (an (bf (bL (ah (am (ac rfl) (hp _) rfl) (ah (am (ac rfl) (hi _) rfl) (ah (ac rfl) aN))) hc1) (bk (aj rfl))) aF))
  by_cases h0:i.op=0
  ·obtain⟨q0,q1⟩:=hw.alt h0
   obtain⟨kv2,X2,g2,hc2⟩:=iJ (N:=N) (n:=n) (iH x.list x.insts (.list acc::(J++X1))) w g1 q0 q1 hs hN
   replace hc2:=hc2.trans (ag (fun z=>some (V.int (bh d.insts i.arg),z)) (aH h (.idict kv2::.list acc::(J++X1)) X2))
   have eL:dJ d.insts i={op:=i.op,out:=bh d.insts i.out,arg:=bh d.insts i.arg,low:=i.low,high:=i.high,fold:=i.fold,last:=false}:=by rw[dJ,au o46,ap h0]
   rw[eL];refine⟨kv2,X1++X2++[.inst 0 _],h.length+((J++X1++X2).length+2),some (.int (bh d.insts i.out)),some (.int (bh d.insts i.arg)),g2,fun u v=>by rw[aH J X1 X2];exact wq,?_⟩
   have s3:exec (av aw N (n+1)) N (rK.nth 2) [some (.ref p),some (.ref h.length),some (.ref (h.length+1)),some (.ref a),some (.int (bh d.insts i.out)),some (.int i.arg),none] (h++.idict kv1::.list acc::(J++X1))=
   some (.next,[some (.ref p),some (.ref h.length),some (.ref (h.length+1)),some (.ref a),some (.int (bh d.insts i.out)),some (.int (bh d.insts i.arg)),none],h++.idict kv2::.list acc::(J++X1++X2)):=by exact(bX (az (am (ac rfl) (hi _) rfl) ao (ag some (beq_of_eq h0))) rfl (an (bf (bL (ah (am (ac rfl) (hp _) rfl) (ah (ac rfl) (ah (ac rfl) aN))) hc2) (bk (aj rfl))) aF))
   rw[<-aH J,<-aH J X1];exact an s1 (an s2 (an s3 (an (tc ha hacc) aF)))
  ·have eL:dJ d.insts i={op:=i.op,out:=bh d.insts i.out,arg:=i.arg,low:=i.low,high:=i.high,fold:=i.fold,last:=false}:=by rw[dJ,au o46,au h0]
   rw[eL];refine⟨kv1,X1++[.inst 0 _],h.length+((J++X1).length+2),some (.int (bh d.insts i.out)),some (.int i.arg),g1,fun u v=>wq,?_⟩;have s3:exec (av aw N (n+1)) N (rK.nth 2) [some (.ref p),some (.ref h.length),some (.ref (h.length+1)),some (.ref a),some (.int (bh d.insts i.out)),some (.int i.arg),none] (h++.idict kv1::.list acc::(J++X1))=
   some (.next,[some (.ref p),some (.ref h.length),some (.ref (h.length+1)),some (.ref a),some (.int (bh d.insts i.out)),some (.int i.arg),none],h++.idict kv1::.list acc::(J++X1)):=by exact(aS (az (am (ac rfl) (hi _) rfl) ao (ag some (aJ h0))) rfl aF)
   rw[<-aH J];exact an s1 (an s2 (an s3 (an (tc ha hacc) aF)))
end
end
section
variable {N n:Nat}{h:H}{p L Hd D:Nat}{as:List Nat}{is:List I}{d:PD}
theorem yx (x:PA h p L Hd as d)(w:ii d.insts)(hs:d.insts.length<1000)(hN:900000≤N){chk:H->Bool}(hchk:∀Y,chk (h++Y)=true):
 ∀ (rest:List Nat) (ris:List I) (bs:List Nat) (done:List I) (kv:KV) (J:H) (x3 x4 x5:Option V),aM h rest ris->(∀i∈ris,pS d.insts.length i)->qw d.insts kv->(∀u v,aM (h++u::v::J) bs (done.map (dJ d.insts)))->bs.length+rest.length<1000000->
   AG (fun kv' J' bs' z3 z4 z5=>qw d.insts kv') (fun kv' J' bs' z3 z4 z5=>(∀u v,aM (h++u::v::J') bs' ((done++ris).map (dJ d.insts)))) (fun kv' J' bs' z3 z4 z5=>dR 3 (bn (av aw N (n+1)) N rK) chk (rest.map .ref) [some (.ref p),some (.ref h.length),some (.ref (h.length+1)),x3,x4,x5,none] (h++.idict kv::.list (bs.map .ref)::J)=
       some (.next,[some (.ref p),some (.ref h.length),some (.ref (h.length+1)),z3,z4,z5,none],h++.idict kv'::.list (bs'.map .ref)::J')):=by
 intro rest
 induction rest with
 | nil=>
   intro v9;cases v9 with
   | nil=>
     intro bs done kv J x3 x4 x5 _ _ g hb _;exact⟨kv,J,bs,x3,x4,x5,g,by simpa using hb,by simp[eC,bK,hchk]⟩
   | cons _ _=>
     intro _ _ _ _ _ _ _ x _ _ _ _;exact x.elim
 | cons a rest ih=>
   intro v9;cases v9 with
   | nil=>
     intro _ _ _ _ _ _ _ x _ _ _ _;exact x.elim
   | cons i ris=>
     intro bs done kv J x3 x4 x5 hi hw g hb hl;simp only[List.length_cons] at hl;obtain⟨kv1,X,b,z4,z5,g1,hb1,hbody⟩:=yy (N:=N) (n:=n) x w hs hN hi.1 (hw i aK) g (acc:=bs.map .ref) (by simp;lia) (J:=J) (x4:=x4) (x5:=x5)
     obtain⟨kv',J',bs',y3,y4,y5,g2,hb2,hr⟩:=ih ris (bs++[b]) (done++[i]) kv1 (J++X) (some (.ref a)) z4 z5 hi.2 (fun j hj=>hw j (aP _ hj)) g1 (fun u v=>by
      rw[List.map_append];have e:h++u::v::(J++X)=(h++u::v::J)++X:=by simp
      refine aM.app ?_ ⟨hb1 u v,trivial⟩;rw[e];exact(hb u v).mono (Le.app _ _)) (by simp;lia)
     refine⟨kv',J',bs',y3,y4,y5,g2,by simpa using hb2,?_⟩
     rw[List.map_cons,bK,ap (hchk _)];have hset:([some (.ref p),some (.ref h.length),some (.ref (h.length+1)),x3,x4,x5,none]:En).set 3 (some (.ref a))=[some (.ref p),some (.ref h.length),some (.ref (h.length+1)),some (.ref a),x4,x5,none]:=rfl;rw[hset,hbody];simp only;rw[<-hr];simp
theorem aM.appR {h l Y:H}{as:List Nat}{is:List I}(x:aM (h++l) as is):aM (h++(l++Y)) as is:=aH h l Y▸x.mono (Le.app (h++l) Y)
noncomputable def iC (d:PD):PD:={insts:=d.insts.map (dJ d.insts),start:=bh d.insts d.start,loose:=bh d.insts d.loose,rev:=d.rev,as:=d.as,ae:=d.ae,flat:=false,heads:=[],pre:=d.pre,pf:=d.pf}
theorem o_ (x:PA h p L Hd as d)(hf:d.flat=false)(w:ii d.insts)(hs:d.insts.length<1000)(hN:900000≤N)(s0:0≤d.start)(s1:d.start<d.insts.length)(l0:0≤d.loose)(l1:d.loose<d.insts.length):
 AK (fun q L' Hd' as' X=>av aw N (n+4) 9 [.ref p] h=some (.ref q,h++X)) (fun q L' Hd' as' X=>PA (h++X) q L' Hd' as' (iC d)):=by
 have hp:∀y,(h++y)[p]?=_:=aY x.obj;have hp0:=x.obj;have hl:∀y,(h++y)[L]?=_:=aY x.list;obtain⟨kv1,J1,bs,z3,z4,z5,g1,hb1,hloop⟩:=yx (N:=N) (n:=n+2) x w hs hN (chk:=dy (h++[.idict [],.list []]) (.ref L)) (fun Y=>cB (hl _) (hl _)) as d.insts [] [] [] [] none none none x.insts w.wf ⟨by simp,by simp⟩ (fun u v=>trivial) (by have:=x.insts.len;simp;lia)
 simp only[List.nil_append] at hb1;obtain⟨q,hq⟩:∃q,q=h.length+(J1.length+2):=⟨_,rfl⟩
 have htw:av aw N (n+3) 2 [.ref p] (h++.idict kv1::.list (bs.map .ref)::J1)=some (.ref q,h++.idict kv1::.list (bs.map .ref)::(J1++.inst 1 (fo q d)::[.inst 0 gN,.list [.ref (q+1)],.list []])):=by rw[x_ (x.mono (Le.app h _)),bd,aH,hq];rfl
 have getq:∀ (u v m:O) (R:H),(h++u::v::(J1++m::R))[q]?=some m:=fun u v m R=>by rw[hq];exact(bz h _ _).trans (bC J1 m R)
 have sa:∀ (u v:O) (m:List V) (k:Nat) (w:V) (R:H) (_:k<m.length) (_:k<11),setAttr (h++u::v::(J1++.inst 1 m::R)) (.ref q) 1 k w=some (h++u::v::(J1++.inst 1 (m.set k w)::R)):=fun u v m k w R p1 p2=>by rw[qa (d:=1) (getq u v _ R) p1 p2,hq];exact ag some ((eV h _ _ _).trans (ag (fun z=>h++u::v::z) (fw J1 _ _)))
 have sa0:=fun u v w R=>sa u v (fo q d) 0 w R (aj rfl) (by decide)
 have sa1:=fun u v w0 w R=>sa u v ((fo q d).set 0 w0) 1 w R (aj rfl) (by decide)
 have sa2:=fun u v w0 w1 w R=>sa u v (((fo q d).set 0 w0).set 1 w1) 2 w R (aj rfl) (by decide)
 obtain⟨kv2,X2,g2,hc2⟩:=iJ (N:=N) (n:=n+2) (iH x.list x.insts (.list (bs.map .ref)::(J1++.inst 1 ((fo q d).set 0 (.ref (h.length+1)))::[.inst 0 gN,.list [.ref (q+1)],.list []]))) w g1 s0 s1 hs hN;obtain⟨kv3,X3,g3,hc3⟩:=iJ (N:=N) (n:=n+2) (iH x.list x.insts (.list (bs.map .ref)::(J1++.inst 1 (((fo q d).set 0 (.ref (h.length+1))).set 1 (.int (bh d.insts d.start)))::([.inst 0 gN,.list [.ref (q+1)],.list []]++X2)))) w g2 l0 l1 hs hN
 have as3:∀ (u v m:O) (R X:H),h++u::v::(J1++m::R)++X=h++u::v::(J1++m::(R++X)):=fun u v m R X=>by rw[aH];exact ag (fun z=>h++u::v::z) (aH _ _ _)
 replace hc2:=hc2.trans (ag (fun z=>some (V.int (bh d.insts d.start),z)) (as3 _ _ _ _ _))
 replace hc3:=hc3.trans (ag (fun z=>some (V.int (bh d.insts d.loose),z)) (as3 _ _ _ _ _))
 rw[hf] at hp0;refine⟨q,h.length+1,q+3,bs,.idict kv3::.list (bs.map .ref)::(J1++.inst 1 _::([.inst 0 gN,.list [.ref (q+1)],.list []]++X2++X3)),cL (e:=[some (.ref p),none,none,none,none,none,none]) (bt:=[some (.ref p),some (.ref h.length),some (.ref (h.length+1)),z3,z4,z5,some (.ref q)]) (v:=.ref q) rfl rfl ?_ rfl,⟨getq _ _ _ _,bH rfl,?_,?_⟩⟩
 rotate_left
 ·exact aM.appR (l:=_::_::J1) (hb1 _ _)
 ·rw[hq];exact(bz h _ (J1.length+5)).trans (bz J1 _ 3)
 ·clear sa
  exact(an (aS (am (ac rfl) hp0 rfl) rfl aF) (an (fh (bS (ah (em fJ) (ah (bA aN (aj rfl) lO) aN))) rfl (db (bk (aj rfl)) (db (bk (aj rfl)) j3))) (an (fC (am (ac rfl) (hp _) rfl) (dG (hl _)) (aj rfl) hloop) (an (bf (bL (ah (ac rfl) aN) htw) (bk (aj rfl))) (an (bf (ac rfl) (dO (ac rfl) (sa0 _ _ _ _))) (an (bf (bL (ah (am (ac rfl) (hp _) rfl) (ah (am (ac rfl) (hp _) rfl) (ah (ac rfl) aN))) hc2) (dO (ac rfl) (sa1 _ _ _ _ _))) (an (bf (bL (ah (am (ac rfl) (hp _) rfl) (ah (am (ac rfl) (hp _) rfl) (ah (ac rfl) aN))) hc3) (dO (ac rfl) (sa2 _ _ _ _ _ _))) (bb (bR (ac rfl))))))))))
end
section
variable {k:Int}{l R M S:List Int}{t:Bool}{x4 x5:Option V}
section
variable {N n:Nat}{h:H}{p L Hd D:Nat}{as:List Nat}{is:List I}{d:PD}
inductive Reach (d:PD):Int->Prop
 | start:Reach d d.start
 | loose:Reach d d.loose
 | out {k:Int}:Reach d k->(gi d.insts k).op≠4->(gi d.insts k).op≠6->Reach d (gi d.insts k).out
 | arg {k:Int}:Reach d k->(gi d.insts k).op=0->Reach d (gi d.insts k).arg
theorem Reach.range {d:PD}(w:ii d.insts)(s0:0≤d.start)(s1:d.start<d.insts.length)(l0:0≤d.loose)(l1:d.loose<d.insts.length)(x:Reach d k):0≤k/\k<d.insts.length:=by
 induction x with
 | start=>exact⟨s0,s1⟩
 | loose=>exact⟨l0,l1⟩
 | out x h1 h2 ih=>exact(w.at ih.1 ih.2).out h1 h2
 | arg x h1 ih=>exact(w.at ih.1 ih.2).alt h1
theorem Reach.ways {d:PD}(x:Reach d k):∀w∈ways (gi d.insts k),Reach d w:=fun w hw=>by
 unfold Mine.ways at hw
 split at hw
 ·rename_i h0
  rcases a_ hw with rfl | hw
  ·exact x.out (by lia) (by lia)
  ·simp only[aB hw];exact x.arg h0
 ·split at hw
  ·rename_i h5
   simp only[aB hw];exact x.out (by lia) (by lia)
  ·simp at hw
noncomputable def dk (l:List Int):KV:=l.map fun k=>(k,V.bool true)
noncomputable def kJ (l:List Int) (k:Int):List Int:=if k∈l then l else l++[k]
theorem oh:(dk l).map (·.1)=l:=by unfold dk;rw[List.map_map];exact List.map_id' l
theorem lw:((dk l).map fun p=>V.int p.1)=l.map .int:=by unfold dk;rw[List.map_map];rfl
theorem qO:put (dk l) k (.bool true)=dk (kJ l k):=by
 unfold kJ
 by_cases h:k∈l
 ·rw[ap h,qN (by rw[oh];exact h)]
  unfold dk;rw[List.map_map];refine List.map_congr_left fun x y=> ?_
  dsimp only[Function.comp]
  split<;>rfl
 ·rw[au h,nr (by rw[oh];exact h)]
  unfold dk;simp
theorem da {x:Int}:x∈kJ l k↔x∈l\/x=k:=by
 unfold kJ;split
 ·constructor
  ·exact .inl
  ·rintro(h | rfl)<;>assumption
 ·simp
theorem ma (h:l.Nodup):(kJ l k).Nodup:=by
 unfold kJ;split
 ·exact h
 ·rename_i hk;exact cw h hk
theorem q_:l<+:kJ l k:=by
 unfold kJ;split
 ·exact List.prefix_rfl
 ·exact List.prefix_append _ _
theorem uD:(kJ l k).length≤l.length+1:=by unfold kJ;split<;>simp
theorem uy:(dk l).length=l.length:=by simp[dk]
noncomputable def fX (d:PD):List Int:=kJ (kJ [0] d.loose) d.start
structure FI (d:PD) (R M S:List Int):Prop where
 rnd:R.Nodup
 mnd:M.Nodup
 pre:fX d<+:R
 r:∀k∈R,k=0\/Reach d k
 m:∀k∈M,Reach d k
 s:∀k∈S,Reach d k
 step:∀k∈M,(gi d.insts k).op=1\/(gi d.insts k).op=2\/(gi d.insts k).op=3->(gi d.insts k).out∈R/\((gi d.insts k).out∈M\/(gi d.insts k).out∈S)
 way:∀k∈M,∀w∈ways (gi d.insts k),w∈M\/w∈S
 st:d.start∈M\/d.start∈S
 lo:d.loose∈M\/d.loose∈S
noncomputable def wh:dz:=(gR.nth 2).body
noncomputable def oy (p b:Nat) (y:List (Option V)):En:=[some (.ref p),some (.ref b),some (.ref (b+1)),some (.ref (b+2))]++y
noncomputable def eP (h:H) (R M S:List Int):H:=h++[.idict (dk R),.idict (dk M),.list (S.reverse.map .int)]
theorem eB {H:Mine.H}{D:Nat}(g:H[D]?=some (.idict (dk l)))(q:decide (k∈l)=t):jm H (.int k) (.ref D)=some t:=xD g (by rw[oh];exact q)
theorem ix {H:Mine.H}{D:Nat}(g:H[D]?=some (.idict (dk l)))(q:l.length<1000000):cW H (.ref D) (.int k) (.bool true)=some (H.set D (.idict (dk (kJ l k)))):=by rw[gX g (by rw[uy];exact q),qO]
theorem ly (h:k∉l):kJ l k=l++[k]:=au h
theorem sA {H:Mine.H}{o:Int}(q:decide (o=1\/o=2\/o=3)=t):jm H (.int o) (.tup [.int 1,.int 2,.int 3])=some t:=by
 simp only[<-q]
 show some (1==o || (2==o || (3==o || false)))=_
 simp only[Bool.decide_or,Bool.decide_or,<-bq,<-bq,<-bq,Bool.or_false]
theorem uH {y:List (Option V)}:eT (av aw N n) (.var 3) (oy p h.length y) (eP h R M S)=some (!S.isEmpty,eP h R M S):=by
 have e:(S.reverse.map V.int).isEmpty=S.isEmpty:=by simp only[List.isEmpty_map,List.isEmpty_reverse]
 exact e▸gM (ac rfl) (lT (bH rfl))
theorem zC (hk:k∈M):bn (av aw N n) N wh (oy p h.length [x4,x5]) (eP h R M (k::S))=some (.cont,oy p h.length [some (.int k),x5],eP h R M S):=by
 have hin:=eB (k:=k) (H:=eP h R M S) (D:=h.length+1) (bH rfl) (aW hk)
 show execs _ _ wh _ _=_
 exact(an (bf (fp (ac rfl) (bH rfl) A_) (bk (aj rfl))) (cT (bX (az (ac rfl) (ac rfl) hin) rfl (cT iu))))
theorem Dh (x:PA h p L Hd as d)(hk:k∉M)(h0:0≤k)(h1:k<d.insts.length)(hM:M.length<1000)(hR:R.length<1000)(hS:S.length<900000):
 ∃z5,bn (av aw N (n+1)) N wh (oy p h.length [x4,x5]) (eP h R M (k::S))=some (.next,oy p h.length [some (.int k),z5],
  if(gi d.insts k).op=1\/(gi d.insts k).op=2\/(gi d.insts k).op=3 then eP h (kJ R (gi d.insts k).out) (M++[k]) ((gi d.insts k).out::S) else eP h R (M++[k]) (ways (gi d.insts k)++S)):=by
 obtain⟨a,ha,hi⟩:=x.insts.gi h0 h1;have hp:∀y,(h++y)[p]?=_:=aY x.obj;have hi':∀y,(h++y)[a]?=_:=aY hi;have hs:∀y,cP (h++y) (.ref L) (.int k)=some (.ref a):=fun y=>rX (aY x.list y) ha h0;have hw:∀y,av aw N (n+1) 10 [.ref a] (h++y)=some (.tup ((ways (gi d.insts k)).map .int),h++y):=fun y=>gu (aY hi y);have hin:=eB (k:=k) (H:=eP h R M S) (D:=h.length+1) (bH rfl) (aJ hk)
 have hsM:cW (eP h R M S) (.ref (h.length+1)) (.int k) (.bool true)=some (eP h R (M++[k]) S):=by rw[<-ly hk];exact(ix (l:=M) (bH rfl) (by lia)).trans (ag some vh)
 refine⟨some (.ref a),?_⟩
 show execs _ _ wh _ _=_
 by_cases o:(gi d.insts k).op=1\/(gi d.insts k).op=2\/(gi d.insts k).op=3
 ·rw[ap o]
  have hww:ways (gi d.insts k)=[]:=by rw[ways,au (by lia),au (by lia)]
  rw[hww] at hw;have l4:S.length<1000000:=by lia
  have l5:(S.length+1)+0≤1000000:=by lia
  have hop:=sA (H:=[]) (aW o)
  have hsR:cW (eP h R (M++[k]) S) (.ref h.length) (.int (gi d.insts k).out) (.bool true)=some (eP h (kJ R (gi d.insts k).out) (M++[k]) S):=by exact(ix (l:=R) br (by lia)).trans (ag some dE)
  exact(an (bf (fp (ac rfl) (bH rfl) A_) (bk (aj rfl))) (an (aS (az (ac rfl) (ac rfl) hin) rfl aF) (an (bf ao (f0 (ac rfl) (ac rfl) hsM)) (an (bf (bE (am (ac rfl) (hp _) rfl) (ac rfl) (hs _)) (bk (aj rfl))) (an (bX (az (am (ac rfl) (hi' _) rfl) ao hop) rfl (an (bf ao (f0 (ac rfl) (am (ac rfl) (hi' _) rfl) hsR)) (an (nz (ac rfl) (bH rfl) (am (ac rfl) (hi' _) rfl) (bH rfl) l4 A_) aF))) (an (ng (ac rfl) (bH rfl) (bL (ah (ac rfl) aN) (hw _)) (bH rfl) l5 A_) aF))))))
 ·rw[au o]
  have hop:=sA (H:=[]) (aJ o)
  have hwl:(ways (gi d.insts k)).length≤2:=by unfold ways;split; · simp
                                              split<;>simp
  have l3:S.length+(ways (gi d.insts k)).length≤1000000:=by lia
  exact(an (bf (fp (ac rfl) (bH rfl) A_) (bk (aj rfl))) (an (aS (az (ac rfl) (ac rfl) hin) rfl aF) (an (bf ao (f0 (ac rfl) (ac rfl) hsM)) (an (bf (bE (am (ac rfl) (hp _) rfl) (ac rfl) (hs _)) (bk (aj rfl))) (an (aS (az (am (ac rfl) (hi' _) rfl) ao hop) rfl aF) (an (ng (ac rfl) (bH rfl) (bL (ah (ac rfl) aN) (hw _)) (bH rfl) l3 A_) aF))))))
theorem zD (x:PA h p L Hd as d)(w:ii d.insts)(hs:d.insts.length<100)(s0:0≤d.start)(s1:d.start<d.insts.length)(l0:0≤d.loose)(l1:d.loose<d.insts.length):
 ∀ (F:Nat) (R M S:List Int) (x4 x5:Option V),FI d R M S->S.length+4*(d.insts.length-M.length)<F->S.length+4*(d.insts.length-M.length)<100000->
   s_ (fun R' M' z4 z5=>FI d R' M' []) (fun R' M' z4 z5=>dB (eT (av aw N (n+1)) (.var 3)) (bn (av aw N (n+1)) N wh) F (oy p h.length [x4,x5]) (eP h R M S)=some (.next,oy p h.length [z4,z5],eP h R' M' [])):=by
 intro F
 induction F with
 | zero=>
   intro _ _ _ _ _ _ hF _;exact absurd hF (Nat.not_lt_zero _)
 | succ F ih=>
   intro R M v9;cases v9 with
   | nil=>
     intro x4 x5 I hF hB;exact⟨R,M,x4,x5,I,by rw[ef,uH];rfl⟩
   | cons k S=>
     intro x4 x5 I hF hB;rw[ef,uH];simp only[List.isEmpty_cons,Bool.not_false];simp only[List.length_cons] at hF hB;have hk:=I.s k aK;obtain⟨k0,k1⟩:=hk.range w s0 s1 l0 l1;have rng:∀ {q},Reach d q->0≤q/\q<d.insts.length:=fun z=>z.range w s0 s1 l0 l1;have hMl:=bW I.mnd fun q hq=>rng (I.m q hq)
     have hRl:=bW (m:=d.insts.length) I.rnd fun q hq=>by
      rcases I.r q hq with rfl | z
      ·exact⟨Int.le_refl _,by have:=w.pos;lia⟩
      ·exact rng z
     by_cases hin:k∈M
     ·obtain⟨R',M',z4,z5,I',hr⟩:=ih R M S (some (.int k)) x5 ⟨I.rnd,I.mnd,I.pre,I.r,I.m,fun q hq=>I.s q (aP _ hq),
       fun q hq o=>⟨(I.step q hq o).1,(I.step q hq o).2.elim .inl fun z=>(a_ z).elim (fun e=>.inl (e▸hin)) .inr⟩,
       fun q hq v hv=>(I.way q hq v hv).elim .inl fun z=>(a_ z).elim (fun e=>.inl (e▸hin)) .inr,
       I.st.elim .inl fun z=>(a_ z).elim (fun e=>.inl (e▸hin)) .inr,I.lo.elim .inl fun z=>(a_ z).elim (fun e=>.inl (e▸hin)) .inr⟩ (by lia) (by lia)
      exact⟨R',M',z4,z5,I',by rw[zC hin];exact hr⟩
     ·have hMl':=bW (cw I.mnd hin) (m:=d.insts.length) fun q hq=>by
       rcases ba hq with hq | hq
       ·exact rng (I.m q hq)
       ·rw[aB hq];exact⟨k0,k1⟩
      simp at hMl';obtain⟨z5,hb⟩:=Dh (N:=N) (n:=n) (R:=R) (M:=M) (S:=S) (x4:=x4) (x5:=x5) x hin k0 k1 (by lia) (by lia) (by lia)
      have hm':∀q∈M++[k],Reach d q:=fun q hq=>by
       rcases ba hq with hq | hq
       ·exact I.m q hq
       ·rw[aB hq];exact hk
      have up:∀ {q:Int} {S':List Int},(∀z∈S,z∈S')->(q∈M\/q∈k::S)->q∈M++[k]\/q∈S':=fun hS' z=>by
       rcases z with z | z
       ·exact .inl (List.mem_append_left _ z)
       ·rcases a_ z with rfl | z
        ·exact .inl (by simp)
        ·exact .inr (hS' _ z)
      rw[hb];simp only
      by_cases o:(gi d.insts k).op=1\/(gi d.insts k).op=2\/(gi d.insts k).op=3
      ·rw[ap o]
       have hout:=hk.out (by lia) (by lia)
       have hww:ways (gi d.insts k)=[]:=by unfold ways;rw[au (by lia),au (by lia)]
       have hsub:∀z∈S,z∈(gi d.insts k).out::S:=fun z hz=>aP _ hz;refine ih _ _ _ _ _ ⟨ma I.rnd,cw I.mnd hin,I.pre.trans q_,fun q hq=>(da.mp hq).elim (I.r q) fun e=>.inr (e▸hout),hm',fun q hq=> ?_,fun q hq oq=> ?_,fun q hq v hv=> ?_,up hsub I.st,up hsub I.lo⟩ (by simp;exact Nat.lt_of_succ_lt_succ (E5 (by assumption) (by assumption) (by decide))) (by simp;exact Nat.lt_of_succ_lt (E5 (by assumption) (by assumption) (by decide)))
       ·rcases a_ hq with rfl | hq
        ·exact hout
        ·exact I.s q (aP _ hq)
       ·rcases ba hq with hq | hq
        ·exact⟨da.mpr (.inl (I.step q hq oq).1),up hsub (I.step q hq oq).2⟩
        ·rw[aB hq];exact⟨da.mpr (.inr rfl),.inr (by simp)⟩
       ·rcases ba hq with hq | hq
        ·exact up hsub (I.way q hq v hv)
        ·rw[aB hq,hww] at hv;simp at hv
      ·rw[au o]
       have hwl:(ways (gi d.insts k)).length≤2:=by unfold ways;split; · simp
                                                   split<;>simp
       have hsub:∀z∈S,z∈ways (gi d.insts k)++S:=fun z hz=>List.mem_append_right _ hz;refine ih _ _ _ _ _ ⟨I.rnd,cw I.mnd hin,I.pre,I.r,hm',fun q hq=> ?_,fun q hq oq=> ?_,fun q hq v hv=> ?_,up hsub I.st,up hsub I.lo⟩ (by simp;exact Nat.lt_of_succ_lt_succ (Cu (by assumption) (by assumption) (Nat.le_trans (by assumption) (by decide)))) (by simp;exact Nat.lt_of_succ_lt (Cu (by assumption) (by assumption) (Nat.le_trans (by assumption) (by decide))))
       ·rcases ba hq with hq | hq
        ·exact hk.ways q hq
        ·exact I.s q (aP _ hq)
       ·rcases ba hq with hq | hq
        ·exact⟨(I.step q hq oq).1,up hsub (I.step q hq oq).2⟩
        ·rw[aB hq] at oq;exact absurd oq o
       ·rcases ba hq with hq | hq
        ·exact up hsub (I.way q hq v hv)
        ·rw[aB hq] at hv;exact .inr (List.mem_append_left _ hv)
theorem pR (x:PA h p L Hd as d)(w:ii d.insts)(hs:d.insts.length<100)(s0:0≤d.start)(s1:d.start<d.insts.length)(l0:0≤d.loose)(l1:d.loose<d.insts.length)(hN:900000≤N):
 pA (fun R M X=>FI d R M []) (fun R M X=>av aw N (n+2) 11 [.ref p] h=some (.ref h.length,h++.idict (dk R)::X)):=by
 have hp0:=x.obj;have hp:∀y,(h++y)[p]?=_:=aY x.obj
 have tr:∀q∈fX d,q=0\/Reach d q:=fun q hq=>by
  rcases da.mp hq with hq | rfl
  ·rcases da.mp hq with hq | rfl
   ·exact .inl (aB hq)
   ·exact .inr .loose
  ·exact .inr .start
 obtain⟨R',M',z4,z5,I',hr⟩:=zD (N:=N) (n:=n) x w hs s0 s1 l0 l1 N (fX d) [] [d.loose,d.start] none none
  ⟨ma (ma (by simp)),List.nodup_nil,List.prefix_rfl,tr,by simp,fun q hq=>by
   rcases a_ hq with rfl | hq
   ·exact .loose
   ·rw[aB hq];exact .start,by simp,by simp,.inr (by simp),.inr (by simp)⟩ (by simp;lia) (by simp;lia)
 refine⟨R',M',[.idict (dk M'),.list []],I',?_⟩
 have t0:dictFrom [.int 0,.bool true,.int d.loose,.bool true,.int d.start,.bool true] []=some (dk (fX d)):=by
  show some (put (put (dk [0]) _ _) _ _)=_
  rw[qO,qO];rfl
 have t2:dB (eT (av aw N (n+1)) (.var 3)) (bn (av aw N (n+1)) N wh) N [some (.ref p),some (.ref h.length),some (.ref (h.length+1)),some (.ref (h.length+2)),none,none] (h++[.idict (dk (fX d)),.idict [],.list [.int d.start,.int d.loose]])=_:=hr;apply cL (e:=[some (.ref p),none,none,none,none,none]) rfl rfl
 ·exact(an (bf (Bd (ah ao (ah ao (ah (am (ac rfl) hp0 rfl) (ah ao (ah (am (ac rfl) hp0 rfl) (ah ao aN)))))) t0 fJ) (bk (aj rfl))) (an (fh (bS (ah (em lO) (ah (bA (ah (am (ac rfl) (hp _) rfl) (ah (am (ac rfl) (hp _) rfl) aN)) (aj rfl) wb) aN))) rfl (db (bk (aj rfl)) (db (bk (aj rfl)) j3))) (an (AT hr) (bb (bR (ac rfl))))))
 ·rfl
end
end
section
variable {J:H}{s:SS}{w r:Int}{ow:List (Int×Int)}{t R:List Int}
section
variable {N n:Nat}{h:H}{p L Hd D RA:Nat}{as:List Nat}{is:List I}{d:PD}
structure SS where
 ow:List (Int×Int)
 sh:List Int
 st:List Int
noncomputable def kj (l:List (Int×Int)):KV:=l.map fun q=>(q.1,V.int q.2)
noncomputable def ownOf (ow:List (Int×Int)) (w:Int):Option Int:=(ow.find? fun q=>decide (q.1=w)).map (·.2)
theorem f7:lookup (kj ow) w=(ownOf ow w).map V.int:=by
 unfold lookup ownOf kj
 induction ow with
 | nil=>rfl
 | cons q ow ih=>
   simp only[List.map_cons,List.find?_cons,List.find?_cons]
   by_cases h:q.1=w
   ·simp[h]
   ·simp only[h,decide_false];exact ih
theorem vq {o:Int}(h:ownOf ow w=some o):(w,o)∈ow:=by unfold ownOf at h;obtain⟨⟨a,b⟩,h1,h2⟩:=Option.map_eq_some_iff.mp h;have h3:=List.find?_some h1;simp at h3 h2;simp only[<-h3,<-h2];exact List.mem_of_find?_eq_some h1
theorem iz (h:w∈ow.map (·.1)):∃o,ownOf ow w=some o:=by
 cases hq:ownOf ow w with
 | some o=>exact⟨o,rfl⟩
 | none=>
   unfold ownOf at hq;rw[Option.map_eq_none_iff,List.find?_eq_none] at hq;rw[List.mem_map] at h;obtain⟨q,hm,e⟩:=h;exact absurd e (by simpa using hq q hm)
noncomputable def qD (R:List Int) (r:Int) (s:SS) (w:Int):SS:=
 if w∈R\/w∈s.sh then s
 else if w∉s.ow.map (·.1) then⟨s.ow++[(w,r)],s.sh,w::s.st⟩
 else if ownOf s.ow w≠some r then⟨s.ow,s.sh++[w],s.st⟩
 else s
theorem lx {l:List (Int×Int)}:(kj l).map (·.1)=l.map (·.1):=by unfold kj;rw[List.map_map];rfl
noncomputable def Ag:dz:=(dN.nth 1).body
noncomputable def u6:dz:=(Ag.nth 1).body
noncomputable def AQ:dz:=(u6.nth 0).body
noncomputable def iR (L RA b c:Nat) (r:Int) (y:Option V):En:=[some (.ref L),some (.ref RA),some (.ref b),some (.ref (b+1)),some (.int r),some (.ref c),y]
noncomputable def cq (h:H) (s:SS) (J:H):H:=h++.idict (kj s.ow)::.idict (dk s.sh)::(J++[.list (s.st.reverse.map .int)])
theorem tj:(cq h s J)[h.length+(J.length+2)]?=some (.list (s.st.reverse.map .int)):=(bz h _ _).trans (bC J _ [])
theorem nj:(cq h s J)[h.length]?=some (.idict (kj s.ow)):=br
theorem qB:(cq h s J)[h.length+1]?=some (.idict (dk s.sh)):=bH rfl
theorem wI:List.set (cq h s J) (h.length+(J.length+2)) (.list (t.reverse.map .int))=cq h ⟨s.ow,s.sh,t⟩ J:=
 (eV h _ _ _).trans (ag (fun z=>h++.idict (kj s.ow)::.idict (dk s.sh)::z) (fw J _ _))
theorem yK {t:List (Int×Int)}:List.set (cq h s J) h.length (.idict (kj t))=cq h ⟨t,s.sh,s.st⟩ J:=dE
theorem yJ:List.set (cq h s J) (h.length+1) (.idict (dk t))=cq h ⟨s.ow,t,s.st⟩ J:=vh
theorem Ak:Le h (cq h s J):=Le.app h _
theorem wG {y:Option V}(hR:h[RA]?=some (.idict (dk R)))(ho:s.ow.length<100000)(hsh:s.sh.length<100000)(hst:s.st.length<100000):
 bp (fun fl=>(fl=.next\/fl=.cont)) (fun fl=>bn (av aw N n) N AQ ((iR L RA h.length (h.length+(J.length+2)) r y).set 6 (some (.int w))) (cq h s J)=some (fl,iR L RA h.length (h.length+(J.length+2)) r (some (.int w)),cq h (qD R r s w) J)):=by
 have hR':=Ak (s:=s) (J:=J) _ _ hR
 by_cases c1:w∈R
 ·have i1:=eB hR' (aW c1)
  refine⟨.cont,.inr rfl,?_⟩;rw[qD,ap (.inl c1)];exact(cT (bX (dP (sk (az (ac rfl) (ac rfl) i1) rfl)) rfl (cT iu)))
 have i1:=eB hR' (aJ c1)
 by_cases c2:w∈s.sh
 ·have i2:=eB (qB (h:=h) (s:=s) (J:=J)) (aW c2)
  refine⟨.cont,.inr rfl,?_⟩;rw[qD,ap (.inr c2)];exact(cT (bX (dP (cS (az (ac rfl) (ac rfl) i1) rfl (cV (az (ac rfl) (ac rfl) i2)))) rfl (cT iu)))
 have i2:=eB (qB (h:=h) (s:=s) (J:=J)) (aJ c2);refine⟨.next,.inl rfl,?_⟩;rw[qD,au (not_or.mpr ⟨c1,c2⟩)]
 by_cases c3:w∈s.ow.map (·.1)
 ·have i3:=xD (k:=w) (t:=true) (nj (h:=h) (s:=s) (J:=J)) (by rw[lx];exact aW c3)
  obtain⟨o,lo⟩:=iz c3;have s1:cP (cq h s J) (.ref h.length) (.int w)=some (.int o):=by rw[iw,nj];dsimp only;rw[f7,lo];rfl
  rw[au (not_not_intro c3),lo]
  by_cases c4:o=r
  ·have b4:(!(o==r))=false:=by rw[beq_of_eq c4];rfl
   rw[au (not_not_intro (ag some c4))];exact(an (aS (dP (cS (az (ac rfl) (ac rfl) i1) rfl (cV (az (ac rfl) (ac rfl) i2)))) rfl aF) (an (aS (az (ac rfl) (ac rfl) (gO i3)) rfl (an (aS (az (bE (ac rfl) (ac rfl) s1) (ac rfl) (ag some b4)) rfl aF) aF)) aF))
  ·have b4:(!(o==r))=true:=by rw[aU c4];rfl
   rw[ap fun z=>c4 (Option.some.inj z),<-ly c2];have s2:cW (cq h s J) (.ref (h.length+1)) (.int w) (.bool true)=some (cq h ⟨s.ow,kJ s.sh w,s.st⟩ J):=(ix (l:=s.sh) qB (by lia)).trans (ag some yJ)
   exact(an (aS (dP (cS (az (ac rfl) (ac rfl) i1) rfl (cV (az (ac rfl) (ac rfl) i2)))) rfl aF) (an (aS (az (ac rfl) (ac rfl) (gO i3)) rfl (an (bX (az (bE (ac rfl) (ac rfl) s1) (ac rfl) (ag some b4)) rfl (an (bf ao (f0 (ac rfl) (ac rfl) s2)) aF)) aF)) aF))
 ·have i3:=xD (k:=w) (t:=false) (nj (h:=h) (s:=s) (J:=J)) (by rw[lx];exact aJ c3)
  rw[ap c3]
  have e1:put (kj s.ow) w (.int r)=kj (s.ow++[(w,r)]):=by rw[nr (by rw[lx];exact c3),kj,kj,List.map_append];rfl
  have s2:cW (cq h s J) (.ref h.length) (.int w) (.int r)=some (cq h ⟨s.ow++[(w,r)],s.sh,s.st⟩ J):=by rw[gX nj (by rw[kj,aD];lia),e1,yK]
  have g:=tj (h:=h) (s:=⟨s.ow++[(w,r)],s.sh,s.st⟩) (J:=J);have st:=wI (h:=h) (s:=⟨s.ow++[(w,r)],s.sh,s.st⟩) (J:=J) (t:=w::s.st);have l4:s.st.length<1000000:=by lia
  exact(an (aS (dP (cS (az (ac rfl) (ac rfl) i1) rfl (cV (az (ac rfl) (ac rfl) i2)))) rfl aF) (an (bX (az (ac rfl) (ac rfl) (gO i3)) rfl (an (bf (ac rfl) (f0 (ac rfl) (ac rfl) s2)) (an (nz (ac rfl) g (ac rfl) g l4 st) aF))) aF))
theorem wF {chk:H->Bool}(hR:h[RA]?=some (.idict (dk R)))(hchk:∀H,chk H=true):
 ∀ (ws:List Int) (s:SS) (y:Option V),s.ow.length+ws.length<100000->s.sh.length+ws.length<100000->s.st.length+ws.length<100000->
   ∃z,dR 6 (bn (av aw N n) N AQ) chk (ws.map .int) (iR L RA h.length (h.length+(J.length+2)) r y) (cq h s J)=some (.next,iR L RA h.length (h.length+(J.length+2)) r z,cq h (ws.foldl (qD R r) s) J):=by
 intro ws
 induction ws with
 | nil=>
   intro s y _ _ _;exact⟨y,by simp[eC,bK,hchk]⟩
 | cons w ws ih=>
   intro s y h1 h2 h3;simp only[List.length_cons] at h1 h2 h3;obtain⟨fl,hfl,hb⟩:=wG (N:=N) (n:=n) (L:=L) (r:=r) (w:=w) (s:=s) (J:=J) (y:=y) hR (by lia) (by lia) (by lia)
   have q:(qD R r s w).ow.length≤s.ow.length+1/\(qD R r s w).sh.length≤s.sh.length+1/\(qD R r s w).st.length≤s.st.length+1:=by
    unfold qD;split; · simp
    split; · simp
    split<;>simp
   obtain⟨z,hz⟩:=ih (qD R r s w) (some (.int w)) (by lia) (by lia) (by lia)
   refine⟨z,?_⟩;rw[List.map_cons,bK,ap (hchk _),hb];rcases hfl with rfl | rfl<;>simpa using hz
end
end
section
variable {R st:List Int}{r w k:Int}{Rc:Int->Prop}{s s':SS}{J:H}{y:Option V}
section
variable {N n:Nat}{h:H}{p L Hd D RA:Nat}{as:List Nat}{is:List I}{d:PD}
theorem nA (i:I):(ways i).length≤2:=by
 unfold ways
 split
 ·simp
 ·split<;>simp
noncomputable def Ok (R:List Int) (s:SS) (w q:Int):Prop:=w∈R\/w∈s.sh\/(w,q)∈s.ow
structure AA (R:List Int) (r:Int) (Rc:Int->Prop) (s s':SS):Prop where
 ond:(s'.ow.map (·.1)).Nodup
 snd:s'.sh.Nodup
 ow:∀q∈s.ow,q∈s'.ow
 sh:∀q∈s.sh,q∈s'.sh
 st:∀q∈s.st,q∈s'.st
 ow':∀q∈s'.ow,q∈s.ow\/(q.2=r/\q.1∈s'.st/\q.1∉R/\Rc q.1)
 sh':∀q∈s'.sh,q∈s.sh\/(q∉R/\Rc q)
 st':∀q∈s'.st,q∈s.st\/(q,r)∈s'.ow
 mu:bp (fun j=>s'.ow.length=s.ow.length+j) (fun j=>s'.st.length=s.st.length+j)
theorem AA.ok (x:AA R r Rc s s'){q:Int}(h:Ok R s w q):Ok R s' w q:=by
 rcases h with h | h | h
 ·exact .inl h
 ·exact .inr (.inl (x.sh _ h))
 ·exact .inr (.inr (x.ow _ h))
theorem AA.trans {s'':SS}(x:AA R r Rc s s')(y:AA R r Rc s' s''):AA R r Rc s s'' where
 ond:=y.ond
 snd:=y.snd
 ow:=fun q h=>y.ow q (x.ow q h)
 sh:=fun q h=>y.sh q (x.sh q h)
 st:=fun q h=>y.st q (x.st q h)
 ow':=fun q h=>(y.ow' q h).elim (fun z=>(x.ow' q z).imp id fun⟨a,b,c⟩=>⟨a,y.st _ b,c⟩) .inr
 sh':=fun q h=>(y.sh' q h).elim (x.sh' q) .inr
 st':=fun q h=>(y.st' q h).elim (fun z=>(x.st' q z).imp id fun z=>y.ow _ z) .inr
 mu:=by obtain⟨i,a,b⟩:=x.mu;obtain⟨j,c,e⟩:=y.mu;exact⟨i+j,by lia,by lia⟩
theorem yN (ond:(s.ow.map (·.1)).Nodup)(snd:s.sh.Nodup)(hw:Rc w):AA R r Rc s (qD R r s w)/\Ok R (qD R r s w) w r:=by
 unfold qD
 split
 ·rename_i hc
  exact⟨⟨ond,snd,fun y h=>h,fun y h=>h,fun y h=>h,fun y h=>.inl h,fun y h=>.inl h,fun y h=>.inl h,0,rfl,rfl⟩,hc.elim .inl fun z=>.inr (.inl z)⟩
 ·rename_i hc
  rw[not_or] at hc
  split
  ·rename_i hk
   refine⟨⟨?_,snd,fun y h=>List.mem_append_left _ h,fun y h=>h,fun y h=>aP _ h,fun q h=> ?_,fun y h=>.inl h,fun q h=> ?_,1,by simp,by simp⟩,.inr (.inr (by simp))⟩
   ·rw[List.map_append];exact cw ond hk
   ·rcases ba h with h | h
    ·exact .inl h
    ·rw[aB h];exact .inr ⟨rfl,aK,hc.1,hw⟩
   ·rcases a_ h with rfl | h
    ·exact .inr (by simp)
    ·exact .inl h
  ·split
   ·refine⟨⟨ond,cw snd hc.2,fun y h=>h,fun y h=>List.mem_append_left _ h,fun y h=>h,fun y h=>.inl h,fun q h=> ?_,fun y h=>.inl h,0,rfl,rfl⟩,.inr (.inl (by simp))⟩
    rcases ba h with h | h
    ·exact .inl h
    ·rw[aB h];exact .inr ⟨hc.1,hw⟩
   ·rename_i hn
    have:ownOf s.ow w=some r:=Classical.byContradiction fun z=>hn z;exact⟨⟨ond,snd,fun y h=>h,fun y h=>h,fun y h=>h,fun y h=>.inl h,fun y h=>.inl h,fun y h=>.inl h,0,rfl,rfl⟩,.inr (.inr (vq this))⟩
theorem uh:∀ (ws:List Int) (s:SS),(s.ow.map (·.1)).Nodup->s.sh.Nodup->(∀w∈ws,Rc w)->AA R r Rc s (ws.foldl (qD R r) s)/\∀w∈ws,Ok R (ws.foldl (qD R r) s) w r:=by
 intro ws
 induction ws with
 | nil=>
   intro s o n _;exact⟨⟨o,n,fun y h=>h,fun y h=>h,fun y h=>h,fun y h=>.inl h,fun y h=>.inl h,fun y h=>.inl h,0,rfl,rfl⟩,by simp⟩
 | cons w ws ih=>
   intro s o n hw;obtain⟨x1,k1⟩:=yN (R:=R) (r:=r) (s:=s) o n (hw w aK);obtain⟨x2,k2⟩:=ih (qD R r s w) x1.ond x1.snd fun v hv=>hw v (aP _ hv);refine⟨x1.trans x2,fun v hv=> ?_⟩;rcases a_ hv with rfl | hv
   ·exact x2.ok k1
   ·exact k2 v hv
structure SI (is:List I) (R D:List Int) (r:Int) (Rc:Int->Prop) (s:SS):Prop where
 ond:(s.ow.map (·.1)).Nodup
 orng:∀q∈s.ow,q.1∉R/\Rc q.1/\(q.2∈D\/q.2=r)
 snd:s.sh.Nodup
 srng:∀w∈s.sh,w∉R/\Rc w
 ddone:∀q∈D,∀w∈ways (gi is q),Ok R s w q
 odone:∀q∈s.ow,(q.1∈s.st/\q.2=r)\/∀w∈ways (gi is q.1),Ok R s w q.2
 rdone:r∈s.st\/∀w∈ways (gi is r),Ok R s w r
 st:∀k∈s.st,k=r\/(k,r)∈s.ow
theorem SI.step {D:List Int}(x:SI is R D r Rc s)(hs:s.st=k::st)(hw:∀w∈ways (gi is k),Rc w):
 SI is R D r Rc ((ways (gi is k)).foldl (qD R r) ⟨s.ow,s.sh,st⟩):=by
 obtain⟨y,hk⟩:=uh (R:=R) (r:=r) (ways (gi is k)) ⟨s.ow,s.sh,st⟩ x.ond x.snd hw
 generalize (ways (gi is k)).foldl (qD R r) ⟨s.ow,s.sh,st⟩=s' at y hk
 have ok:∀ {w q},Ok R s w q->Ok R s' w q:=fun z=>y.ok z
 have hmem:∀ {q:Int},q∈s.st->q=k\/q∈s'.st:=fun z=>by
  rw[hs] at z;rcases a_ z with z | z
  ·exact .inl z
  ·exact .inr (y.st _ z)
 refine⟨y.ond,fun q hq=> ?_,y.snd,fun w hw'=>(y.sh' w hw').elim (x.srng w) id,fun q hq w hw'=>ok (x.ddone q hq w hw'),fun q hq=> ?_,?_,fun q hq=> ?_⟩
 ·rcases y.ow' q hq with z | ⟨a,b,c,e⟩
  ·exact x.orng q z
  ·exact⟨c,e,.inr a⟩
 ·rcases y.ow' q hq with z | ⟨a,b,c,e⟩
  ·rcases x.odone q z with⟨h1,h2⟩ | h1
   ·rcases hmem h1 with rfl | h1
    ·rw[h2];exact .inr hk
    ·exact .inl ⟨h1,h2⟩
   ·exact .inr fun w hw'=>ok (h1 w hw')
  ·exact .inl ⟨b,a⟩
 ·rcases x.rdone with z | z
  ·rcases hmem z with rfl | z
   ·exact .inr hk
   ·exact .inl z
  ·exact .inr fun w hw'=>ok (z w hw')
 ·rcases y.st' q hq with z | z
  ·have z':q∈s.st:=by rw[hs];exact aP _ z
   rcases x.st q z' with e | e
   ·exact .inl e
   ·exact .inr (y.ow _ e)
  ·exact .inr z
theorem wE (hl:h[L]?=some (.list (as.map .ref)))(hi:aM h as is)(hR:h[RA]?=some (.idict (dk R)))(h0:0≤k)(h1:k<is.length)(hs:s.st=k::st)(ho:s.ow.length<10000)(hsh:s.sh.length<10000)(hst:s.st.length<10000):
 ∃z,bn (av aw N (n+1)) N u6 (iR L RA h.length (h.length+(J.length+2)) r y) (cq h s J)=some (.next,iR L RA h.length (h.length+(J.length+2)) r z,cq h ((ways (gi is k)).foldl (qD R r) ⟨s.ow,s.sh,st⟩) J):=by
 obtain⟨a,ha,hia⟩:=hi.gi h0 h1;have hwl:=nA (gi is k);have hlen:st.length<10000:=by rw[hs] at hst;simp at hst;lia
 obtain⟨z,hf⟩:=wF (N:=N) (n:=n+1) (L:=L) (r:=r) (J:=J) (chk:=dy (cq h ⟨s.ow,s.sh,st⟩ J) (.tup ((ways (gi is k)).map .int))) hR (fun x=>iI) (ways (gi is k)) ⟨s.ow,s.sh,st⟩ y (by simp;lia) (by simp;lia) (by simp;lia)
 refine⟨z,?_⟩;have le:=Ak (h:=h) (s:=⟨s.ow,s.sh,st⟩) (J:=J);have hs2:cP (cq h ⟨s.ow,s.sh,st⟩ J) (.ref L) (.int k)=some (.ref a):=rX (le _ _ hl) ha h0;have hc:=gu (N:=N) (n:=n) (le _ _ hia);have hg:=tj (h:=h) (s:=s) (J:=J);rw[hs] at hg;exact iq (fC (bL (ah (bE (ac rfl) (fp (ac rfl) hg wI) hs2) aN) hc) rfl (aj rfl) hf)
theorem yL {c:Nat}(hc:c=h.length+(J.length+2)):eT (av aw N n) (.var 5) (iR L RA h.length c r y) (cq h s J)=some (!s.st.isEmpty,cq h s J):=by
 subst hc;have e:(s.st.reverse.map V.int).isEmpty=s.st.isEmpty:=by simp only[List.isEmpty_map,List.isEmpty_reverse]
 exact e▸gM (ac rfl) (lT tj)
theorem wH {D:List Int}(hl:h[L]?=some (.list (as.map .ref)))(hi:aM h as is)(hR:h[RA]?=some (.idict (dk R)))(hs:is.length<100)
 (hRc:∀k,Rc k->0≤k/\k<is.length) (hW:∀k,Rc k\/k∈R->∀w∈ways (gi is k),Rc w) (hRr:∀k∈R,0≤k/\k<is.length) (hr:r∈R):
 ∀ (F:Nat) (s:SS) (y:Option V),SI is R D r Rc s->s.st.length+2*(is.length-s.ow.length)<F->s.st.length+2*(is.length-s.ow.length)<5000->
   dU (fun s' z=>SI is R D r Rc s') (fun s' z=>s'.st=[]) (fun s' z=>dB (eT (av aw N (n+1)) (.var 5)) (bn (av aw N (n+1)) N u6) F (iR L RA h.length (h.length+(J.length+2)) r y) (cq h s J)=some (.next,iR L RA h.length (h.length+(J.length+2)) r z,cq h s' J)):=by
 intro F
 induction F with
 | zero=>
   intro _ _ _ hF _;exact absurd hF (Nat.not_lt_zero _)
 | succ F ih=>
   intro s y x hF hB;rw[ef,yL rfl];cases hq:s.st with
   | nil=>exact⟨s,y,x,hq,by simp⟩
   | cons k st=>
     simp only[List.isEmpty_cons,Bool.not_false];rw[hq] at hF hB;simp only[List.length_cons] at hF hB
     have owl:∀ {s:SS},SI is R D r Rc s->s.ow.length≤is.length:=fun x=>by
      have:=bW x.ond (m:=is.length) fun q hq=>by rw[List.mem_map] at hq;obtain⟨q',hq',rfl⟩:=hq;exact hRc _ (x.orng q' hq').2.1
      simpa using this
     have hol:=owl x;have hshl:=bW x.snd (m:=is.length) fun q hq=>hRc _ (x.srng q hq).2
     have hkk:0≤k/\k<is.length/\(Rc k\/k∈R):=by
      rcases x.st k (by rw[hq];exact aK) with e | e
      ·rw[e];exact⟨(hRr r hr).1,(hRr r hr).2,.inr hr⟩
      ·have:=(x.orng _ e).2.1
       exact⟨(hRc _ this).1,(hRc _ this).2,.inl this⟩
     obtain⟨z,hb⟩:=wE (N:=N) (n:=n) (r:=r) (J:=J) (y:=y) hl hi hR hkk.1 hkk.2.1 hq (by omega) (by omega) (by rw[hq];simp;omega)
     have hw:=hW k hkk.2.2;have x':=x.step hq hw;obtain⟨j,m1,m2⟩:=(uh (R:=R) (r:=r) (ways (gi is k)) ⟨s.ow,s.sh,st⟩ x.ond x.snd hw).1.mu;have hol':=owl x';simp only at m1 m2;obtain⟨s',z',q1,q2,q3⟩:=ih _ z x' (Nat.lt_of_succ_lt_succ (EZ hF m1 m2 hol')) (Nat.lt_of_succ_lt (EZ hB m1 m2 hol'));exact⟨s',z',q1,q2,by rw[hb];exact q3⟩
structure uY (is:List I) (R:List Int) (Rc:Int->Prop) (ow:List (Int×Int)):Prop where
 nd:(ow.map (·.1)).Nodup
 own:∀q∈ow,q.1∉R/\Rc q.1/\q.2∈R/\∀w∈ways (gi is q.1),w∈R\/(w,q.2)∈ow
 root:∀r∈R,∀w∈ways (gi is r),w∈R\/(w,r)∈ow
structure SD (is:List I) (R D:List Int) (Rc:Int->Prop) (ow:List (Int×Int)) (sh:List Int):Prop where
 ond:(ow.map (·.1)).Nodup
 orng:∀q∈ow,q.1∉R/\Rc q.1/\q.2∈D
 snd:sh.Nodup
 srng:∀w∈sh,w∉R/\Rc w
 ddone:∀q∈D,∀w∈ways (gi is q),w∈R\/w∈sh\/(w,q)∈ow
 odone:∀q∈ow,∀w∈ways (gi is q.1),w∈R\/w∈sh\/(w,q.2)∈ow
theorem SI.done {D:List Int}(x:SI is R D r Rc s)(hs:s.st=[]):SD is R (D++[r]) Rc s.ow s.sh where
 ond:=x.ond
 orng:=fun q hq=>⟨(x.orng q hq).1,(x.orng q hq).2.1,by
  rcases(x.orng q hq).2.2 with z | z
  ·exact List.mem_append_left _ z
  ·simp only[z];simp⟩
 snd:=x.snd
 srng:=x.srng
 ddone:=fun q hq w hw=>by
  rcases ba hq with z | z
  ·exact x.ddone q z w hw
  ·rw[aB z] at hw⊢
   rcases x.rdone with e | e
   ·rw[hs] at e;simp at e
   ·exact e w hw
 odone:=fun q hq w hw=>by
  rcases x.odone q hq with⟨e,_⟩ | e
  ·rw[hs] at e;simp at e
  ·exact e w hw
theorem SD.next {D:List Int}{ow:List (Int×Int)}{sh:List Int}(x:SD is R D Rc ow sh):SI is R D r Rc ⟨ow,sh,[r]⟩ where
 ond:=x.ond
 orng:=fun q hq=>⟨(x.orng q hq).1,(x.orng q hq).2.1,.inl (x.orng q hq).2.2⟩
 snd:=x.snd
 srng:=x.srng
 ddone:=x.ddone
 odone:=fun q hq=>.inr (x.odone q hq)
 rdone:=.inl aK
 st:=fun k hk=>.inl (aB hk)
noncomputable def qC (h:H) (ow:List (Int×Int)) (sh:List Int) (J:H):H:=h++.idict (kj ow)::.idict (dk sh)::J
theorem A1 {chk:H->Bool}(hl:h[L]?=some (.list (as.map .ref)))(hi:aM h as is)(hR:h[RA]?=some (.idict (dk R)))(hs:is.length<100)(hN:900000≤N)
 (hRc:∀k,Rc k->0≤k/\k<is.length) (hW:∀k,Rc k\/k∈R->∀w∈ways (gi is k),Rc w) (hRr:∀k∈R,0≤k/\k<is.length) (hchk:∀Y,chk (h++Y)=true):
 ∀ (rest D:List Int) (ow:List (Int×Int)) (sh:List Int) (J:H) (x4 x5 x6:Option V),(∀r∈rest,r∈R)->SD is R D Rc ow sh->
   AH (fun ow' sh' J' z4 z5 z6=>SD is R (D++rest) Rc ow' sh') (fun ow' sh' J' z4 z5 z6=>dR 4 (bn (av aw N (n+1)) N Ag) chk (rest.map .int) [some (.ref L),some (.ref RA),some (.ref h.length),some (.ref (h.length+1)),x4,x5,x6] (qC h ow sh J)=
    some (.next,[some (.ref L),some (.ref RA),some (.ref h.length),some (.ref (h.length+1)),z4,z5,z6],qC h ow' sh' J')):=by
 intro rest
 induction rest with
 | nil=>
   intro D ow sh J x4 x5 x6 _ x;exact⟨ow,sh,J,x4,x5,x6,by simpa using x,by simp[eC,bK,qC,hchk]⟩
 | cons r rest ih=>
   intro D ow sh J x4 x5 x6 hr x;have hrr:=hr r aK
   have t0:exec (av aw N (n+1)) N (Ag.nth 0) [some (.ref L),some (.ref RA),some (.ref h.length),some (.ref (h.length+1)),some (.int r),x5,x6] (qC h ow sh J)=some (.next,iR L RA h.length (h.length+(J.length+2)) r x6,cq h ⟨ow,sh,[r]⟩ J):=by exact bf (bA (ah (ac rfl) aN) (aj rfl) Cv) (bk (aj rfl))
   obtain⟨s',z,y1,y2,y3⟩:=wH (N:=N) (n:=n) (J:=J) hl hi hR hs hRc hW hRr hrr N ⟨ow,sh,[r]⟩ x6 x.next (by simp;omega) (by simp;omega)
   have t1:=(jv (av aw N (n+1)) N (.var 5) u6 (iR L RA h.length (h.length+(J.length+2)) r x6) (cq h ⟨ow,sh,[r]⟩ J)).trans y3;have hH:cq h s' J=qC h s'.ow s'.sh (J++[.list []]):=by unfold cq qC;rw[y2];rfl
   rw[hH] at t1;obtain⟨ow',sh',J',z4,z5,z6,w1,w2⟩:=ih (D++[r]) s'.ow s'.sh (J++[.list []]) (some (.int r)) (some (.ref (h.length+(J.length+2)))) z (fun q hq=>hr q (aP _ hq)) (y1.done y2);refine⟨ow',sh',J',z4,z5,z6,by simpa using w1,?_⟩
   rw[List.map_cons,bK,ap (by unfold qC;exact hchk _)]
   have hb:bn (av aw N (n+1)) N Ag ([some (.ref L),some (.ref RA),some (.ref h.length),some (.ref (h.length+1)),x4,x5,x6].set 4 (some (.int r))) (qC h ow sh J)=some (.next,iR L RA h.length (h.length+(J.length+2)) r z,qC h s'.ow s'.sh (J++[.list []])):=
    (aC t0).trans ((aC t1).trans execs_nil)
   rw[hb];exact w2
theorem kq (hl:h[L]?=some (.list (as.map .ref)))(hi:aM h as is)(hR:h[RA]?=some (.idict (dk R)))(hs:is.length<100)(hN:900000≤N)
 (hRc:∀k,Rc k->0≤k/\k<is.length) (hW:∀k,Rc k\/k∈R->∀w∈ways (gi is k),Rc w) (hRr:∀k∈R,0≤k/\k<is.length):
 pz (fun sh q X=>av aw N (n+2) 12 [.ref L,.ref RA] h=some (.ref q,h++X)) (fun sh q X=>(h++X)[q]?=some (.list (sh.map .int))) (fun sh q X=>sh.Nodup) (fun sh q X=>(∀w∈sh,w∉R/\Rc w)) (fun sh q X=>(sh=[]->∃ow,uY is R Rc ow)):=by
 have hR':∀Y,(h++Y)[RA]?=_:=aY hR;obtain⟨ow',sh',J',z4,z5,z6,w1,w2⟩:=A1 (N:=N) (n:=n) (chk:=dy (h++[.idict [],.idict []]) (.ref RA)) hl hi hR hs hN hRc hW hRr (fun Y=>lI (hR' _) (hR' _) rfl) R [] [] [] [] none none none (fun y h=>h) ⟨by simp,by simp,by simp,by simp,by simp,by simp⟩
 have hshl:=bW w1.snd (m:=is.length) fun q hq=>hRc _ (w1.srng q hq).2
 have t0:exec (av aw N (n+1)) N (dN.nth 0) [some (.ref L),some (.ref RA),none,none,none,none,none] h=some (.next,[some (.ref L),some (.ref RA),some (.ref h.length),some (.ref (h.length+1)),none,none,none],qC h [] [] []):=by exact fh (bS (ah (em fJ) (ah (em lO) aN))) rfl (db (bk (aj rfl)) (db (bk (aj rfl)) j3))
 have t1:exec (av aw N (n+1)) N (dN.nth 1) [some (.ref L),some (.ref RA),some (.ref h.length),some (.ref (h.length+1)),none,none,none] (qC h [] [] [])=some (.next,[some (.ref L),some (.ref RA),some (.ref h.length),some (.ref (h.length+1)),z4,z5,z6],qC h ow' sh' J'):=by
  refine fc (x:=.ref RA) (vs:=R.map .int) (ak:=qC h [] [] []) ?_ ?_ ?_ ?_
  ·exact ac rfl
  ·rw[<-lw];exact tI (hR' _)
  ·exact aj rfl
  ·exact w2
 have t2:exec (av aw N (n+1)) N (dN.nth 2) [some (.ref L),some (.ref RA),some (.ref h.length),some (.ref (h.length+1)),z4,z5,z6] (qC h ow' sh' J')=some (.ret (.ref (qC h ow' sh' J').length),[some (.ref L),some (.ref RA),some (.ref h.length),some (.ref (h.length+1)),z4,z5,z6],qC h ow' sh' J'++[.list (sh'.map .int)]):=by rw[<-lw];exact bR (vj (ac rfl) (bH rfl) (by rw[uy];lia) fJ)
 refine⟨sh',(qC h ow' sh' J').length,.idict (kj ow')::.idict (dk sh')::(J'++[.list (sh'.map .int)]),?_,?_,w1.snd,w1.srng,fun e=>⟨ow',w1.ond,fun q hq=>⟨(w1.orng q hq).1,(w1.orng q hq).2.1,(w1.orng q hq).2.2,fun w hw=> ?_⟩,fun r hr w hw=> ?_⟩⟩
 ·exact cL rfl rfl (an t0 (an t1 (bb t2))) (ag (fun z=>some (V.ref (qC h ow' sh' J').length,z)) (aH h _ _))
 ·exact(ag (fun z:H=>z[(qC h ow' sh' J').length]?) (aH h (.idict (kj ow')::.idict (dk sh')::J') [.list (sh'.map .int)]))▸br
 ·rcases w1.odone q hq w hw with z | z | z
  ·exact .inl z
  ·rw[e] at z;simp at z
  ·exact .inr z
 ·rcases w1.ddone r (by simpa using hr) w hw with z | z | z
  ·exact .inl z
  ·rw[e] at z;simp at z
  ·exact .inr z
end
end
section
variable {R:List Int}{q:Nat}
section
variable {N n:Nat}{h:H}{p L Hd D RA:Nat}{as:List Nat}{is:List I}{d:PD}
set_option tactic.hygienic true in
theorem FI.reach {M:List Int}(x:FI d R M [])(w:ii d.insts)(rng:∀k,Reach d k->0≤k/\k<d.insts.length){k:Int}(hk:Reach d k):k∈M:=by
 induction hk with
 | start=>exact x.st.elim id fun z=>by simp at z
 | loose=>exact x.lo.elim id fun z=>by simp at z
 | out hk h1 h2 ih=>
   rename_i k;have wf:=w.at (rng k hk).1 (rng k hk).2;have o0:=wf.op0;have o6:=wf.op6
   by_cases o:(gi d.insts k).op=1\/(gi d.insts k).op=2\/(gi d.insts k).op=3
   ·exact(x.step k ih o).2.elim id fun z=>by simp at z
   ·have hw:(gi d.insts k).out∈ways (gi d.insts k):=by
     unfold ways
     by_cases h0:(gi d.insts k).op=0
     ·rw[ap h0];simp
     ·rw[au h0,ap (by lia)];simp
    exact(x.way k ih _ hw).elim id fun z=>by simp at z
 | arg hk h1 ih=>
   rename_i k;have hw:(gi d.insts k).arg∈ways (gi d.insts k):=by unfold ways;rw[ap h1];simp
   exact(x.way k ih _ hw).elim id fun z=>by simp at z
structure iQ (d:PD) (R:List Int) (ow:List (Int×Int)):Prop where
 nd:R.Nodup
 pre:fX d<+:R
 r:∀k∈R,k=0\/Reach d k
 step:∀k,Reach d k->(gi d.insts k).op=1\/(gi d.insts k).op=2\/(gi d.insts k).op=3->(gi d.insts k).out∈R
 own:uY d.insts R (Reach d) ow
noncomputable def yu:dz:=(jH.nth 2).body
noncomputable def AS:dz:=(yu.nth 0).body
theorem Ao {h Y:H}{kv:KV}{l:List V}(e:(h++.idict kv::Y)[q]?=some (.list l))(o:O):(h++o::Y)[q]?=some (.list l):=by
 by_cases hlt:q<h.length
 ·rw[List.getElem?_append_left hlt] at e⊢;exact e
 ·have hlt:=Nat.not_lt.mp hlt
  rw[List.getElem?_append_right hlt] at e⊢
  match q-h.length,e with
  | k+1,e=>exact e
  | 0,e=>cases e
theorem BS {chk:H->Bool}{J:H}(hchk:∀o,chk (h++o::J)=true):∀ (rest dn:List Int) (x3:Option V),(R++dn++rest).Nodup->(R++dn++rest).length<100000->
 ∃z3,dR 3 (bn (av aw N n) N AS) chk (rest.map .int) [some (.ref p),some (.ref h.length),some (.ref q),x3] (h++.idict (dk (R++dn))::J)=some (.next,[some (.ref p),some (.ref h.length),some (.ref q),z3],h++.idict (dk (R++dn++rest))::J):=by
 intro rest
 induction rest with
 | nil=>
   intro dn x3 _ _;exact⟨x3,by simp[eC,bK,hchk]⟩
 | cons w rest ih=>
   intro dn x3 nd hl
   have hw:w∉R++dn:=by rw[List.nodup_append] at nd;exact fun z=>nd.2.2 w z w aK rfl
   have e:kJ (R++dn) w=R++(dn++[w]):=(ly hw).trans (aH _ _ _);obtain⟨z3,hz⟩:=ih (dn++[w]) (some (.int w)) (by simpa using nd) (by simpa using hl)
   refine⟨z3,?_⟩;rw[List.map_cons,bK,ap (hchk _)]
   have hs:cW (h++.idict (dk (R++dn))::J) (.ref h.length) (.int w) (.bool true)=some (h++.idict (dk (R++(dn++[w])))::J):=by rw[<-e];exact(ix (l:=R++dn) br (by rw[bd] at hl;lia)).trans (ag some dE)
   have hb:bn (av aw N n) N AS ([some (.ref p),some (.ref h.length),some (.ref q),x3].set 3 (some (.int w))) (h++.idict (dk (R++dn))::J)=some (.next,[some (.ref p),some (.ref h.length),some (.ref q),some (.int w)],h++.idict (dk (R++(dn++[w])))::J):=by exact iq (bf ao (f0 (ac rfl) (ac rfl) hs))
   rw[hb];simp only;rw[hz];simp
theorem zZ (x:PA h p L Hd as d)(w:ii d.insts)(hs:d.insts.length<100)(rng:∀k,Reach d k->0≤k/\k<d.insts.length)(hN:900000≤N):
 ∀ (F:Nat) (R sh:List Int) (q:Nat) (J:H) (x3:Option V),R.Nodup->fX d<+:R->(∀k∈R,k=0\/Reach d k)->sh.Nodup->(∀w∈sh,w∉R/\Reach d w)->(sh=[]->∃ow,uY d.insts R (Reach d) ow)->
   (∀o,(h++o::J)[q]?=some (.list (sh.map .int)))->d.insts.length-R.length<F->
   AI (fun R' ow q' J' z3=>R'.Nodup) (fun R' ow q' J' z3=>R<+:R') (fun R' ow q' J' z3=>(∀k∈R',k=0\/Reach d k)) (fun R' ow q' J' z3=>uY d.insts R' (Reach d) ow) (fun R' ow q' J' z3=>dB (eT (av aw N (n+2)) (.var 2)) (bn (av aw N (n+2)) N yu) F [some (.ref p),some (.ref h.length),some (.ref q),x3] (h++.idict (dk R)::J)=some (.next,[some (.ref p),some (.ref h.length),some (.ref q'),z3],h++.idict (dk R')::J')):=by
 intro F
 induction F with
 | zero=>
   intro _ _ _ _ _ _ _ _ _ _ _ _ hF;exact absurd hF (Nat.not_lt_zero _)
 | succ F ih=>
   intro R sh q J x3 nd pre hr shn shr hown hq hF
   have hc:eT (av aw N (n+2)) (.var 2) [some (.ref p),some (.ref h.length),some (.ref q),x3] (h++.idict (dk R)::J)=some (!(sh.map V.int).isEmpty,h++.idict (dk R)::J):=by exact gM (ac rfl) (lT (hq _))
   rw[ef,hc];cases sh with
   | nil=>
     obtain⟨ow,ho⟩:=hown rfl;exact⟨R,ow,q,J,x3,nd,List.prefix_rfl,hr,ho,by simp⟩
   | cons a sh=>
     simp only[List.map_cons,List.isEmpty_cons,Bool.not_false]
     have rng':∀k,(k=0\/Reach d k)->0≤k/\k<d.insts.length:=fun k hk=>by
      rcases hk with rfl | hk
      ·exact⟨Int.le_refl _,by have:=w.pos;lia⟩
      ·exact rng k hk
     have nd':(R++(a::sh)).Nodup:=by rw[List.nodup_append];exact⟨nd,shn,fun y hy z hz e=>(shr z hz).1 (e▸hy)⟩
     have hr':∀k∈R++(a::sh),k=0\/Reach d k:=fun k hk=>by
      rcases ba hk with hk | hk
      ·exact hr k hk
      ·exact .inr (shr k hk).2
     have hlen:=bW nd' (m:=d.insts.length) fun k hk=>rng' k (hr' k hk);obtain⟨z3,hf⟩:=BS (N:=N) (n:=n+2) (p:=p) (R:=R) (q:=q) (J:=J) (chk:=dy (h++.idict (dk R)::J) (.ref q)) (fun o=>cB (hq _) (hq o)) (a::sh) [] x3 (by simpa using nd') (by simp at hlen⊢;lia)
     simp only[List.append_nil] at hf
     have t0:exec (av aw N (n+2)) N (yu.nth 0) [some (.ref p),some (.ref h.length),some (.ref q),x3] (h++.idict (dk R)::J)=some (.next,[some (.ref p),some (.ref h.length),some (.ref q),z3],h++.idict (dk (R++(a::sh)))::J):=by
      refine fc (x:=.ref q) (vs:=(a::sh).map .int) (ak:=h++.idict (dk R)::J) ?_ ?_ ?_ ?_
      ·exact ac rfl
      ·exact dG (hq _)
      ·exact aj rfl
      ·exact hf
     have le:Le h (h++.idict (dk (R++(a::sh)))::J):=Le.app _ _
     obtain⟨sh2,q2,X2,e1,e2,e3,e4,e5⟩:=kq (N:=N) (n:=n) (h:=h++.idict (dk (R++(a::sh)))::J) (L:=L) (RA:=h.length) (R:=R++(a::sh)) (Rc:=Reach d) (le _ _ x.list) (x.insts.mono le) (by simp) hs hN rng (fun k hk v hv=>by
      rcases hk with hk | hk
      ·exact hk.ways v hv
      ·rcases hr' k hk with rfl | hk
       ·rw[show ways (gi d.insts 0)=[] by unfold ways;rw[w.first];rfl] at hv;simp at hv
       ·exact hk.ways v hv) (fun k hk=>rng' k (hr' k hk))
     have hq2:∀o,(h++o::(J++X2))[q2]?=some (.list (sh2.map .int)):=Ao ((ag (fun z:H=>z[q2]?) (aH h _ _)).symm.trans e2);obtain⟨R',ow,q',J',y3,f1,f2,f3,f4,f5⟩:=ih (R++(a::sh)) sh2 q2 (J++X2) z3 nd' (pre.trans (List.prefix_append _ _)) hr' e3 e4 e5 hq2 (by simp at hlen⊢;lia)
     have hp:=le _ _ x.obj
     have t1:exec (av aw N (n+2)) N (yu.nth 1) [some (.ref p),some (.ref h.length),some (.ref q),z3] (h++.idict (dk (R++(a::sh)))::J)=some (.next,[some (.ref p),some (.ref h.length),some (.ref q2),z3],h++.idict (dk (R++(a::sh)))::(J++X2)):=by exact bf (bL (ah (am (ac rfl) hp rfl) (ah (ac rfl) aN)) (e1.trans (ag (fun z=>some (V.ref q2,z)) (aH h _ _)))) (bk (aj rfl))
     refine⟨R',ow,q',J',y3,f1,(List.prefix_append _ _).trans f2,f3,f4,?_⟩
     have hb:bn (av aw N (n+2)) N yu [some (.ref p),some (.ref h.length),some (.ref q),x3] (h++.idict (dk R)::J)=some (.next,[some (.ref p),some (.ref h.length),some (.ref q2),z3],h++.idict (dk (R++(a::sh)))::(J++X2)):=
      (aC t0).trans ((aC t1).trans execs_nil)
     rw[hb];exact f5
theorem sU (x:PA h p L Hd as d)(w:ii d.insts)(hs:d.insts.length<100)(s0:0≤d.start)(s1:d.start<d.insts.length)(l0:0≤d.loose)(l1:d.loose<d.insts.length)(hN:900000≤N):
 pA (fun R ow X=>iQ d R ow) (fun R ow X=>av aw N (n+3) 13 [.ref p] h=some (.ref h.length,h++.idict (dk R)::X)):=by
 have rng:∀k,Reach d k->0≤k/\k<d.insts.length:=fun k z=>z.range w s0 s1 l0 l1;have hp0:=x.obj;obtain⟨R,M,X,I,hc⟩:=pR (N:=N) (n:=n) x w hs s0 s1 l0 l1 hN;have le:Le h (h++.idict (dk R)::X):=Le.app _ _;have hp:=le _ _ x.obj;have zw:ways (gi d.insts 0)=[]:=by unfold ways;rw[w.first];rfl
 obtain⟨sh,q,X2,e1,e2,e3,e4,e5⟩:=kq (N:=N) (n:=n) (h:=h++.idict (dk R)::X) (L:=L) (RA:=h.length) (R:=R) (Rc:=Reach d) (le _ _ x.list) (x.insts.mono le) (by simp) hs hN rng (fun k hk v hv=>by
  rcases hk with hk | hk
  ·exact hk.ways v hv
  ·rcases I.r k hk with rfl | hk
   ·rw[zw] at hv;simp at hv
   ·exact hk.ways v hv) (fun k hk=>by
  rcases I.r k hk with rfl | hk
  ·exact⟨Int.le_refl _,by have:=w.pos;lia⟩
  ·exact rng k hk)
 have hq2:∀o,(h++o::(X++X2))[q]?=some (.list (sh.map .int)):=Ao ((ag (fun z:H=>z[q]?) (aH h _ _)).symm.trans e2);obtain⟨R',ow,q',J',z3,f1,f2,f3,f4,f5⟩:=zZ (N:=N) (n:=n) x w hs rng hN N R sh q (X++X2) none I.rnd I.pre I.r e3 e4 e5 hq2 (by lia)
 refine⟨R',ow,J',⟨f1,I.pre.trans f2,f3,fun k hk o=>f2.subset (I.step k (I.reach w rng hk) o).1,f4⟩,?_⟩;exact cL (e:=[some (.ref p),none,none,none]) rfl rfl (an (bf (bL (ah (ac rfl) aN) hc) (bk (aj rfl))) (an (bf (bL (ah (am (ac rfl) hp rfl) (ah (ac rfl) aN)) (e1.trans (ag (fun z=>some (V.ref q,z)) (aH h _ _)))) (bk (aj rfl))) (an (AT f5) (bb (bR (ac rfl)))))) rfl
end
end
section
variable {r k:Int}{fa:List Nat}{G:List (Int×I)}{M S R:List Int}{x7 x8 x9 x10:Option V}{i:I}{J:H}{y:List (Option V)}{c:bV}
section
variable {N n:Nat}{h:H}{p L Hd D RA:Nat}{as:List Nat}{is:List I}{d:PD}
noncomputable def de (i:I):List Int:=[i.op,i.out,i.arg,i.low,i.high,if i.fold then 1 else 0]
theorem k_ (i:I):V.nums (f8 i)=some (de i):=by simp[n9,lk,n7,lc,f8,de]
noncomputable def hZ (G:List I):O:=if G=[] then .idict [] else .tdict (G.map fun i=>(de i,.bool true))
theorem sx {G:List I}{k:List Int}:(G.map fun i=>(de i,V.bool true)).any (fun p=>decide (p.1=k))=decide (k∈G.map de):=by rw[Bool.eq_iff_iff];simp
theorem zq {h:H}{r:Nat}{G:List I}(e:h[r]?=some (hZ G)):jm h (.tup (f8 i)) (.ref r)=some (decide (de i∈G.map de)):=by
 rw[mc,e];unfold hZ
 by_cases h1:G=[]
 ·subst h1;simp[k_]
 ·rw[au h1]
  simp only[k_,sx]
theorem wN {h:H}{r:Nat}{G:List I}(e:h[r]?=some (hZ G))(hm:de i∉G.map de)(hl:G.length<1000000):cW h (.ref r) (.tup (f8 i)) (.bool true)=some (h.set r (hZ (G++[i]))):=by
 rw[tq,e];unfold hZ
 by_cases h1:G=[]
 ·subst h1;simp[k_]
 ·rw[au h1]
  have hk:=sx (G:=G) (k:=de i);rw[aJ hm] at hk;have l:(G.map fun i=>(de i,V.bool true)).length<1000000:=by simpa using hl
  simp only[k_,ap l,put,hk];simp[h1]
noncomputable def l6 (k:Int):I:=⟨5,k,0,0,0,false,false⟩
noncomputable def fj (i:I):I:=⟨i.op,if i.op=4 then 0 else i.out,i.arg,i.low,i.high,i.fold,false⟩
noncomputable def mK:I:=⟨6,0,0,0,0,false,false⟩
noncomputable def iO (G:List (Int×I)) (k:Int) (i:I):List (Int×I):=if de i∈G.map (fun q=>de q.2) then G else G++[(k,i)]
inductive ee (is:List I) (R:List Int) (r:Int):List Int->List Int->List (Int×I)->List Int->List (Int×I)->Prop
 | nil (M:List Int) (G:List (Int×I)):ee is R r [] M G M G
 | skip {k:Int} {S M M':List Int} {G G':List (Int×I)}:k∈M\/(gi is k).op=6->ee is R r S M G M' G'->ee is R r (k::S) M G M' G'
 | root {k:Int} {S M M':List Int} {G G':List (Int×I)}:k∉M->(gi is k).op≠6->k≠r->k∈R->ee is R r S (M++[k]) (iO G k (l6 k)) M' G'->ee is R r (k::S) M G M' G'
 | alt {k:Int} {S M M':List Int} {G G':List (Int×I)}:k∉M->(gi is k).op≠6->k=r\/k∉R->(gi is k).op=0\/(gi is k).op=5->ee is R r (ways (gi is k)++S) (M++[k]) G M' G'->ee is R r (k::S) M G M' G'
 | leaf {k:Int} {S M M':List Int} {G G':List (Int×I)}:k∉M->(gi is k).op≠6->k=r\/k∉R->(gi is k).op≠0->(gi is k).op≠5->ee is R r S (M++[k]) (iO G k (fj (gi is k))) M' G'->ee is R r (k::S) M G M' G'
noncomputable def lQ:dz:=(c8.nth 1).body
noncomputable def du (L RA b:Nat) (r:Int) (y:List (Option V)):En:=[some (.ref L),some (.ref RA),some (.int r),some (.ref b),some (.ref (b+1)),some (.ref (b+2)),some (.ref (b+3))]++y
noncomputable def bJ (h:H) (fa:List Nat) (G:List (Int×I)) (M S:List Int) (J:H):H:=h++.list (fa.map .ref)::hZ (G.map (·.2))::.idict (dk M)::.list (S.reverse.map .int)::J
theorem uI:eT (av aw N n) (.var 6) (du L RA h.length r y) (bJ h fa G M S J)=some (!S.isEmpty,bJ h fa G M S J):=by
 have e:(S.reverse.map V.int).isEmpty=S.isEmpty:=by rw[List.isEmpty_map,List.isEmpty_reverse]
 exact e▸gM (ac rfl) (lT (bH rfl))
structure pw (h:H) (L RA:Nat) (as:List Nat) (is:List I) (R:List Int):Prop where
 l:∀y,(h++y)[L]?=some (.list (as.map .ref))
 i:aM h as is
 ra:∀y,(h++y)[RA]?=some (.idict (dk R))
theorem rh (P:pw h L RA as is R)(h0:0≤k)(h1:k<is.length):bp (fun a=>(∀y,cP (h++y) (.ref L) (.int k)=some (.ref a))) (fun a=>∀y,(h++y)[a]?=some (.inst 0 (gi is k).fs)):=by obtain⟨a,ha,hi⟩:=P.i.gi h0 h1;exact⟨a,fun y=>rX (P.l y) ha h0,aY hi⟩
theorem zE (P:pw h L RA as is R)(h0:0≤k)(h1:k<is.length)(hk:k∈M\/(gi is k).op=6):
 ∃z8,bn (av aw N n) N lQ (du L RA h.length r [x7,x8,x9,x10]) (bJ h fa G M (k::S) J)=some (.cont,du L RA h.length r [some (.int k),z8,x9,x10],bJ h fa G M S J):=by
 obtain⟨a,hs,hi⟩:=rh P h0 h1;refine⟨some (.ref a),?_⟩
 by_cases hm:k∈M
 ·have hin:=eB (k:=k) (H:=bJ h fa G M S J) (D:=h.length+2) (bH rfl) (aW hm)
  exact(an (bf (fp (ac rfl) (bH rfl) A9) (bk (aj rfl))) (an (bf (bE (ac rfl) (ac rfl) (hs _)) (bk (aj rfl))) (cT (bX (dP (sk (az (ac rfl) (ac rfl) hin) rfl)) rfl (cT iu)))))
 ·have hin:=eB (k:=k) (H:=bJ h fa G M S J) (D:=h.length+2) (bH rfl) (aJ hm)
  have h6:=hk.resolve_left hm;exact(an (bf (fp (ac rfl) (bH rfl) A9) (bk (aj rfl))) (an (bf (bE (ac rfl) (ac rfl) (hs _)) (bk (aj rfl))) (cT (bX (dP (cS (az (ac rfl) (ac rfl) hin) rfl (cV (az (am (ac rfl) (hi _) rfl) ao (ag some (beq_of_eq h6)))))) rfl (cT iu)))))
theorem tM {a:Nat}{o:mx}(hs:∀y,cP (h++y) (.ref L) (.int k)=some (.ref a))(hi:∀y,(h++y)[a]?=some (.inst 0 (gi is k).fs))(hk:k∉M)(h6:(gi is k).op≠6)(hM:M.length<1000)
 (q:execs c N (.cons (lQ.nth 4) (.cons (lQ.nth 5) .nil)) (du L RA h.length r [some (.int k),some (.ref a),x9,x10]) (bJ h fa G (M++[k]) S J)=o):
 bn c N lQ (du L RA h.length r [x7,x8,x9,x10]) (bJ h fa G M (k::S) J)=o:=by
 have hin:=eB (k:=k) (H:=bJ h fa G M S J) (D:=h.length+2) (bH rfl) (aJ hk)
 have hm:cW (bJ h fa G M S J) (.ref (h.length+2)) (.int k) (.bool true)=some (bJ h fa G (M++[k]) S J):=by rw[<-ly hk];exact(ix (l:=M) (bH rfl) (by lia)).trans (ag some A_)
 have s0:exec c N (lQ.nth 0) (du L RA h.length r [x7,x8,x9,x10]) (bJ h fa G M (k::S) J)=some (.next,du L RA h.length r [some (.int k),x8,x9,x10],bJ h fa G M S J):=by exact(bf (fp (ac rfl) (bH rfl) A9) (bk (aj rfl)))
 have s2:exec c N (lQ.nth 2) (du L RA h.length r [some (.int k),some (.ref a),x9,x10]) (bJ h fa G M S J)=some (.next,du L RA h.length r [some (.int k),some (.ref a),x9,x10],bJ h fa G M S J):=by exact(aS (dP (cS (az (ac rfl) (ac rfl) hin) rfl (cV (az (am (ac rfl) (hi _) rfl) ao (ag some (aJ h6)))))) rfl aF)
 exact an s0 (an (bf (bE (ac rfl) (ac rfl) (hs _)) (bk (aj rfl))) (an s2 (an (bf ao (f0 (ac rfl) (ac rfl) hm)) q)))
theorem qi {X:H}{b0:Nat}(hra:X[RA]?=some (.idict (dk R)))(hr:k=r\/k∉R):
 bp (fun t=>ax c (.and (.cons (.cmp (.var 7) (.one .ne (.var 2))) (.cons (.cmp (.var 7) (.one .isIn (.var 1))) (.nil)))) (du L RA b0 r (some (.int k)::y)) X=some (.bool t,X)) (fun t=>t=false):=by
 by_cases z:k=r
 ·have b:(!(k==r))=false:=by rw[beq_of_eq z];rfl
  refine⟨_,?_,b⟩;exact(bD (cr (az (ac rfl) (ac rfl) rfl) (ag some b)))
 ·have b:(!(k==r))=true:=by rw[aU z];rfl
  have hin:=eB hra (aJ (hr.resolve_left z));refine⟨_,?_,rfl⟩;exact(bD (cg (az (ac rfl) (ac rfl) (ag some b)) rfl (ch (az (ac rfl) (ac rfl) hin))))
theorem BB (P:pw h L RA as is R)(h0:0≤k)(h1:k<is.length)(hk:k∉M)(hr:k=r\/k∉R)(ho:(gi is k).op=0\/(gi is k).op=5)(hM:M.length<1000)(hS:S.length<900000):
 ∃z8,bn (av aw N (n+1)) N lQ (du L RA h.length r [x7,x8,x9,x10]) (bJ h fa G M (k::S) J)=some (.cont,du L RA h.length r [some (.int k),z8,x9,x10],bJ h fa G (M++[k]) (ways (gi is k)++S) J):=by
 obtain⟨a,hs,hi⟩:=rh P h0 h1;refine⟨some (.ref a),tM hs hi hk (by lia) hM ?_⟩
 have hwl:=nA (gi is k);have l3:S.length+(ways (gi is k)).length≤1000000:=by lia
 have hw:∀y,av aw N (n+1) 10 [.ref a] (h++y)=some (.tup ((ways (gi is k)).map .int),h++y):=fun y=>gu (hi y);obtain⟨t,ht,e⟩:=qi (X:=bJ h fa G (M++[k]) S J) (L:=L) (b0:=h.length) (P.ra _) (r:=r) (y:=[some (.ref a),x9,x10]) (c:=av aw N (n+1)) hr;subst e;rcases ho with ho | ho
 ·exact(cT (aS ht rfl (cT (bX (dP (sk (az (am (ac rfl) (hi _) rfl) ao (ag some (beq_of_eq ho))) rfl)) rfl (an (ng (ac rfl) (bH rfl) (bL (ah (ac rfl) aN) (hw _)) (bH rfl) l3 A9) (cT iu))))))
 ·have b0:(gi is k).op≠0:=by lia
  exact(cT (aS ht rfl (cT (bX (dP (cS (az (am (ac rfl) (hi _) rfl) ao (ag some (aJ b0))) rfl (cV (az (am (ac rfl) (hi _) rfl) ao (ag some (beq_of_eq ho)))))) rfl (an (ng (ac rfl) (bH rfl) (bL (ah (ac rfl) aN) (hw _)) (bH rfl) l3 A9) (cT iu))))))
end
end
section
variable {fa:List Nat}{G:List (Int×I)}{M S R:List Int}{J:H}{r k:Int}{x7 x8 x10 x9:Option V}
section
variable {N n:Nat}{h:H}{p L Hd D RA:Nat}{as:List Nat}{is:List I}{d:PD}
theorem zF (P:pw h L RA as is R)(h0:0≤k)(h1:k<is.length)(hk:k∉M)(h6:(gi is k).op≠6)(hr:k≠r)(hR:k∈R)(hM:M.length<1000):
 ∃z8,∀ {o:mx},execs (av aw N (n+1)) N (.cons (lQ.nth 5) .nil) (du L RA h.length r [some (.int k),z8,some (.ref (h.length+(J.length+4))),x10]) (bJ h fa G (M++[k]) S (J++[.inst 0 (l6 k).fs]))=o->bn (av aw N (n+1)) N lQ (du L RA h.length r [x7,x8,x9,x10]) (bJ h fa G M (k::S) J)=o:=by
 obtain⟨a,hs,hi⟩:=rh P h0 h1;refine⟨some (.ref a),fun q=>tM hs hi hk h6 hM (an ?_ q)⟩;have b:(!(k==r))=true:=by rw[aU hr];rfl
 have hin:=eB (k:=k) (P.ra (.list (fa.map .ref)::hZ (G.map (·.2))::.idict (dk (M++[k]))::.list (S.reverse.map .int)::J)) (aW hR);exact(bX (bD (cg (az (ac rfl) (ac rfl) (ag some b)) rfl (ch (az (ac rfl) (ac rfl) hin)))) rfl (an (bf (gC (ah ao (ah (ac rfl) aN)) rfl Cv) (bk (aj rfl))) aF))
theorem zH (P:pw h L RA as is R)(h0:0≤k)(h1:k<is.length)(hk:k∉M)(h6:(gi is k).op≠6)(hr:k=r\/k∉R)(ha:(gi is k).op≠0)(h5:(gi is k).op≠5)(hM:M.length<1000):
 mS (fun z8 z10=>∀ {o:mx},execs (av aw N (n+1)) N (.cons (lQ.nth 5) .nil) (du L RA h.length r [some (.int k),z8,some (.ref (h.length+(J.length+4))),z10]) (bJ h fa G (M++[k]) S (J++[.inst 0 (fj (gi is k)).fs]))=o->bn (av aw N (n+1)) N lQ (du L RA h.length r [x7,x8,x9,x10]) (bJ h fa G M (k::S) J)=o):=by
 obtain⟨a,hs,hi⟩:=rh P h0 h1;refine⟨some (.ref a),some (.int (fj (gi is k)).out),fun q=>tM hs hi hk h6 hM (an ?_ q)⟩;obtain⟨t,ht,e⟩:=qi (X:=bJ h fa G (M++[k]) S J) (L:=L) (b0:=h.length) (P.ra _) (r:=r) (y:=[some (.ref a),x9,x10]) (c:=av aw N (n+1)) hr;subst e
 by_cases h4:(gi is k).op=4
 ·rw[fj,ap h4]
  exact(aS ht rfl (an (aS (dP (cS (az (am (ac rfl) (hi _) rfl) ao (ag some (aJ ha))) rfl (cV (az (am (ac rfl) (hi _) rfl) ao (ag some (aJ h5)))))) rfl (an (bf (qM (az (am (ac rfl) (hi _) rfl) ao (ag some (beq_of_eq h4))) rfl ao) (bk (aj rfl))) (an (bf (gC (ah (am (ac rfl) (hi _) rfl) (ah (ac rfl) (ah (am (ac rfl) (hi _) rfl) (ah (am (ac rfl) (hi _) rfl) (ah (am (ac rfl) (hi _) rfl) (ah (am (ac rfl) (hi _) rfl) aN)))))) rfl Cv) (bk (aj rfl))) aF))) aF))
 ·rw[fj,au h4]
  exact(aS ht rfl (an (aS (dP (cS (az (am (ac rfl) (hi _) rfl) ao (ag some (aJ ha))) rfl (cV (az (am (ac rfl) (hi _) rfl) ao (ag some (aJ h5)))))) rfl (an (bf (kC (az (am (ac rfl) (hi _) rfl) ao (ag some (aJ h4))) rfl (am (ac rfl) (hi _) rfl)) (bk (aj rfl))) (an (bf (gC (ah (am (ac rfl) (hi _) rfl) (ah (ac rfl) (ah (am (ac rfl) (hi _) rfl) (ah (am (ac rfl) (hi _) rfl) (ah (am (ac rfl) (hi _) rfl) (ah (am (ac rfl) (hi _) rfl) aN)))))) rfl Cv) (bk (aj rfl))) aF))) aF))
noncomputable def ye (fa:List Nat) (G:List (Int×I)) (A:Nat) (i:I):List Nat:=if de i∈G.map (fun q=>de q.2) then fa else fa++[A]
theorem xS {A:Nat}{i:I}(hA:∀fa G M S,(bJ h fa G M S J)[A]?=some (.inst 0 i.fs))(hG:G.length<900000)(hf:fa.length<900000):
 execs (av aw N (n+1)) N (.cons (lQ.nth 5) .nil) (du L RA h.length r [x7,x8,some (.ref A),x10]) (bJ h fa G M S J)=some (.next,du L RA h.length r [x7,x8,some (.ref A),x10],bJ h (ye fa G A i) (iO G k i) M S J):=by
 have g1:(bJ h fa G M S J)[h.length+1]?=some (hZ (G.map (·.2))):=bH rfl;have i1:=zq (i:=i) g1;rw[List.map_map] at i1;have i1':jm (bJ h fa G M S J) (.tup (f8 i)) (.ref (h.length+1))=some (decide (de i∈G.map fun q=>de q.2)):=i1;have hc:=BP (N:=N) (n:=n) (hA fa G M S)
 by_cases hm:de i∈G.map (fun q=>de q.2)
 ·rw[aW hm] at i1'
  rw[ye,iO,ap hm,ap hm];exact(an (aS (az (bL (ah (ac rfl) aN) hc) (ac rfl) (gO i1')) rfl aF) aF)
 ·rw[aJ hm] at i1'
  rw[ye,iO,au hm,au hm]
  have s1:cW (bJ h fa G M S J) (.ref (h.length+1)) (.tup (f8 i)) (.bool true)=some (bJ h fa (G++[(k,i)]) M S J):=by
   have e:bJ h fa (G++[(k,i)]) M S J=(bJ h fa G M S J).set (h.length+1) (hZ (G.map (·.2)++[i])):=by rw[bJ,List.map_append];exact vh.symm
   rw[e];exact wN g1 (by rw[List.map_map];exact hm) (by rw[aD];lia)
  have e0:(bJ h fa (G++[(k,i)]) M S J).set h.length (.list (fa.map .ref++[.ref A]))=bJ h (fa++[A]) (G++[(k,i)]) M S J:=by rw[bJ,bJ,List.map_append (l₁:=fa)];exact dE
  have lf:(fa.map V.ref).length<1000000:=by rw[aD];lia
  exact(an (bX (az (bL (ah (ac rfl) aN) hc) (ac rfl) (gO i1')) rfl (an (bf ao (f0 (ac rfl) (bL (ah (ac rfl) aN) hc) s1)) (an (gg (ac rfl) br (ac rfl) br lf e0) aF))) aF)
end
end
section
variable {i:I}{k:Int}
section
variable {N n:Nat}{h:H}{p L Hd D RA:Nat}{as:List Nat}{is:List I}{d:PD}
theorem ii.ways (w:ii is)(h0:0≤k)(h1:k<is.length):∀v∈ways (gi is k),0≤v/\v<is.length:=fun v hv=>by
 have wf:=w.at h0 h1;unfold Mine.ways at hv
 split at hv
 ·rename_i q0
  rcases a_ hv with rfl | hv
  ·exact wf.out (by lia) (by lia)
  ·rw[aB hv];exact wf.alt q0
 ·split at hv
  ·rw[aB hv];exact wf.out (by lia) (by lia)
  ·simp at hv
structure Dr (h:H) (is:List I) (fa:List Nat) (G:List (Int×I)) (M S:List Int) (J:H):Prop where
 mnd:M.Nodup
 m:∀k∈M,0≤k/\k<is.length
 s:∀k∈S,0≤k/\k<is.length
 gl:G.length≤M.length
 nd:fa.Nodup
 rng:∀a∈fa,h.length+4≤a/\a<h.length+4+J.length
 at_:∀x y z w,aM (h++x::y::z::w::J) fa (G.map (·.2))
theorem Dr.app {fa:List Nat}{G:List (Int×I)}{M S M' S':List Int}{J:H}(x:Dr h is fa G M S J)(mnd:M'.Nodup)(m:∀k∈M',0≤k/\k<is.length)(s:∀k∈S',0≤k/\k<is.length)(ml:M'.length=M.length+1):
 Dr h is (ye fa G (h.length+(J.length+4)) i) (iO G k i) M' S' (J++[.inst 0 i.fs]):=by
 have e:∀x y z w:O,h++x::y::z::w::(J++[O.inst 0 i.fs])=(h++x::y::z::w::J)++[O.inst 0 i.fs]:=fun v v v v=>by simp
 have gl:=x.gl;unfold ye iO
 split
 ·refine⟨mnd,m,s,by lia,x.nd,fun a ha=>⟨(x.rng a ha).1,by have:=(x.rng a ha).2;simp;lia⟩,fun a b c w=> ?_⟩
  rw[e];exact(x.at_ a b c w).mono (Le.app _ _)
 ·refine⟨mnd,m,s,by simp;lia,cw x.nd fun z=> ?_,fun a ha=> ?_,fun a b c w=> ?_⟩
  ·have:=(x.rng _ z).2;lia
  ·rcases ba ha with ha | ha
   ·exact⟨(x.rng a ha).1,by have:=(x.rng a ha).2;simp;lia⟩
   ·rw[aB ha];simp;lia
  ·rw[e,List.map_append]
   refine aM.app ((x.at_ a b c w).mono (Le.app _ _)) ⟨?_,trivial⟩;rw[<-e];exact(bz h _ (J.length+4)).trans (bC J _ [])
theorem zG {R:List Int}{r:Int}(P:pw h L RA as is R)(w:ii is)(hs:is.length<100):
 ∀ (F:Nat) (fa:List Nat) (G:List (Int×I)) (M S:List Int) (J:H) (x7 x8 x9 x10:Option V),Dr h is fa G M S J->S.length+4*(is.length-M.length)<F->S.length+4*(is.length-M.length)<5000->
   yl (fun fa' G' M' J' z7 z8 z9 z10=>Dr h is fa' G' M' [] J') (fun fa' G' M' J' z7 z8 z9 z10=>ee is R r S M G M' G') (fun fa' G' M' J' z7 z8 z9 z10=>dB (eT (av aw N (n+1)) (.var 6)) (bn (av aw N (n+1)) N lQ) F (du L RA h.length r [x7,x8,x9,x10]) (bJ h fa G M S J)=
    some (.next,du L RA h.length r [z7,z8,z9,z10],bJ h fa' G' M' [] J')):=by
 intro F
 induction F with
 | zero=>
   intro _ _ _ _ _ _ _ _ _ _ hF _;exact absurd hF (Nat.not_lt_zero _)
 | succ F ih=>
   intro fa G M v9;cases v9 with
   | nil=>
     intro J x7 x8 x9 x10 x hF hB;exact⟨fa,G,M,J,x7,x8,x9,x10,x,.nil M G,by rw[ef,uI];simp⟩
   | cons k S=>
     intro J x7 x8 x9 x10 x hF hB;rw[ef,uI];simp only[List.isEmpty_cons,Bool.not_false];simp only[List.length_cons] at hF hB;obtain⟨k0,k1⟩:=x.s k aK;have hs':∀q∈S,0≤q/\q<is.length:=fun q hq=>x.s q (aP _ hq);have hMl:=bW x.mnd x.m;have hGl:=x.gl;have hfl:fa.length=G.length:=by have:=(x.at_ (.list []) (.list []) (.list []) (.list [])).len;simpa using this
     by_cases hskip:k∈M\/(gi is k).op=6
     ·obtain⟨z8,hb⟩:=zE (N:=N) (n:=n+1) (r:=r) (fa:=fa) (G:=G) (S:=S) (J:=J) (x7:=x7) (x8:=x8) (x9:=x9) (x10:=x10) P k0 k1 hskip
      obtain⟨fa',G',M',J',y7,y8,y9,y10,i1,i2,i3⟩:=ih fa G M S J (some (.int k)) z8 x9 x10 ⟨x.mnd,x.m,hs',x.gl,x.nd,x.rng,x.at_⟩ (by lia) (by lia)
      exact⟨fa',G',M',J',y7,y8,y9,y10,i1,.skip hskip i2,by rw[hb];exact i3⟩
     rw[not_or] at hskip;obtain⟨hin,h6⟩:=hskip;have nd':=cw x.mnd hin
     have hm':∀q∈M++[k],0≤q/\q<is.length:=fun q hq=>by
      rcases ba hq with hq | hq
      ·exact x.m q hq
      ·rw[aB hq];exact⟨k0,k1⟩
     have hMl':=bW nd' hm';simp at hMl'
     have hA:∀ (i:I) fa G M S,(bJ h fa G M S (J++[.inst 0 i.fs]))[h.length+(J.length+4)]?=some (.inst 0 i.fs):=fun i fa G M S=>by exact(bz h _ (J.length+4)).trans (bC J _ [])
     by_cases hroot:k≠r/\k∈R
     ·obtain⟨z8,hb⟩:=zF (N:=N) (n:=n) (fa:=fa) (G:=G) (S:=S) (J:=J) (x7:=x7) (x8:=x8) (x9:=x9) (x10:=x10) P k0 k1 hin h6 hroot.1 hroot.2 (by lia)
      have ha:=xS (N:=N) (n:=n) (L:=L) (RA:=RA) (fa:=fa) (G:=G) (M:=M++[k]) (S:=S) (r:=r) (k:=k) (x7:=some (.int k)) (x8:=z8) (x10:=x10) (hA (l6 k)) (by lia) (by lia)
      obtain⟨fa',G',M',J',y7,y8,y9,y10,i1,i2,i3⟩:=ih _ _ _ S _ (some (.int k)) z8 (some (.ref (h.length+(J.length+4)))) x10 (x.app (k:=k) (i:=l6 k) nd' hm' hs' (by simp)) (by simp;exact Nat.lt_of_succ_lt_succ (Ct (by assumption) (by assumption))) (by simp;exact Nat.lt_of_succ_lt (Ct (by assumption) (by assumption)))
      exact⟨fa',G',M',J',y7,y8,y9,y10,i1,.root hin h6 hroot.1 hroot.2 i2,by rw[hb ha];exact i3⟩
     ·have hr:k=r\/k∉R:=by
       by_cases z:k=r
       ·exact .inl z
       ·exact .inr fun q=>hroot ⟨z,q⟩
      by_cases ho:(gi is k).op=0\/(gi is k).op=5
      ·obtain⟨z8,hb⟩:=BB (N:=N) (n:=n) (r:=r) (fa:=fa) (G:=G) (S:=S) (J:=J) (x7:=x7) (x8:=x8) (x9:=x9) (x10:=x10) P k0 k1 hin hr ho (by lia) (by lia)
       have hwl:=nA (gi is k)
       obtain⟨fa',G',M',J',y7,y8,y9,y10,i1,i2,i3⟩:=ih fa G (M++[k]) (ways (gi is k)++S) J (some (.int k)) z8 x9 x10 ⟨nd',hm',fun q hq=>by
        rcases ba hq with hq | hq
        ·exact w.ways k0 k1 q hq
        ·exact hs' q hq,by simp;lia,x.nd,x.rng,x.at_⟩ (by simp;lia) (by simp;lia)
       exact⟨fa',G',M',J',y7,y8,y9,y10,i1,.alt hin h6 hr ho i2,by rw[hb];exact i3⟩
      ·rw[not_or] at ho
       obtain⟨z8,z10,hb⟩:=zH (N:=N) (n:=n) (fa:=fa) (G:=G) (S:=S) (J:=J) (x7:=x7) (x8:=x8) (x9:=x9) (x10:=x10) P k0 k1 hin h6 hr ho.1 ho.2 (by lia)
       have ha:=xS (N:=N) (n:=n) (L:=L) (RA:=RA) (fa:=fa) (G:=G) (M:=M++[k]) (S:=S) (r:=r) (k:=k) (x7:=some (.int k)) (x8:=z8) (x10:=z10) (hA (fj (gi is k))) (by lia) (by lia)
       obtain⟨fa',G',M',J',y7,y8,y9,y10,i1,i2,i3⟩:=ih _ _ _ S _ (some (.int k)) z8 (some (.ref (h.length+(J.length+4)))) z10 (x.app (k:=k) (i:=fj (gi is k)) nd' hm' hs' (by simp)) (by simp;exact Nat.lt_of_succ_lt_succ (Ct (by assumption) (by assumption))) (by simp;exact Nat.lt_of_succ_lt (Ct (by assumption) (by assumption)))
       exact⟨fa',G',M',J',y7,y8,y9,y10,i1,.leaf hin h6 hr ho.1 ho.2 i2,by rw[hb ha];exact i3⟩
noncomputable def i0 (i:I):I:={i with last:=true}
noncomputable def nM:List I->List I
 | []=>[]
 | [i]=>[i0 i]
 | i::j::r=>i::nM (j::r)
theorem CR:nM [i]=[i0 i]:=rfl
theorem CQ {j:I}{r:List I}:nM (i::j::r)=i::nM (j::r):=rfl
theorem vg (l:List I)(i:I):nM (l++[i])=l++[i0 i]:=by
 induction l with
 | nil=>rfl
 | cons a l ih=>cases l with
   | nil=>rfl
   | cons b l=>exact ag (a:: ·) ih
noncomputable def b9 (G:List (Int×I)):List I:=nM (if G=[] then [mK] else G.map (·.2))
theorem aM.set_ne {h:H}{a:Nat}{o:O}:∀ {as:List Nat} {is:List I},a∉as->aM h as is->aM (h.set a o) as is
 | [],[],_,_=>trivial
 | b::as,i::is,hn,x=>⟨by rw[List.getElem?_set_ne (fun z=>hn (by rw[z];exact aK))];exact x.1,aM.set_ne (fun z=>hn (aP _ z)) x.2⟩
 | [],_::_,_,x=>x.elim
 | _::_,[],_,x=>x.elim
theorem aM.snoc_inv {h:H}:∀ {as:List Nat} {a:Nat} {is:List I},aM h (as++[a]) is->dU (fun js i=>is=js++[i]) (fun js i=>aM h as js) (fun js i=>h[a]?=some (.inst 0 i.fs))
 | [],a,[i],x=>⟨[],i,rfl,trivial,x.1⟩
 | b::as,a,i::is,x=>by obtain⟨js,j,rfl,h1,h2⟩:=aM.snoc_inv x.2;exact⟨i::js,j,rfl,⟨x.1,h1⟩,h2⟩
 | [],_,[],x=>x.elim
 | [],_,_::_::_,x=>x.2.elim
 | _::_,_,[],x=>x.elim
end
end
section
variable {N n:Nat}{h:H}{p L Hd D RA:Nat}{as:List Nat}{is:List I}{d:PD}
theorem yR {h X:H}{x:O}{a:Nat}{o:O}(ha:h.length<a)(hb:a<h.length+1+X.length):bp (fun X'=>(h++x::X).set a o=h++x::X') (fun X'=>X'.length=X.length):=by
 refine⟨X.set (a-h.length-1) o,?_,by simp⟩
 rw[List.set_append_right _ _ (by lia)]
 have:a-h.length=(a-h.length-1)+1:=by lia
 rw[this,List.set_cons_succ]
 rfl
theorem pb {R:List Int}{r:Int}(hl:h[L]?=some (.list (as.map .ref)))(hi:aM h as is)(hR:h[RA]?=some (.idict (dk R)))(w:ii is)(hs:is.length<100)(hN:900000≤N)(r0:0≤r)(r1:r<is.length):
 yn (fun fa X M' G'=>av aw N (n+2) 15 [.ref L,.ref RA,.int r] h=some (.ref h.length,h++.list (fa.map .ref)::X)) (fun fa X M' G'=>aM (h++.list (fa.map .ref)::X) fa (b9 G')) (fun fa X M' G'=>fa.Nodup) (fun fa X M' G'=>(∀a∈fa,h.length<a/\a<h.length+1+X.length)) (fun fa X M' G'=>ee is R r [r] [] [] M' G') (fun fa X M' G'=>G'.length≤is.length):=by
 have P:pw h L RA as is R:=⟨aY hl,hi,aY hR⟩;obtain⟨fa,G,M,J,z7,z8,z9,z10,i1,i2,i3⟩:=zG (N:=N) (n:=n) (r:=r) P w hs N [] [] [] [r] [] none none none none ⟨List.nodup_nil,by simp,fun k hk=>by rw[aB hk];exact⟨r0,r1⟩,by simp,List.nodup_nil,by simp,fun y y y y=>trivial⟩ (by simp;lia) (by simp;lia)
 have hMl:=bW i1.mnd i1.m;have hGl:=i1.gl
 have t0:exec (av aw N (n+1)) N (c8.nth 0) [some (.ref L),some (.ref RA),some (.int r),none,none,none,none,none,none,none,none] h=some (.next,du L RA h.length r [none,none,none,none],bJ h [] [] [] [r] []):=by exact(fh (bS (ah (bA aN (aj rfl) fJ) (ah (em lO) (ah (em wb) (ah (bA (ah (ac rfl) aN) (aj rfl) Aa) aN))))) rfl (db (bk (aj rfl)) (db (bk (aj rfl)) (db (bk (aj rfl)) (db (bk (aj rfl)) j3)))))
 have t1:=(jv (av aw N (n+1)) N (.var 6) lQ (du L RA h.length r [none,none,none,none]) (bJ h [] [] [] [r] [])).trans i3;have hfl:fa.length=G.length:=by have:=(i1.at_ (.list []) (.list []) (.list []) (.list [])).len;simpa using this
 obtain⟨fb,a,js,i,y1,y2,y3,J2,e1,e2,e3,e4,e5⟩:yk (fun(fb:List Nat) (a:Nat) (js:List I) (i:I) (y1 y2 y3:O) (J2:H)=>(js++[i]=if G=[] then [mK] else G.map (·.2))) (fun(fb:List Nat) (a:Nat) (js:List I) (i:I) (y1 y2 y3:O) (J2:H)=>exec (av aw N (n+1)) N (c8.nth 2) (du L RA h.length r [z7,z8,z9,z10]) (bJ h fa G M [] J)=some (.next,du L RA h.length r [z7,z8,z9,z10],h++.list ((fb++[a]).map .ref)::y1::y2::y3::J2)) (fun(fb:List Nat) (a:Nat) (js:List I) (i:I) (y1 y2 y3:O) (J2:H)=>(∀u:O,aM (h++u::y1::y2::y3::J2) (fb++[a]) (js++[i]))) (fun(fb:List Nat) (a:Nat) (js:List I) (i:I) (y1 y2 y3:O) (J2:H)=>(fb++[a]).Nodup) (fun(fb:List Nat) (a:Nat) (js:List I) (i:I) (y1 y2 y3:O) (J2:H)=>∀b∈fb++[a],h.length+4≤b/\b<h.length+4+J2.length):=by
  rcases List.eq_nil_or_concat fa with hfa | ⟨fb,a,hfa⟩
  ·have hG:G=[]:=List.length_eq_zero_iff.mp (by rw[<-hfl,hfa];rfl)
   refine⟨[],h.length+(J.length+4),[],mK,hZ [],.idict (dk M),.list [],J++[.inst 0 mK.fs],by rw[ap hG];rfl,?_,fun u=>⟨?_,trivial⟩,by simp,fun b hb=> ?_⟩
   ·rw[hfa,hG]
    exact(bX (gB (ac rfl) (lT br)) rfl (an (gg (ac rfl) br (gC (ah ao aN) rfl Cv) br (aj rfl) dE) aF))
   ·exact(bz h _ (J.length+4)).trans (bC J _ [])
   ·rw[List.nil_append] at hb;rw[aB hb];simp;lia
  ·rw[List.concat_eq_append] at hfa
   have hG:G≠ []:=fun z=>by rw[z,hfa] at hfl;simp at hfl
   have hat:=i1.at_ (.list (fa.map .ref)) (hZ (G.map (·.2))) (.idict (dk M)) (.list []);rw[hfa] at hat;obtain⟨js,i,q1,q2,q3⟩:=hat.snoc_inv;refine⟨fb,a,js,i,hZ (G.map (·.2)),.idict (dk M),.list [],J,by rw[au hG,q1],?_,fun u=> ?_,by rw[<-hfa];exact i1.nd,by rw[<-hfa];exact i1.rng⟩
   ·rw[hfa]
    have he:(!(!((fb++[a]).map V.ref).isEmpty))=false:=by cases fb<;>rfl
    exact(aS (gB (ac rfl) (lT br)) (ag some he) aF)
   ·have:=i1.at_ u (hZ (G.map (·.2))) (.idict (dk M)) (.list [])
    rw[hfa] at this;rw[<-q1];exact this
 have ha:=e5 a (by simp)
 obtain⟨X,f1,f2⟩:=yR (h:=h) (X:=y1::y2::y3::J2) (x:=.list ((fb++[a]).map .ref)) (a:=a) (o:=.inst 0 (i0 i).fs) (by lia) (by simp;lia)
 obtain⟨js',i',q0,q1,q2⟩:=(e3 (.list ((fb++[a]).map .ref))).snoc_inv;obtain⟨hj1,hj2⟩:=List.append_inj' q0 rfl;have hj3:i=i':=by simpa using hj2
 rw[<-hj1] at q1;rw[<-hj3] at q2
 have t3:exec (av aw N (n+1)) N (c8.nth 3) (du L RA h.length r [z7,z8,z9,z10]) (h++.list ((fb++[a]).map .ref)::y1::y2::y3::J2)=some (.next,du L RA h.length r [z7,z8,z9,z10],h++.list ((fb++[a]).map .ref)::X):=by exact bf ao (dO (bE (ac rfl) (kf ao) rY) ((qa q2 (aj rfl) (by decide)).trans (ag some f1)))
 have t4:exec (av aw N (n+1)) N (c8.nth 4) (du L RA h.length r [z7,z8,z9,z10]) (h++.list ((fb++[a]).map .ref)::X)=some (.ret (.ref h.length),du L RA h.length r [z7,z8,z9,z10],h++.list ((fb++[a]).map .ref)::X):=by exact bR (ac rfl)
 refine⟨fb++[a],X,M,G,fu (fd:=gk) rfl rfl ((aC t0).trans ((aC t1).trans ((aC e2).trans ((aC t3).trans (fr t4))))),?_,e4,fun b hb=> ?_,i2,by lia⟩
 ·unfold b9
  rw[<-e1,vg,<-f1]
  have hn:a∉fb:=by rw[List.nodup_append] at e4;exact fun z=>e4.2.2 a z a (by simp) rfl
  refine aM.app (aM.set_ne hn q1) ⟨?_,trivial⟩;rw[List.getElem?_set_self (bP q2).1]
 ·have:=e5 b hb
  rw[f2];simp;lia
end
section
variable {R:List Int}{r:Int}{G:List (Int×I)}{gs:List (List (Int×I))}
section
variable {N n:Nat}{h bg:H}{p L Hd D RA:Nat}{as:List Nat}{is:List I}{d:PD}
theorem aM.congr {h h':H}:∀ {as:List Nat} {is:List I},(∀a∈as,h'[a]?=h[a]?)->aM h as is->aM h' as is
 | [],[],_,_=>trivial
 | b::as,i::is,hn,x=>⟨(hn b aK).trans x.1,aM.congr (fun a ha=>hn a (aP _ ha)) x.2⟩
 | [],_::_,_,x=>x.elim
 | _::_,[],_,x=>x.elim
theorem zK {u v u' v':O}{J:H}{a:Nat}(ha:bg.length+2≤a):(bg++u::v::J)[a]?=(bg++u'::v'::J)[a]?:=by
 obtain⟨k,rfl⟩:∃k,a=bg.length+(k+1+1):=⟨a-bg.length-2,by omega⟩
 rw[bz,bz];simp
noncomputable def mX:List (List I)->Nat->List Int
 | [],_=>[]
 | l::ls,n=>(n:Int)::mX ls (n+l.length)
theorem nZ {l:List I}{ls:List (List I)}{n:Nat}:mX (l::ls) n=(n:Int)::mX ls (n+l.length):=rfl
theorem nY:∀ (ls:List (List I)) (n:Nat),(mX ls n).length=ls.length:=by
 intro ls
 induction ls with
 | nil=>
   intro _;exact rfl
 | cons l ls ih=>
   intro n;rw[nZ,List.length_cons,ih];rfl
theorem vt:∀ (ls:List (List I)) (n:Nat) (l:List I),mX (ls++[l]) n=mX ls n++[((n+ls.flatten.length:Nat):Int)]:=by
 intro ls
 induction ls with
 | nil=>
   intro n l
   rfl
 | cons a ls ih=>
   intro n l;rw[List.cons_append,nZ,ih,nZ];simp;lia
noncomputable def fQ (is:List I) (R:List Int):List Int->List (List (Int×I))->Prop
 | [],[]=>True
 | r::rs,G::gs=>(∃M,ee is R r [r] [] [] M G)/\fQ is R rs gs
 | _,_=>False
theorem fQ.snoc:∀ {rs:List Int} {gs:List (List (Int×I))},fQ is R rs gs->(∃M,ee is R r [r] [] [] M G)->fQ is R (rs++[r]) (gs++[G])
 | [],[],_,h=>⟨h,trivial⟩
 | _::_,_::_,x,h=>⟨x.1,fQ.snoc x.2 h⟩
 | [],_::_,x,_=>x.elim
 | _::_,[],x,_=>x.elim
theorem fQ.len:∀ {rs:List Int} {gs:List (List (Int×I))},fQ is R rs gs->rs.length=gs.length
 | [],[],_=>rfl
 | _::_,_::_,x=>by simp[fQ.len x.2]
 | [],_::_,x=>x.elim
 | _::_,[],x=>x.elim
noncomputable def bF (D:List Int) (gs:List (List (Int×I))):List (Int×Int):=D.zip (mX (gs.map b9) 0)
theorem gd {D:List Int}(hl:D.length=gs.length):(bF D gs).map (·.1)=D:=by unfold bF;rw[List.map_fst_zip];rw[nY];simp[hl]
theorem rQ {D:List Int}(hl:D.length=gs.length):bF (D++[r]) (gs++[G])=bF D gs++[(r,(((gs.map b9).flatten.length:Nat):Int))]:=by
 unfold bF;rw[List.map_append,List.map_singleton,vt,List.zip_append (by rw[nY];simp[hl])]
 simp
noncomputable def Ah:dz:=(gI.nth 3).body
noncomputable def DB:dz:=(gI.nth 4).body
noncomputable def ie (bg:H) (z:List (Int×Int)) (fa:List Nat) (J:H):H:=bg++.idict (kj z)::.list (fa.map .ref)::J
structure F1 (bg:H) (is:List I) (R Dn:List Int) (gs:List (List (Int×I))) (fa:List Nat) (J:H):Prop where
 all:fQ is R Dn gs
 nd:fa.Nodup
 rng:∀a∈fa,bg.length+2≤a/\a<bg.length+2+J.length
 at_:∀u v,aM (bg++u::v::J) fa (gs.map b9).flatten
 small:∀g∈gs,(b9 g).length≤is.length+1
theorem oM (G:List (Int×I)):(b9 G).length≤G.length+1/\1≤(b9 G).length:=by
 have sl:∀l:List I,(nM l).length=l.length:=fun l=>by
  induction l with
  | nil=>rfl
  | cons a l ih=>cases l with
    | nil=>rfl
    | cons b l=>exact ag (· +1) ih
 unfold b9;rw[sl]
 split
 ·simp
 ·rename_i hg
  have:0<G.length:=List.length_pos_iff.mpr hg;simp;lia
theorem oE {m:Nat}:∀ (ls:List (List I)),(∀l∈ls,l.length≤m)->ls.flatten.length≤ls.length*m:=by
 intro ls
 induction ls with
 | nil=>
   intro _;simp
 | cons l ls ih=>
   intro hb;have h1:=ih fun a ha=>hb a (aP _ ha);have h2:=hb l aK;rw[List.flatten_cons,bd,List.length_cons,Nat.succ_mul]
   lia
theorem zN {x0:Nat}{chk:H->Bool}(x:PA bg p L Hd as d)(hR:bg[RA]?=some (.idict (dk R)))(hnd:R.Nodup)(w:ii d.insts)(hs:d.insts.length<100)(hN:900000≤N)(hrr:∀r∈R,0≤r/\r<d.insts.length)(hchk:∀Y,chk (bg++Y)=true):
 ∀ (rest Dn:List Int) (gs:List (List (Int×I))) (fa:List Nat) (J:H) (x4 x5 x6 x7:Option V),R=Dn++rest->F1 bg d.insts R Dn gs fa J->
   s_ (fun gs' fa' J' z4=>F1 bg d.insts R R gs' fa' J') (fun gs' fa' J' z4=>dR 4 (bn (av aw N (n+2)) N Ah) chk (rest.map .int) [some (.ref p),some (.ref RA),some (.ref bg.length),some (.ref (bg.length+1)),x4,x5,x6,x7] (ie bg (bF Dn gs) fa J)=
    some (.next,[some (.ref p),some (.ref RA),some (.ref bg.length),some (.ref (bg.length+1)),z4,x5,x6,x7],ie bg (bF R gs') fa' J')):=by
 intro rest
 induction rest with
 | nil=>
   intro Dn gs fa J x4 x5 x6 x7 hD I;rw[List.append_nil] at hD;subst hD;exact⟨gs,fa,J,x4,I,by simp[eC,bK,ie,hchk]⟩
 | cons r rest ih=>
   intro Dn gs fa J x4 x5 x6 x7 hD I;have hl:=I.all.len;have hrR:r∈R:=by rw[hD];simp
   have hrn:r∉(bF Dn gs).map (·.1):=by rw[gd hl];rw[hD,List.nodup_append] at hnd;exact fun z=>hnd.2.2 r z r aK rfl
   have hfl:fa.length=(gs.map b9).flatten.length:=(I.at_ (.list []) (.list [])).len
   have hb:=oE (gs.map b9) (m:=d.insts.length+1) (by intro l hl';rw[List.mem_map] at hl';obtain⟨g,hg,rfl⟩:=hl';exact I.small g hg)
   have hDl:Dn.length≤d.insts.length:=by have:=bW hnd hrr;rw[hD] at this;simp at this;lia
   have hb2:fa.length≤100*101:=by rw[hfl];refine Nat.le_trans hb ?_;rw[aD,<-hl];exact Nat.mul_le_mul (by lia) (by lia)
   have hz:bF (Dn++[r]) (gs++[[]])=bF Dn gs++[(r,(fa.length:Int))]:=by rw[rQ hl,<-hfl]
   have t0:exec (av aw N (n+2)) N (Ah.nth 0) [some (.ref p),some (.ref RA),some (.ref bg.length),some (.ref (bg.length+1)),some (.int r),x5,x6,x7] (ie bg (bF Dn gs) fa J)=some (.next,[some (.ref p),some (.ref RA),some (.ref bg.length),some (.ref (bg.length+1)),some (.int r),x5,x6,x7],ie bg (bF Dn gs++[(r,(fa.length:Int))]) fa J):=by
    have e1:put (kj (bF Dn gs)) r (.int fa.length)=kj (bF Dn gs++[(r,(fa.length:Int))]):=by rw[nr (by rw[lx];exact hrn)];unfold kj;simp
    have l1:(kj (bF Dn gs)).length<1000000:=by
     have:(bF Dn gs).length=Dn.length:=by rw[<-aD (f:=(·.1)),gd hl]
     unfold kj;rw[aD,this];lia
    have s1:cW (ie bg (bF Dn gs) fa J) (.ref bg.length) (.int r) (.int (fa.map V.ref).length)=some (ie bg (bF Dn gs++[(r,(fa.length:Int))]) fa J):=by rw[aD,ie,ie,<-e1];exact(gX (kv:=kj (bF Dn gs)) br l1).trans (ag some dE)
    exact bf (jh (ac rfl) (bH rfl)) (f0 (ac rfl) (ac rfl) s1)
   generalize hz':bF Dn gs++[(r,(fa.length:Int))]=z at t0
   have le:Le bg (ie bg z fa J):=Le.app _ _;obtain⟨fb,X,M',G',c1,c2,c3,c4,c5,c6⟩:=pb (N:=N) (n:=n) (h:=ie bg z fa J) (R:=R) (r:=r) (le _ _ x.list) (x.insts.mono le) (le _ _ hR) w hs hN (hrr r hrR).1 (hrr r hrR).2;have hfil:=oM G';have hfb:fb.length=(b9 G').length:=c2.len;have hlen:(ie bg z fa J).length=bg.length+2+J.length:=by rw[ie,bd,List.length_cons,List.length_cons];lia
   have t1:exec (av aw N (n+2)) N (Ah.nth 1) [some (.ref p),some (.ref RA),some (.ref bg.length),some (.ref (bg.length+1)),some (.int r),x5,x6,x7] (ie bg z fa J)=some (.next,[some (.ref p),some (.ref RA),some (.ref bg.length),some (.ref (bg.length+1)),some (.int r),x5,x6,x7],ie bg z (fa++fb) (J++.list (fb.map .ref)::X)):=by
    have hp:=le _ _ x.obj;have g1:(ie bg z fa J)[bg.length+1]?=some (.list (fa.map .ref)):=bH rfl;refine wo (ac rfl) g1 (bL (ah (am (ac rfl) hp rfl) (ah (ac rfl) (ah (ac rfl) aN))) c1) (aY g1 _) br ⟨Nat.ne_of_lt (bP g1).1,by rw[aD,aD];lia⟩ ?_
    rw[ie,ie,aH,List.map_append];exact vh
   have hz2:bF (Dn++[r]) (gs++[G'])=z:=by rw[rQ hl,<-hfl];exact hz'
   obtain⟨gs',fa',J',z4,w1,w2⟩:=ih (Dn++[r]) (gs++[G']) (fa++fb) (J++.list (fb.map .ref)::X) (some (.int r)) x5 x6 x7 (by simpa using hD) ⟨I.all.snoc ⟨M',c5⟩,by
    rw[List.nodup_append];exact⟨I.nd,c3,fun a ha b hb e=>by have h1:=(I.rng a ha).2;have h2:=(c4 b hb).1;rw[hlen] at h2;lia⟩,fun a ha=>by
    rcases ba ha with ha | ha
    ·have:=I.rng a ha;simp;lia
    ·have:=c4 a ha;rw[hlen] at this;simp;lia,fun u v=>by
    rw[List.map_append,List.flatten_append,List.map_singleton,List.flatten_singleton];have e:bg++u::v::(J++.list (fb.map .ref)::X)=(bg++u::v::J)++.list (fb.map .ref)::X:=by simp
    refine aM.app ?_ ?_
    ·rw[e];exact(I.at_ u v).mono (Le.app _ _)
    ·refine aM.congr (fun a ha=> ?_) c2
     have h2:=(c4 a ha).1;rw[hlen] at h2;have e3:ie bg z fa J++.list (fb.map .ref)::X=bg++.idict (kj z)::.list (fa.map .ref)::(J++.list (fb.map .ref)::X):=aH _ _ _;rw[e3];exact zK (by lia),fun g hg=>by
    rcases ba hg with hg | hg
    ·exact I.small g hg
    ·rw[aB hg];lia⟩
   refine⟨gs',fa',J',z4,w1,?_⟩;rw[List.map_cons,bK,ap (by unfold ie;exact hchk _)]
   have hbd:bn (av aw N (n+2)) N Ah ([some (.ref p),some (.ref RA),some (.ref bg.length),some (.ref (bg.length+1)),x4,x5,x6,x7].set 4 (some (.int r))) (ie bg (bF Dn gs) fa J)=some (.next,[some (.ref p),some (.ref RA),some (.ref bg.length),some (.ref (bg.length+1)),some (.int r),x5,x6,x7],ie bg z (fa++fb) (J++.list (fb.map .ref)::X)):=
    (aC t0).trans ((aC t1).trans execs_nil)
   rw[hbd];rw[hz2] at w2;exact w2
end
end
section
variable {z:List (Int×Int)}{a:Nat}{fa:List Nat}{x0 x1 x4 x6 x7:Option V}
section
variable {N n:Nat}{h bg:H}{p L Hd D RA:Nat}{as:List Nat}{is:List I}{d:PD}
noncomputable def cz (z:List (Int×Int)) (k:Int):Int:=(ownOf z k).getD 0
noncomputable def dF (z:List (Int×Int)) (i:I):I:=if i.op=1\/i.op=2\/i.op=3\/i.op=5 then{i with out:=cz z i.out} else i
theorem ro {u v:O}{J:H}{o:O}(ha:bg.length+2≤a):(bg++u::v::J).set a o=bg++u::v::J.set (a-bg.length-2) o:=by
 obtain⟨k,rfl⟩:∃k,a=bg.length+(k+1+1):=⟨a-bg.length-2,by omega⟩
 rw[eV,List.set_cons_succ,List.set_cons_succ]
 congr 4
 omega
theorem zM {J:H}{i:I}{x5:Option V}(ha:∀u v,(bg++u::v::J)[a]?=some (.inst 0 i.fs))(har:bg.length+2≤a)(hk:i.op=1\/i.op=2\/i.op=3\/i.op=5->i.out∈z.map (·.1)):
 bn (av aw N n) N DB ([x0,x1,some (.ref bg.length),some (.ref (bg.length+1)),x4,x5,x6,x7].set 5 (some (.ref a))) (ie bg z fa J)=some (.next,[x0,x1,some (.ref bg.length),some (.ref (bg.length+1)),x4,some (.ref a),x6,x7],ie bg z fa (J.set (a-bg.length-2) (.inst 0 (dF z i).fs))):=by
 have ha':(ie bg z fa J)[a]?=some (.inst 0 i.fs):=ha _ _;have hset:(ie bg z fa J).set a (.inst 0 (dF z i).fs)=ie bg z fa (J.set (a-bg.length-2) (.inst 0 (dF z i).fs)):=ro har
 by_cases ho:i.op=1\/i.op=2\/i.op=3\/i.op=5
 ·obtain⟨o,h1⟩:=iz (hk ho)
  have hren:dF z i={i with out:=o}:=by rw[dF,ap ho,cz,h1];rfl
  rw[hren] at hset⊢
  have hs:cP (ie bg z fa J) (.ref bg.length) (.int i.out)=some (.int o):=by have:(ie bg z fa J)[bg.length]?=some (.idict (kj z)):=br;rw[iw,this];dsimp only;rw[f7,h1];rfl
  have hst:setAttr (ie bg z fa J) (.ref a) 0 1 (.int o)=some (ie bg z fa (J.set (a-bg.length-2) (.inst 0 {i with out:=o}.fs))):=(qa ha' (aj rfl) (by decide)).trans (ag some hset)
  by_cases h5:i.op=5
  ·have hop:=sA (H:=[]) (o:=i.op) (t:=false) (by rw[h5];rfl)
   exact(an (bX (dP (cS (az (am (ac rfl) ha' rfl) ao hop) rfl (cV (az (am (ac rfl) ha' rfl) ao (ag some (beq_of_eq h5)))))) rfl (an (bf (bE (ac rfl) (am (ac rfl) ha' rfl) hs) (dO (ac rfl) hst)) aF)) aF)
  ·have hop:=sA (H:=[]) (aW (show i.op=1\/i.op=2\/i.op=3 from ho.imp_right fun z=>z.imp_right fun z=>z.resolve_right h5))
   exact(an (bX (dP (sk (az (am (ac rfl) ha' rfl) ao hop) rfl)) rfl (an (bf (bE (ac rfl) (am (ac rfl) ha' rfl) hs) (dO (ac rfl) hst)) aF)) aF)
 ·have hren:dF z i=i:=au ho
  rw[hren] at hset⊢
  have hsame:(ie bg z fa J).set a (.inst 0 i.fs)=ie bg z fa J:=by
   apply List.ext_getElem?;intro k;rw[List.getElem?_set]
   split
   ·rename_i e
    subst e;rw[ap (bP ha').1,ha']
   ·rfl
  rw[hsame] at hset;rw[<-hset];have hop:=sA (H:=[]) (aJ (show ¬ (i.op=1\/i.op=2\/i.op=3) from fun z=>ho (z.imp_right fun z=>z.imp_right .inl)));have h5:i.op≠5:=fun z=>ho (.inr (.inr (.inr z)));exact(an (aS (dP (cS (az (am (ac rfl) ha' rfl) ao hop) rfl (cV (az (am (ac rfl) ha' rfl) ao (ag some (aJ h5)))))) rfl aF) aF)
theorem zL {chk:H->Bool}(hchk:∀J,chk (ie bg z fa J)=true):
 ∀ (rest:List I) (frest fdone:List Nat) (done:List I) (J:H) (x5:Option V),(∀u v,aM (bg++u::v::J) fdone done)->(∀u v,aM (bg++u::v::J) frest rest)->(fdone++frest).Nodup->(∀a∈frest,bg.length+2≤a)->
   (∀i∈rest,i.op=1\/i.op=2\/i.op=3\/i.op=5->i.out∈z.map (·.1))->
   dU (fun J' z5=>J'.length=J.length) (fun J' z5=>(∀u v,aM (bg++u::v::J') (fdone++frest) (done++rest.map (dF z)))) (fun J' z5=>dR 5 (bn (av aw N n) N DB) chk (frest.map .ref) [x0,x1,some (.ref bg.length),some (.ref (bg.length+1)),x4,x5,x6,x7] (ie bg z fa J)=some (.next,[x0,x1,some (.ref bg.length),some (.ref (bg.length+1)),x4,z5,x6,x7],ie bg z fa J')):=by
 intro rest
 induction rest with
 | nil=>
   intro v9;cases v9 with
   | nil=>
     intro fdone done J x5 h1 _ _ _ _;exact⟨J,x5,rfl,by simpa using h1,by simp[eC,bK,hchk]⟩
   | cons _ _=>
     intro _ _ _ _ _ h2 _ _ _;exact(h2 (.list []) (.list [])).elim
 | cons i rest ih=>
   intro v9;cases v9 with
   | nil=>
     intro _ _ _ _ _ h2 _ _ _;exact(h2 (.list []) (.list [])).elim
   | cons a frest=>
     intro fdone done J x5 h1 h2 nd hr hk;have har:=hr a aK;have hb:=zM (N:=N) (n:=n) (z:=z) (fa:=fa) (J:=J) (a:=a) (i:=i) (x0:=x0) (x1:=x1) (x4:=x4) (x5:=x5) (x6:=x6) (x7:=x7) (fun u v=>(h2 u v).1) har (hk i aK);rw[List.nodup_append] at nd;obtain⟨n1,n2,n3⟩:=nd;rw[List.nodup_cons] at n2;have hnd:a∉fdone:=fun q=>n3 a q a aK rfl
     obtain⟨J',z5,q1,q2,q3⟩:=ih frest (fdone++[a]) (done++[dF z i]) (J.set (a-bg.length-2) (.inst 0 (dF z i).fs)) (some (.ref a)) (fun u v=>by
      rw[<-ro har];refine aM.app (aM.set_ne hnd (h1 u v)) ⟨?_,trivial⟩;rw[List.getElem?_set_self (bP (h2 u v).1).1])
      (fun u v=>by rw[<-ro har];exact aM.set_ne n2.1 (h2 u v).2)
      (by rw[aH,List.nodup_append];exact⟨n1,List.nodup_cons.mpr n2,n3⟩) (fun b hb=>hr b (aP _ hb)) (fun j hj=>hk j (aP _ hj))
     refine⟨J',z5,by rw[q1,List.length_set],by simpa using q2,?_⟩
     rw[List.map_cons,bK,ap (hchk _),hb];exact q3
noncomputable def dt (d:PD) (R:List Int) (gs:List (List (Int×I))):PD:=
 {insts:=(gs.map b9).flatten.map (dF (bF R gs)),start:=cz (bF R gs) d.start,loose:=cz (bF R gs) d.loose,rev:=d.rev,as:=d.as,ae:=d.ae,flat:=true,heads:=R.map (cz (bF R gs)),pre:=d.pre,pf:=d.pf}
theorem tQ {hd:Nat}{H:Mine.H}{e:En}{chk:Mine.H->Bool}(hg:H[hd]?=some (.idict (kj z)))(hchk:chk H=true)(he:e[2]?=some (some (.ref hd)))(hel:7<e.length):
 ∀ (R:List Int),(∀r∈R,r∈z.map (·.1))->dv (ig (av aw N n) (.sub (.var 2) (.var 7)) 7 e) chk (R.map .int) H=some ((R.map (cz z)).map .int,H):=by
 intro R
 induction R with
 | nil=>
   intro _;simp[jC,dj,hchk]
 | cons r R ih=>
   intro hr;obtain⟨o,h1⟩:=iz (hr r aK)
   have hs:cP H (.ref hd) (.int r)=some (.int (cz z r)):=by rw[iw,hg];dsimp only;rw[f7,cz,h1];rfl
   have e2:(e.set 7 (some (.int r)))[2]?=some (some (.ref hd)):=by rw[List.getElem?_set_ne (by decide)];exact he
   have hb:ig (av aw N n) (.sub (.var 2) (.var 7)) 7 e (.int r) H=some ([.int (cz z r)],H):=k9 (bE (ac e2) (ac (List.getElem?_set_self hel)) hs);rw[List.map_cons,dj,ap hchk,hb]
   dsimp only
   rw[ih fun q hq=>hr q (aP _ hq)]
   rfl
theorem qQ {k:Int}(h:k∈z.map (·.1)):lookup (kj z) k=some (.int (cz z k)):=by obtain⟨o,ho⟩:=iz h;rw[f7,ho,cz,ho];rfl
theorem sS (x:PA h p L Hd as d)(hf:d.flat=false)(w:ii d.insts)(hs:d.insts.length<100)(s0:0≤d.start)(s1:d.start<d.insts.length)(l0:0≤d.loose)(l1:d.loose<d.insts.length)(hN:900000≤N)
 (hout:∀R ow gs,iQ d R ow->fQ d.insts R R gs->∀i∈(gs.map b9).flatten,i.op=1\/i.op=2\/i.op=3\/i.op=5->i.out∈R):
 yk (fun R ow gs q L' Hd' as' X=>iQ d R ow) (fun R ow gs q L' Hd' as' X=>fQ d.insts R R gs) (fun R ow gs q L' Hd' as' X=>(∀g∈gs,(b9 g).length≤d.insts.length+1)) (fun R ow gs q L' Hd' as' X=>av aw N (n+4) 16 [.ref p] h=some (.ref q,h++X)) (fun R ow gs q L' Hd' as' X=>PA (h++X) q L' Hd' as' (dt d R gs)):=by
 have rng:∀k,Reach d k->0≤k/\k<d.insts.length:=fun k z=>z.range w s0 s1 l0 l1;obtain⟨R,ow,X0,hRO,hc0⟩:=sU (N:=N) (n:=n) x w hs s0 s1 l0 l1 hN
 have hrr:∀r∈R,0≤r/\r<d.insts.length:=fun r hr=>by
  rcases hRO.r r hr with rfl | z
  ·exact⟨Int.le_refl _,by have:=w.pos;lia⟩
  ·exact rng r z
 have hRl:=bW hRO.nd hrr;obtain⟨bg,hH₀⟩:∃bg:H,bg=h++.idict (dk R)::X0:=⟨_,rfl⟩;rw[<-hH₀] at hc0;have le0:Le h bg:=by rw[hH₀];exact Le.app _ _
 have x0:=x.mono le0;have hR:bg[h.length]?=some (.idict (dk R)):=by rw[hH₀];simp
 have hR':∀Y,(bg++Y)[h.length]?=_:=aY hR;have hp':∀Y,(bg++Y)[p]?=_:=aY x0.obj;have hp0:=x.obj;obtain⟨gs,fa,J,z4,I1,hloop1⟩:=zN (N:=N) (n:=n+1) (chk:=dy (bg++[.idict [],.list []]) (.ref h.length)) (x0:=0) x0 hR hRO.nd w hs hN hrr (fun Y=>lI (hR' _) (hR' _) rfl) R [] [] [] [] none none none none rfl ⟨trivial,List.nodup_nil,by simp,fun y y=>trivial,by simp⟩
 have hl:=I1.all.len;have hk:=gd hl
 generalize hz:bF R gs=z at hloop1 hk
 have hof:=hout R ow gs hRO I1.all;obtain⟨J2,z5,j1,j2,hloop2⟩:=zL (N:=N) (n:=n+3) (z:=z) (fa:=fa) (chk:=dy (ie bg z fa J) (.ref (bg.length+1))) (x0:=some (.ref p)) (x1:=some (.ref h.length)) (x4:=z4) (x6:=none) (x7:=none) (fun J'=>cB (vs:=fa.map .ref) (by simp[ie]) (by simp[ie])) (gs.map b9).flatten fa [] [] J none (fun y y=>trivial) I1.at_ I1.nd (fun a ha=>(I1.rng a ha).1) (fun i hi ho=>by rw[hk];exact hof i hi ho)
 simp only[List.nil_append] at j2;have hpre:=hRO.pre;have hst:d.start∈R:=hpre.subset (da.mpr (.inr rfl));have hlo:d.loose∈R:=hpre.subset (da.mpr (.inl (da.mpr (.inr rfl))));obtain⟨q,hq⟩:∃q,q=bg.length+(J2.length+2):=⟨_,rfl⟩
 have htw:av aw N (n+3) 2 [.ref p] (ie bg z fa J2)=some (.ref q,bg++.idict (kj z)::.list (fa.map .ref)::(J2++.inst 1 (fo q d)::[.inst 0 gN,.list [.ref (q+1)],.list []])):=by rw[ie,x_ (x0.mono (Le.app bg _)),bd,aH,hq];rfl
 have getq:∀ (u v m:O) (Y:H),(bg++u::v::(J2++m::Y))[q]?=some m:=fun u v m Y=>by rw[hq];exact(bz bg _ _).trans (bC J2 m Y)
 have sa:∀ (u v:O) (m:List V) (k:Nat) (w:V) (R:H) (_:k<m.length) (_:k<11),setAttr (bg++u::v::(J2++.inst 1 m::R)) (.ref q) 1 k w=some (bg++u::v::(J2++.inst 1 (m.set k w)::R)):=fun u v m k w R p1 p2=>by rw[qa (d:=1) (getq u v _ R) p1 p2,hq];exact ag some ((eV bg _ _ _).trans (ag (fun z=>bg++u::v::z) (fw J2 _ _)))
 have sa0:=fun u v w R=>sa u v (fo q d) 0 w R (aj rfl) (by decide)
 have sa1:=fun u v w0 w R=>sa u v ((fo q d).set 0 w0) 1 w R (aj rfl) (by decide)
 have sa2:=fun u v w0 w1 w R=>sa u v (((fo q d).set 0 w0).set 1 w1) 2 w R (aj rfl) (by decide)
 have sa6:=fun u v w0 w1 w2 w R=>sa u v ((((fo q d).set 0 w0).set 1 w1).set 2 w2) 6 w R (aj rfl) (by decide)
 have sa7:=fun u v w0 w1 w2 w6 w R=>sa u v (((((fo q d).set 0 w0).set 1 w1).set 2 w2).set 6 w6) 7 w R (aj rfl) (by decide)
 clear sa
 have hs':∀ {k:Int},k∈R->∀Y,cP (bg++.idict (kj z)::Y) (.ref bg.length) (.int k)=some (.int (cz z k)):=fun hk' Y=>by rw[iw,bC];exact qQ (by rw[hk];exact hk')
 have hsS:=hs' hst;have hsL:=hs' hlo
 clear hs'
 rw[hf] at hp0;have hpq:∀ (u v:O) Y,(bg++u::v::Y)[p]?=_:=fun u v Y=>hp' (u::v::Y);have hcomp:=fun m Y=>tQ (N:=N) (n:=n+3) (z:=z) (hd:=bg.length) (H:=bg++.idict (kj z)::.list (fa.map .ref)::(J2++.inst 1 m::Y)) (e:=[some (.ref p),some (.ref h.length),some (.ref bg.length),some (.ref (bg.length+1)),z4,z5,some (.ref q),none]) (chk:=dy (bg++.idict (kj z)::.list (fa.map .ref)::(J2++.inst 1 m::Y)) (.ref h.length)) br (lI (hR' _) (hR' _) rfl) rfl (aj rfl) R (fun r hr=>by rw[hk];exact hr)
 have hit:∀Y,items (bg++Y) (.ref h.length)=some (R.map .int):=fun Y=>(tI (hR' Y)).trans (ag some lw);have lR:((R.map (cz z)).map V.int).length≤1000000:=by rw[aD,aD];lia
 have as3:∀ (u v m:O) (R X:H),bg++u::v::(J2++m::R)++X=bg++u::v::(J2++m::(R++X)):=fun u v m R X=>by rw[aH];exact ag (fun z=>bg++u::v::z) (aH _ _ _)
 have alq:∀ (u v m o:O) (a b c:O),Al (bg++u::v::(J2++m::[a,b,c])) o (q+4) (bg++u::v::(J2++m::[a,b,c,o])):=fun u v m o a b c=>⟨by
  rw[bd,List.length_cons,List.length_cons,bd,hq]
  show bg.length+(J2.length+4+1+1)=bg.length+(J2.length+2)+4
  lia,as3 _ _ _ _ _⟩
 refine⟨R,ow,gs,q,bg.length+1,q+4,fa,.idict (dk R)::X0++(.idict (kj z)::.list (fa.map .ref)::(J2++.inst 1 [.ref (bg.length+1),.int (cz z d.start),.int (cz z d.loose),.bool d.rev,.bool d.as,.bool d.ae,.bool true,.ref (q+4),.bytes d.pre,.bool d.pf,.none]::[.inst 0 gN,.list [.ref (q+1)],.list [],.list ((R.map (cz z)).map .int)])),hRO,I1.all,I1.small,?_,?_⟩
 rotate_left
 ·rw[<-aH,<-hH₀]
  subst hz;refine⟨getq _ _ _ _,bH rfl,?_,?_⟩
  ·exact aM.appR (l:=_::_::J2) (j2 _ _)
  ·rw[hq];exact(bz bg _ (J2.length+6)).trans (bz J2 _ 4)
 ·rw[<-aH,<-hH₀]
  apply cL (e:=[some (.ref p),none,none,none,none,none,none,none]) rfl rfl
  ·exact(an (aS (am (ac rfl) hp0 rfl) rfl aF) (an (bf (bL (ah (ac rfl) aN) hc0) (bk (aj rfl))) (an (fh (bS (ah (em fJ) (ah (bA aN (aj rfl) lO) aN))) rfl (db (bk (aj rfl)) (db (bk (aj rfl)) j3))) (an (fC (ac rfl) (hit _) (aj rfl) hloop1) (an (fC (ac rfl) (dG (bH rfl)) (aj rfl) hloop2) (an (bf (bL (ah (ac rfl) aN) htw) (bk (aj rfl))) (an (bf (ac rfl) (dO (ac rfl) (sa0 _ _ _ _))) (an (bf (bE (ac rfl) (am (ac rfl) (hp' _) rfl) (hsS _)) (dO (ac rfl) (sa1 _ _ _ _ _))) (an (bf (bE (ac rfl) (am (ac rfl) (hp' _) rfl) (hsL _)) (dO (ac rfl) (sa2 _ _ _ _ _ _))) (an (bf ao (dO (ac rfl) (sa6 _ _ _ _ _ _ _))) (an (bf (kD (ac rfl) (hit _) (hcomp _ _) lR (alq _ _ _ _ _ _ _)) (dO (ac rfl) (sa7 _ _ _ _ _ _ _ _))) (bb (bR (ac rfl))))))))))))))
  ·rfl
end
end
section
variable {μ ν:KP}{o S ja X:List dD}{k:Int}
section
noncomputable abbrev KP:=jd->Prop
noncomputable def kc (c:dD):jd:=(c.1,c.2.1)
noncomputable def dm (μ:KP) (q:jd):KP:=fun x=>μ x\/x=q
noncomputable def vr (μ V:KP):KP:=fun x=>μ x\/V x
inductive dL (W:dD->List dD) (dead:KP):List dD->KP->List dD->KP->Prop
 | nil (μ:KP):dL W dead [] μ [] μ
 | skip {c:dD} {S o:List dD} {μ ν:KP}:μ (kc c)\/dead (kc c)->dL W dead S μ o ν->dL W dead (c::S) μ o ν
 | emit {c:dD} {S o:List dD} {μ ν:KP}:¬μ (kc c)->¬dead (kc c)->c.1<0->dL W dead S (dm μ (kc c)) o ν->dL W dead (c::S) μ ((-1-c.1,c.2)::o) ν
 | go {c:dD} {S o:List dD} {μ ν:KP}:¬μ (kc c)->¬dead (kc c)->0≤c.1->dL W dead (W c++S) (dm μ (kc c)) o ν->dL W dead (c::S) μ o ν
variable {W:dD->List dD}{dead:KP}
theorem jK {m m':List jd}(hd:∀c,dead (kc c)->0≤c.1/\W c=[])(x:Run W S m o m'):
 ∀μ:KP,(∀q,¬dead q->(μ q↔q∈m))->∃ν,dL W dead S μ o ν:=by
 have up:∀ {μ:KP} {m:List jd} {q:jd},(∀q,¬dead q->(μ q↔q∈m))->∀p,¬dead p->(dm μ q p↔p∈m++[q]):=fun h p hp=>by unfold dm;rw[List.mem_append,List.mem_singleton,h p hp]
 induction x with
 | nil m=>exact fun μ y=>⟨μ,.nil μ⟩
 | @skip c S m o m' hc _ ih=>
   intro μ h;obtain⟨ν,r⟩:=ih μ h
   by_cases hdd:dead (kc c)
   ·exact⟨ν,.skip (.inr hdd) r⟩
   ·exact⟨ν,.skip (.inl ((h _ hdd).mpr hc)) r⟩
 | @emit c S m o m' hc hn _ ih=>
   intro μ h;have hdd:¬dead (kc c):=fun z=>by have:=(hd c z).1;omega
   obtain⟨ν,r⟩:=ih (dm μ (kc c)) (up h);exact⟨ν,.emit (fun z=>hc ((h _ hdd).mp z)) hdd hn r⟩
 | @go c S m o m' hc h0 _ ih=>
   intro μ h
   by_cases hdd:dead (kc c)
   ·rw[(hd c hdd).2] at ih
    obtain⟨ν,r⟩:=ih μ fun q hq=>by rw[h q hq,List.mem_append,List.mem_singleton];exact⟨.inl,fun z=>z.elim id fun e=>absurd (e▸hdd) hq⟩
    exact⟨ν,.skip (.inr hdd) r⟩
   ·obtain⟨ν,r⟩:=ih (dm μ (kc c)) (up h)
    exact⟨ν,.go (fun z=>hc ((h _ hdd).mp z)) hdd h0 r⟩
theorem dL.det {ν₁:KP}(x:dL W dead S μ ja ν₁):∀ {gZ:List dD} {ν₂:KP},dL W dead S μ gZ ν₂->ja=gZ/\ν₁=ν₂:=by
 induction x with
 | nil μ=>intro gZ ν₂ y;cases y;exact⟨rfl,rfl⟩
 | skip h _ ih=>
   intro gZ ν₂ y;cases y with
   | skip _ y=>exact ih y
   | emit h1 h2 _ _=>exact absurd h (not_or.mpr ⟨h1,h2⟩)
   | go h1 h2 _ _=>exact absurd h (not_or.mpr ⟨h1,h2⟩)
 | emit h1 h2 h3 _ ih=>
   intro gZ ν₂ y;cases y with
   | skip h _=>exact absurd h (not_or.mpr ⟨h1,h2⟩)
   | emit _ _ _ y=>obtain⟨rfl,rfl⟩:=ih y;exact⟨rfl,rfl⟩
   | go _ _ h0 _=>omega
 | go h1 h2 h3 _ ih=>
   intro gZ ν₂ y;cases y with
   | skip h _=>exact absurd h (not_or.mpr ⟨h1,h2⟩)
   | emit _ _ h0 _=>omega
   | go _ _ _ y=>exact ih y
theorem dL.mono (x:dL W dead S μ o ν):∀q,μ q->ν q:=by
 induction x with
 | nil μ=>exact fun y h=>h
 | skip _ _ ih=>exact ih
 | emit _ _ _ _ ih=>exact fun q h=>ih q (.inl h)
 | go _ _ _ _ ih=>exact fun q h=>ih q (.inl h)
theorem dL.split (x:dL W dead X μ o ν):∀ {A B:List dD},X=A++B->u5 (fun ja μ₁ gZ=>dL W dead A μ ja μ₁) (fun ja μ₁ gZ=>dL W dead B μ₁ gZ ν) (fun ja μ₁ gZ=>o=ja++gZ):=by
 induction x with
 | nil μ=>
   intro A B e;obtain⟨rfl,rfl⟩:=List.append_eq_nil_iff.mp e.symm;exact⟨[],μ,[],.nil μ,.nil μ,rfl⟩
 | @skip c S o μ ν h r ih=>
   intro A B e;cases A with
   | nil=>exact⟨[],μ,o,.nil μ,by rw[List.nil_append] at e;rw[<-e];exact .skip h r,rfl⟩
   | cons a A=>
     rw[List.cons_append] at e
     injection e with e1 e2
     subst e1;obtain⟨ja,μ₁,gZ,h1,h2,h3⟩:=ih e2;exact⟨ja,μ₁,gZ,.skip h h1,h2,h3⟩
 | @emit c S o μ ν h1 h2 h3 r ih=>
   intro A B e;cases A with
   | nil=>exact⟨[],μ,_,.nil μ,by rw[List.nil_append] at e;rw[<-e];exact .emit h1 h2 h3 r,rfl⟩
   | cons a A=>
     rw[List.cons_append] at e
     injection e with e1 e2
     subst e1;obtain⟨ja,μ₁,gZ,q1,q2,q3⟩:=ih e2;exact⟨_,μ₁,gZ,.emit h1 h2 h3 q1,q2,by rw[q3];rfl⟩
 | @go c S o μ ν h1 h2 h3 r ih=>
   intro A B e;cases A with
   | nil=>exact⟨[],μ,_,.nil μ,by rw[List.nil_append] at e;rw[<-e];exact .go h1 h2 h3 r,rfl⟩
   | cons a A=>
     rw[List.cons_append] at e
     injection e with e1 e2
     subst e1;obtain⟨ja,μ₁,gZ,q1,q2,q3⟩:=ih (A:=W c++A) (B:=B) (by rw[e2,aH])
     exact⟨_,μ₁,gZ,.go h1 h2 h3 q1,q2,q3⟩
theorem dL.join {A:List dD}{μ₁:KP}(x:dL W dead A μ ja μ₁):∀ {B gZ:List dD} {ν:KP},dL W dead B μ₁ gZ ν->dL W dead (A++B) μ (ja++gZ) ν:=by
 induction x with
 | nil μ=>exact fun y=>y
 | skip h _ ih=>exact fun y=>.skip h (ih y)
 | emit h1 h2 h3 _ ih=>exact fun y=>.emit h1 h2 h3 (ih y)
 | go h1 h2 h3 _ ih=>exact fun y=>.go h1 h2 h3 (by have:=ih y;rw[aH] at this;exact this)
theorem dL.met (x:dL W dead S μ o ν):∀c∈S,ν (kc c)\/dead (kc c):=by
 induction x with
 | nil μ=>simp
 | skip h r ih=>
   intro c hc;rcases a_ hc with rfl | hc
   ·exact h.imp (r.mono _) id
   ·exact ih c hc
 | emit h1 h2 h3 r ih=>
   intro c hc;rcases a_ hc with rfl | hc
   ·exact .inl (r.mono _ (.inr rfl))
   ·exact ih c hc
 | go h1 h2 h3 r ih=>
   intro c hc;rcases a_ hc with rfl | hc
   ·exact .inl (r.mono _ (.inr rfl))
   ·exact ih c (List.mem_append_right _ hc)
theorem dL.skips (x:dL W dead X μ o ν):∀ {A:List dD},(∀c∈A,μ (kc c)\/dead (kc c))->dL W dead (A++X) μ o ν
 | [],_=>x
 | c::A,h=>.skip (h c aK) (x.skips fun d hd=>h d (aP _ hd))
variable {is:List I}{text:List UInt8}{holds:List Int}
noncomputable def WN (text:List UInt8) (holds:List Int) (is:List I) (c:dD):List dD:=cQ text holds (gi is c.1) c.2.1 c.2.2
theorem yg:dK text holds (mZ is)=WN text holds is:=by
 funext c
 simp[dK,mZ,WN]
noncomputable def di (is:List I):KP:=fun q=>0≤q.1/\(gi is q.1).op=6
theorem qp {c:dD}(h:di is (kc c)):0≤c.1/\WN text holds is c=[]:=by obtain⟨h0,h6⟩:=h;have h6':(gi is c.1).op=6:=h6;exact⟨h0,by unfold WN cQ;rw[au (by lia),au (by lia),au (by lia),au (by lia),au (by lia)]⟩
noncomputable def xr (is:List I) (c:dD):dD:=(bh is c.1,c.2)
theorem rf {is:List I}(h:k<0):gi is k=gi is 0:=by unfold gi;rw[show k.toNat=0 by lia];rfl
theorem mi (w:ii is)(h:k<0):bh is k=k:=kO (by rw[rf h,w.first];decide)
theorem rg {f:I->I}(h0:0≤k)(h1:k<is.length):gi (is.map f) k=f (gi is k):=by
 have h2:=jo h0 h1;unfold gi;rw[List.getD,List.getElem?_map,h2]
 rfl
theorem yB (w:ii is){i:I}(hi:pS is.length i)(at_:Nat)(k:List Int):cQ text holds (dJ is i) at_ k=(cQ text holds i at_ k).map (xr is):=by
 unfold cQ;have e1:(dJ is i).op=i.op:=rfl;have e2:∀x,n5 (dJ is i) x=n5 i x:=fun y=>rfl;have e3:(dJ is i).low=i.low:=rfl;have e4:(dJ is i).high=i.high:=rfl;rw[e1,e3,e4,e2]
 by_cases h0:i.op=0
 ·rw[ap h0,ap h0]
  have a1:(dJ is i).out=bh is i.out:=by unfold dJ;simp[h0]
  have a2:(dJ is i).arg=bh is i.arg:=by unfold dJ;simp[h0]
  rw[a1,a2];rfl
 ·rw[au h0,au h0]
  have a2:(dJ is i).arg=i.arg:=by unfold dJ;simp[h0]
  rw[a2];have ho:i.op≠4->i.op≠6->(dJ is i).out=bh is i.out:=fun h4 h6=>by unfold dJ;simp[h4,h6]
  split
  ·rename_i h
   rw[ho (by lia) (by lia)];rfl
  ·split
   ·rename_i h;rw[ho (by lia) (by lia)];rfl
   ·split
    ·rename_i h
     have:=(hi.mat h).1
     show _=[(bh is (-1-i.arg),_,_)]
     rw[mi w (by lia)]
    ·split
     ·rename_i h;rw[ho (by lia) (by lia)];rfl
     ·rfl
end
end
section
variable {k e:Int}{c:dD}{T o:List dD}{μl:KP}{l at_:Nat}
section
variable {is:List I}{text:List UInt8}{holds:List Int}
inductive im (is:List I):Int->Int->Nat->Prop
 | stop {k:Int}:(gi is k).op≠5->im is k k 0
 | nop {k e:Int} {l:Nat}:(gi is k).op=5->im is (gi is k).out e l->im is k e (l+1)
theorem im.of (x:io is k e):∃l,im is k e l:=by
 induction x with
 | stop h=>exact⟨0,.stop h⟩
 | nop h _ ih=>obtain⟨l,y⟩:=ih;exact⟨l+1,.nop h y⟩
theorem im.to (x:im is k e l):io is k e:=by
 induction x with
 | stop h=>exact .stop h
 | nop h _ ih=>exact .nop h ih
theorem im.det {a b:Int}{m:Nat}(x:im is k a l):im is k b m->l=m:=by
 induction x generalizing m with
 | stop h=>intro y;cases y with
   | stop _=>rfl
   | nop h' _=>exact absurd h' h
 | nop h _ ih=>intro y;cases y with
   | stop h'=>exact absurd h h'
   | nop _ y=>rw[ih y]
structure Ab (is:List I) (μ ν:KP):Prop where
 a:∀q:jd,(gi is q.1).op≠5->¬di is q->(μ q↔ν q)
 b:∀q:jd,0≤q.1->q.1<is.length->(gi is q.1).op=5->μ q->di is (bh is q.1,q.2)\/ν (bh is q.1,q.2)
noncomputable def Es (is:List I) (c:dD):Prop:=c.1<0\/(0≤c.1/\c.1<is.length)
theorem BU (w:ii is)(h0:0≤c.1)(h1:c.1<is.length):∀c'∈WN text holds is c,Es is c':=by
 intro c' hc;have wf:=w.at h0 h1;unfold WN cQ at hc
 split at hc
 ·rename_i q
  rcases a_ hc with rfl | hc
  ·exact .inr (wf.out (by lia) (by lia))
  ·rw[aB hc];exact .inr (wf.alt q)
 ·split at hc
  ·rw[aB hc];exact .inr (wf.out (by lia) (by lia))
  ·split at hc
   ·rw[aB hc];exact .inr (wf.out (by lia) (by lia))
   ·split at hc
    ·rename_i q
     have:=(wf.mat q).1;rw[aB hc];exact .inl (by show-1- (gi is c.1).arg<0;lia)
    ·split at hc
     ·rw[aB hc];exact .inr (wf.out (by lia) (by lia))
     ·simp at hc
theorem yf (h5:(gi is c.1).op=5):WN text holds is c=[((gi is c.1).out,c.2)]:=by unfold WN cQ;rw[au (by lia),ap (.inl h5)]
open Classical in
noncomputable def rW (is:List I) (μ:KP) (at_:Nat):Nat:=((List.range is.length).filter fun(k:Nat)=>decide (¬μ ((k:Int),at_))).length
open Classical in
theorem wz {μ:KP}(h0:0≤k)(h1:k<is.length)(hk:¬μ (k,at_)):rW is (dm μ (k,at_)) at_<rW is μ at_:=by
 unfold rW
 have key:∀l:List Nat,l.Nodup->k.toNat∈l->(l.filter fun(j:Nat)=>decide (¬dm μ (k,at_) ((j:Int),at_))).length< (l.filter fun(j:Nat)=>decide (¬μ ((j:Int),at_))).length:=by
  intro l
  induction l with
  | nil=>intro _ h;simp at h
  | cons a l ih=>
    intro nd h;rw[List.nodup_cons] at nd
    have le:∀l:List Nat,(l.filter fun(j:Nat)=>decide (¬dm μ (k,at_) ((j:Int),at_))).length≤(l.filter fun(j:Nat)=>decide (¬μ ((j:Int),at_))).length:=by
     intro l
     induction l with
     | nil=>simp
     | cons b l ih=>
       rw[List.filter_cons,List.filter_cons]
       by_cases q:μ ((b:Int),at_)
       ·have q':dm μ (k,at_) ((b:Int),at_):=.inl q
        simp only[q,q',not_true_eq_false,decide_false];exact ih
       ·by_cases q':dm μ (k,at_) ((b:Int),at_)
        ·simp only[q,q',not_true_eq_false,not_false_eq_true,decide_false,decide_true,if_true,List.length_cons]
         exact Nat.le_succ_of_le ih
        ·simp only[q,q',not_false_eq_true,decide_true,if_true,List.length_cons]
         exact Nat.succ_le_succ ih
    rw[List.filter_cons,List.filter_cons]
    by_cases e:(a:Int)=k
    ·have q1:dm μ (k,at_) ((a:Int),at_):=.inr (by rw[e])
     have q2:¬μ ((a:Int),at_):=by rw[e];exact hk
     simp only[q1,q2,not_true_eq_false,not_false_eq_true,decide_false,decide_true,if_true,List.length_cons];exact Nat.lt_succ_of_le (le l)
    ·have hin:k.toNat∈l:=by
      rcases a_ h with z | z
      ·lia
      ·exact z
     have ih':=ih nd.2 hin
     have q1:dm μ (k,at_) ((a:Int),at_)↔μ ((a:Int),at_):=by
      unfold dm
      constructor
      ·rintro(z | z)
       ·exact z
       ·exact absurd (ag Prod.fst z) e
      ·exact .inl
     by_cases q:μ ((a:Int),at_)
     ·simp only[q1,q,not_true_eq_false,decide_false];exact ih'
     ·simp only[q1,q,not_false_eq_true,decide_true,if_true,List.length_cons]
      exact Nat.succ_lt_succ ih'
 exact key _ List.nodup_range (by rw[List.mem_range];lia)
theorem CF (w:ii is):∀ (n:Nat) (c:dD) (μ:KP),rW is μ c.2.1<n->Es is c->(di is (bh is c.1,c.2.1)\/μl (bh is c.1,c.2.1))->Ab is μ μl->
 (∀μ',Ab is μ' μl->∃ν,dL (WN text holds is) (di is) T μ' o ν)->∃ν,dL (WN text holds is) (di is) (c::T) μ o ν:=by
 intro n
 induction n with
 | zero=>
   intro _ _ hn _ _ _ _;exact absurd hn (Nat.not_lt_zero _)
 | succ n ih=>
   intro c μ hn v he R k
   by_cases h5:(gi is c.1).op=5
   ·have v':0≤c.1/\c.1<is.length:=by
     rcases v with v | v
     ·rw[rf v,w.first] at h5;simp at h5
     ·exact v
    by_cases hm:μ (kc c)
    ·obtain⟨ν,r⟩:=k μ R
     exact⟨ν,.skip (.inl hm) r⟩
    ·have ho:=(w.at v'.1 v'.2).out (by lia) (by lia)
     have he':=he;rw[jR h5] at he
     have R':Ab is (dm μ (kc c)) μl:=⟨fun q h hd=>by
      unfold dm;rw[<-R.a q h hd];exact⟨fun z=>z.elim id fun e=>absurd h5 (by rw[show c.1=q.1 by rw[e];rfl];exact h),.inl⟩,fun q h0 h1 h z=>by
      rcases z with z | e
      ·exact R.b q h0 h1 h z
      ·rw[e];exact he'⟩
     obtain⟨ν,r⟩:=ih ((gi is c.1).out,c.2) (dm μ (kc c)) (by
      have:=wz (is:=is) (μ:=μ) (at_:=c.2.1) v'.1 v'.2 hm
      show rW is (dm μ (c.1,c.2.1)) c.2.1<n
      lia) (.inr ho) he R' k
     refine⟨ν,.go hm (fun z=>by have:=z.2;rw[show(kc c).1=c.1 from rfl,h5] at this;simp at this) v'.1 ?_⟩
     rw[yf h5];exact r
   ·rw[kO h5] at he
    obtain⟨ν,r⟩:=k μ R
    by_cases hd:di is (kc c)
    ·exact⟨ν,.skip (.inr hd) r⟩
    ·exact⟨ν,.skip (.inl ((R.a _ h5 hd).mpr (he.resolve_left hd))) r⟩
theorem CE (w:ii is){kk:List Int}(hdead:¬di is (e,at_))(hmet:¬μl (e,at_)):
 ∀ (l:Nat) (n:Int) (μ:KP),im is n e l->0≤n->n<is.length->(∀q:jd,(gi is q.1).op≠5->¬di is q->(μ q↔μl q))->
   (∀q:jd,0≤q.1->q.1<is.length->(gi is q.1).op=5->μ q->di is (bh is q.1,q.2)\/μl (bh is q.1,q.2)\/(bh is q.1,q.2)=(e,at_))->
   (∀q l',l'≤l->im is q e l'->¬μ (q,at_))->
   (∀μ',(∀q:jd,(gi is q.1).op≠5->¬di is q->(μ' q↔μl q))->
    (∀q:jd,0≤q.1->q.1<is.length->(gi is q.1).op=5->μ' q->di is (bh is q.1,q.2)\/μl (bh is q.1,q.2)\/(bh is q.1,q.2)=(e,at_))->¬μ' (e,at_)->
    ∃ν,dL (WN text holds is) (di is) ((e,at_,kk)::T) μ' o ν)->
   ∃ν,dL (WN text holds is) (di is) ((n,at_,kk)::T) μ o ν:=by
 intro l
 induction l with
 | zero=>
   intro n μ x n0 n1 ha hb hc k;cases x with
   | stop h=>exact k μ ha hb (hc e 0 (Nat.le_refl _) (.stop h))
 | succ l ih=>
   intro n μ x n0 n1 ha hb hc k;have x':=x;cases x with
   | nop h5 y=>
     have ho:=(w.at n0 n1).out (by lia) (by lia)
     have hm:=hc n (l+1) (Nat.le_refl _) x';have hend:bh is n=e:=gn x'.to
     obtain⟨ν,r⟩:=ih (gi is n).out (dm μ (n,at_)) y ho.1 ho.2 (fun q h hd=>by
      unfold dm;rw[<-ha q h hd];exact⟨fun z=>z.elim id fun e=>absurd h5 (by rw[show n=q.1 by rw[e]];exact h),.inl⟩)
      (fun q h0 h1 h z=>by
       rcases z with z | z
       ·exact hb q h0 h1 h z
       ·rw[z];exact .inr (.inr (by rw[hend])))
      (fun q l' hl hq z=>by
       rcases z with z | z
       ·exact hc q l' (by lia) hq z
       ·have:q=n:=ag Prod.fst z
        rw[this] at hq;have:=hq.det x'
        lia) k
     refine⟨ν,.go hm (fun z=>by have:=z.2;rw[show(kc ((n,at_,kk):dD)).1=n from rfl,h5] at this;simp at this) n0 ?_⟩
     rw[yf h5];exact r
theorem xz (w:ii is){νl:KP}(x:dL (WN text holds (is.map (dJ is))) (di is) T μl o νl):
 ∀ (Tp:List dD) (μ:KP),T=Tp.map (xr is)->(∀c∈Tp,Es is c)->Ab is μ μl->∃ν,dL (WN text holds is) (di is) Tp μ o ν:=by
 have hWN:∀c:dD,0≤c.1->c.1<is.length->WN text holds (is.map (dJ is)) c=(WN text holds is c).map (xr is):=fun c h0 h1=>by unfold WN;rw[rg h0 h1,yB w (w.at h0 h1)]
 induction x with
 | nil μl=>
   intro Tp μ e v R;have:Tp=[]:=by simpa using e.symm
   subst this;exact⟨μ,.nil μ⟩
 | @skip c S o μl νl h r ih=>
   intro Tp μ e v R;cases Tp with
   | nil=>simp at e
   | cons c' Tp=>
     rw[List.map_cons] at e
     injection e with e1 e2
     subst e1;exact CF w _ c' μ (Nat.lt_succ_self _) (v c' aK) (h.symm) R fun μ' R'=>ih Tp μ' e2 (fun d hd=>v d (aP _ hd)) R'
 | @emit c S o μl νl h1 h2 h3 r ih=>
   intro Tp μ e v R;cases Tp with
   | nil=>simp at e
   | cons c' Tp=>
     rw[List.map_cons] at e
     injection e with e1 e2
     subst e1
     have hneg:c'.1<0:=by
      rcases v c' aK with q | q
      ·exact q
      ·have:=(d8 w q.1 q.2).1
       have h3':bh is c'.1<0:=h3
       lia
     have he:xr is c'=c':=by unfold xr;rw[mi w hneg]
     rw[he] at h1 h2 r ih⊢;have h5:(gi is (kc c').1).op≠5:=by rw[show(kc c').1=c'.1 from rfl,rf hneg,w.first];decide
     obtain⟨ν,r'⟩:=ih Tp (dm μ (kc c')) e2 (fun d hd=>v d (aP _ hd)) ⟨fun q hq hd=>by unfold dm;rw[R.a q hq hd],fun q q0 q1 q5 z=>by
      rcases z with z | z
      ·exact(R.b q q0 q1 q5 z).imp id .inl
      ·exact absurd q5 (by rw[z];exact h5)⟩
     exact⟨ν,.emit (fun z=>h1 ((R.a _ h5 h2).mp z)) h2 hneg r'⟩
 | @go c S o μl νl h1 h2 h3 r ih=>
   intro Tp μ e v R;cases Tp with
   | nil=>simp at e
   | cons c' Tp=>
     rw[List.map_cons] at e
     injection e with e1 e2
     subst e1
     have hp:0≤c'.1/\c'.1<is.length:=by
      rcases v c' aK with q | q
      ·have h3':0≤bh is c'.1:=h3
       rw[mi w q] at h3';lia
      ·exact q
     have her:=d8 w hp.1 hp.2
     have hend:io is c'.1 (bh is c'.1):=by
      by_cases z:∃q,io is c'.1 q
      ·obtain⟨q,z⟩:=z
       rw[gn z];exact z
      ·exfalso
       have:bh is c'.1=0:=gp z;exact h2 ⟨h3,by show(gi is (bh is c'.1)).op=6;rw[this,w.first]⟩
     obtain⟨l,hl⟩:=im.of hend;have h1':¬μl (bh is c'.1,c'.2.1):=h1;have h2':¬di is (bh is c'.1,c'.2.1):=h2;refine CE (T:=Tp) (kk:=c'.2.2) w h2' h1' l c'.1 μ hl hp.1 hp.2 R.a (fun q q0 q1 q5 z=>(R.b q q0 q1 q5 z).imp id .inl) (fun q l' hl' hq z=> ?_) fun μ' ha hb hn=> ?_
     ·by_cases q5:(gi is q).op=5
      ·have hq0:0≤q/\q<is.length:=by
        by_cases q0:q<0
        ·rw[rf q0,w.first] at q5;simp at q5
        ·refine⟨by lia,?_⟩
         by_cases ql:q<is.length
         ·exact ql
         ·exfalso
          have:gi is q=⟨0,0,0,0,0,false,false⟩:=by unfold gi;rw[List.getD,List.getElem?_eq_none (by lia)];rfl
          rw[this] at q5;exact absurd q5 (by decide)
       have:=R.b (q,c'.2.1) hq0.1 hq0.2 q5 z;rw[gn hq.to] at this;exact this.elim h2' h1'
      ·have:q=bh is c'.1:=by
        cases hq with
        | stop _=>rfl
        | nop h _=>exact absurd h q5
       rw[this] at z;exact h1' ((R.a _ her.2.2 h2').mp z)
     ·obtain⟨ν,r'⟩:=ih (WN text holds is (bh is c'.1,c'.2)++Tp) (dm μ' (bh is c'.1,c'.2.1)) (by
       rw[List.map_append,<-e2]
       congr 1
       exact hWN (bh is c'.1,c'.2) her.1 her.2.1) (fun d hd=>by
       rcases ba hd with hd | hd
       ·exact BU w (c:=(bh is c'.1,c'.2)) her.1 her.2.1 d hd
       ·exact v d (aP _ hd)) ⟨fun q hq hd=>by
       show(μ' q\/q=_)↔(_\/q=_)
       rw[ha q hq hd];rfl,fun q q0 q1 q5 z=>by
       rcases z with z | z
       ·rcases hb q q0 q1 q5 z with y | y | y
        ·exact .inl y
        ·exact .inr (.inl y)
        ·exact .inr (.inr y)
       ·exact absurd q5 (by rw[z];exact her.2.2)⟩
      exact⟨ν,.go hn h2' her.1 r'⟩
end
end
section
variable {x r:Int}{c:dD}{at_:Nat}{i:I}
section
variable {is:List I}{text:List UInt8}{holds:List Int}
structure jX (is:List I) (R:List Int) (ow:List (Int×Int)):Prop where
 w:ii is
 nd:(ow.map (·.1)).Nodup
 rr:∀r∈R,0≤r/\r<is.length
 orr:∀q∈ow,0≤q.1/\q.1<is.length
 onot:∀q∈ow,q.1∉R
 oroot:∀q∈ow,q.2∈R
 oway:∀q∈ow,∀v∈ways (gi is q.1),v∈R\/(v,q.2)∈ow
 rway:∀r∈R,∀v∈ways (gi is r),v∈R\/(v,r)∈ow
 step:∀x,(x∈R\/∃r,(x,r)∈ow)->(gi is x).op=1\/(gi is x).op=2\/(gi is x).op=3->(gi is x).out∈R
variable {R:List Int}{ow:List (Int×Int)}
theorem jX.uniq (X:jX is R ow){a b:Int}(h1:(x,a)∈ow)(h2:(x,b)∈ow):a=b:=by
 have nd:=X.nd
 clear X
 induction ow with
 | nil=>simp at h1
 | cons q ow ih=>
   rw[List.map_cons,List.nodup_cons] at nd;rcases a_ h1 with e1 | h1'
   ·rcases a_ h2 with e2 | h2'
    ·rw[<-e1] at e2;exact(ag Prod.snd e2).symm
    ·exact absurd (List.mem_map.mpr ⟨_,h2',by rw[<-e1]⟩) nd.1
   ·rcases a_ h2 with e2 | h2'
    ·exact absurd (List.mem_map.mpr ⟨_,h1',by rw[<-e2]⟩) nd.1
    ·exact ih h1' h2' nd.2
noncomputable def Kn (R:List Int) (ow:List (Int×Int)) (x:Int):Prop:=x∈R\/∃r,(x,r)∈ow
theorem jX.kr (X:jX is R ow)(h:Kn R ow x):0≤x/\x<is.length:=by
 rcases h with h | ⟨r,h⟩
 ·exact X.rr x h
 ·exact X.orr _ h
theorem jX.next (X:jX is R ow)(hk:Kn R ow c.1):∀c'∈WN text holds is c,c'.1<0\/c'.1∈R\/(c'.2.1=c.2.1/\c'.1∈ways (gi is c.1)):=by
 intro c' hc;have wf:=X.w.at (X.kr hk).1 (X.kr hk).2;unfold WN cQ at hc
 split at hc
 ·rename_i q
  refine .inr (.inr ?_);unfold ways;rw[ap q];rcases a_ hc with rfl | hc
  ·simp
  ·rw[aB hc];simp
 ·rename_i q0
  split at hc
  ·rename_i q
   rw[aB hc];rcases q with q | q
   ·refine .inr (.inr ⟨rfl,?_⟩)
    unfold ways;rw[au q0,ap q];simp
   ·exact .inr (.inl (X.step _ hk (.inr (.inr q.1))))
  ·split at hc
   ·rename_i q
    rw[aB hc];exact .inr (.inl (X.step _ hk (.inr (.inl q))))
   ·split at hc
    ·rename_i q
     have:=(wf.mat q).1;rw[aB hc];exact .inl (by show-1- (gi is c.1).arg<0;omega)
    ·split at hc
     ·rename_i q
      rw[aB hc];exact .inr (.inl (X.step _ hk (.inl q.1)))
     ·simp at hc
theorem jX.wayK (X:jX is R ow){v:Int}(hk:Kn R ow x)(hv:v∈ways (gi is x)):Kn R ow v:=by
 rcases hk with h | ⟨r,h⟩
 ·exact(X.rway x h v hv).imp id fun z=>⟨x,z⟩
 ·exact(X.oway _ h v hv).imp id fun z=>⟨r,z⟩
theorem jX.nextK (X:jX is R ow)(hk:Kn R ow c.1):∀c'∈WN text holds is c,c'.1<0\/Kn R ow c'.1:=fun c' hc=>
 (X.next hk c' hc).imp id fun z=>z.elim .inl fun y=>X.wayK hk y.2
noncomputable def Zo (ow:List (Int×Int)) (r:Int) (at_:Nat):KP:=fun q=>q.2=at_/\(q.1,r)∈ow
theorem jX.nextZ (X:jX is R ow)(hk:Kn R ow c.1)(hz:¬Zo ow r at_ (kc c))(hb:kc c≠(r,at_)):∀c'∈WN text holds is c,¬Zo ow r at_ (kc c'):=by
 intro c' hc ⟨h1,h2⟩;have h1:c'.2.1=at_:=h1;have h2:(c'.1,r)∈ow:=h2;rcases X.next hk c' hc with q | q | ⟨q1,q2⟩
 ·have:=(X.orr _ h2).1;simp at this;lia
 ·exact X.onot _ h2 q
 ·rcases hk with h | ⟨r',h⟩
  ·rcases X.rway c.1 h c'.1 q2 with y | y
   ·exact X.onot _ h2 y
   ·have:=X.uniq h2 y
    exact hb (by show(c.1,c.2.1)=_;rw[<-this,<-q1,h1])
  ·rcases X.oway _ h c'.1 q2 with y | y
   ·exact X.onot _ h2 y
   ·have:=X.uniq h2 y
    exact hz ⟨by show c.2.1=_;rw[<-q1,h1],by show(c.1,r)∈ow;rw[this];exact h⟩
theorem frame (X:jX is R ow){V:KP}(hV:∀q,V q->Zo ow r at_ q\/q=(r,at_)){A o:List dD}{ρ ν:KP}(x:dL (WN text holds is) (di is) A ρ o ν):
 ∀μ:KP,ρ=vr μ V->μ (r,at_)->(∀c∈A,c.1<0\/Kn R ow c.1)->(∀c∈A,¬Zo ow r at_ (kc c))->
  ta (fun μ₁=>dL (WN text holds is) (di is) A μ o μ₁) (fun μ₁=>ν=vr μ₁ V) (fun μ₁=>∀q,Zo ow r at_ q->(μ₁ q↔μ q)):=by
 have com:∀ (μ:KP) (q:jd),dm (vr μ V) q=vr (dm μ q) V:=fun μ q=>by
  funext p
  apply propext;unfold dm vr
  constructor
  ·rintro((h | h) | h)
   ·exact .inl (.inl h)
   ·exact .inr h
   ·exact .inl (.inr h)
  ·rintro((h | h) | h)
   ·exact .inl (.inl h)
   ·exact .inr h
   ·exact .inl (.inr h)
 induction x with
 | nil ρ=>exact fun μ e w w w=>⟨μ,.nil μ,e,fun w w=>Iff.rfl⟩
 | @skip c S o ρ ν h _ ih=>
   intro μ e hb hk hz;obtain⟨μ₁,h1,h2,h3⟩:=ih μ e hb (fun d hd=>hk d (aP _ hd)) fun d hd=>hz d (aP _ hd);refine⟨μ₁,.skip ?_ h1,h2,h3⟩;rcases h with h | h
   ·rw[e] at h
    rcases h with h | h
    ·exact .inl h
    ·rcases hV _ h with z | z
     ·exact absurd z (hz c aK)
     ·rw[z];exact .inl hb
   ·exact .inr h
 | @emit c S o ρ ν h1 h2 h3 _ ih=>
   intro μ e hb hk hz;obtain⟨μ₁,q1,q2,q3⟩:=ih (dm μ (kc c)) (by rw[e,com]) (.inl hb) (fun d hd=>hk d (aP _ hd)) fun d hd=>hz d (aP _ hd)
   refine⟨μ₁,.emit (fun z=>h1 (by rw[e];exact .inl z)) h2 h3 q1,q2,fun q hq=> ?_⟩
   rw[q3 q hq];exact⟨fun z=>z.elim id fun y=>absurd (y▸hq) (hz c aK),.inl⟩
 | @go c S o ρ ν h1 h2 h3 _ ih=>
   intro μ e hb hk hz;have hkc:Kn R ow c.1:=(hk c aK).resolve_left (by lia)
   have hzc:=hz c aK;have hbc:kc c≠(r,at_):=fun z=>h1 (by rw[e,z];exact .inl hb)
   obtain⟨μ₁,q1,q2,q3⟩:=ih (dm μ (kc c)) (by rw[e,com]) (.inl hb) (fun d hd=>by
    rcases ba hd with hd | hd
    ·exact X.nextK hkc d hd
    ·exact hk d (aP _ hd)) fun d hd=>by
    rcases ba hd with hd | hd
    ·exact X.nextZ hkc hzc hbc d hd
    ·exact hz d (aP _ hd)
   refine⟨μ₁,.go (fun z=>h1 (by rw[e];exact .inl z)) h2 h3 q1,q2,fun q hq=> ?_⟩
   rw[q3 q hq];exact⟨fun z=>z.elim id fun y=>absurd (y▸hq) hzc,.inl⟩
theorem ud {j:I}(h:de i=de j)(at_:Nat)(k:List Int):cQ text holds i at_ k=cQ text holds j at_ k:=by
 obtain⟨a1,a2,a3,a4,a5,a6,a7⟩:=i;obtain⟨b1,b2,b3,b4,b5,b6,b7⟩:=j;simp[de] at h;obtain⟨rfl,rfl,rfl,rfl,rfl,h6⟩:=h
 have:a6=b6:=by cases a6<;>cases b6<;>simp at h6<;>rfl
 subst this
 rfl
theorem rR (i:I)(at_:Nat)(k:List Int):cQ text holds (fj i) at_ k=cQ text holds i at_ k:=by
 unfold cQ fj
 by_cases h4:i.op=4
 ·simp[h4]
 ·simp only[h4,if_false]
  rfl
theorem kU (x:Int)(at_:Nat)(k:List Int):cQ text holds (l6 x) at_ k=[(x,at_,k)]:=by
 unfold cQ l6
 rfl
theorem wr (h:i.op=0\/i.op=5)(at_:Nat)(k:List Int):cQ text holds i at_ k=(ways i).map fun v=>(v,at_,k):=by
 unfold cQ ways;rcases h with h | h
 ·rw[ap h,ap h];rfl
 ·rw[au (by lia),ap (.inl h),au (by lia),ap h];rfl
noncomputable def Vr (ow:List (Int×Int)) (r:Int) (at_:Nat) (M:List Int):KP:=fun q=>q.2=at_/\q.1∈M/\(q.1=r\/(q.1,r)∈ow)
theorem ee.sub {S M M':List Int}{G G':List (Int×I)}(x:ee is R r S M G M' G'):(∀y∈M,y∈M')/\∃N,G'=G++N:=by
 have ad:∀ (G:List (Int×I)) (k:Int) (i:I),∃N,iO G k i=G++N:=fun G k i=>by
  unfold iO;split
  ·exact⟨[],by simp⟩
  ·exact⟨[(k,i)],rfl⟩
 induction x with
 | nil M G=>exact⟨fun z h=>h,[],by simp⟩
 | skip _ _ ih=>exact ih
 | @root k S M M' G G' _ _ _ _ _ ih=>
   obtain⟨N1,e1⟩:=ad G k (l6 k);obtain⟨h1,N2,e2⟩:=ih;exact⟨fun y hy=>h1 y (List.mem_append_left _ hy),N1++N2,by rw[e2,e1,aH]⟩
 | alt _ _ _ _ _ ih=>exact⟨fun y hy=>ih.1 y (List.mem_append_left _ hy),ih.2⟩
 | @leaf k S M M' G G' _ _ _ _ _ _ ih=>
   obtain⟨N1,e1⟩:=ad G k (fj (gi is k));obtain⟨h1,N2,e2⟩:=ih;exact⟨fun y hy=>h1 y (List.mem_append_left _ hy),N1++N2,by rw[e2,e1,aH]⟩
end
end
section
variable {is:List I}{text:List UInt8}{holds:List Int}{R:List Int}{ow:List (Int×Int)}
theorem uU (G:List (Int×I))(k:Int)(i:I):(de i∈G.map (fun q=>de q.2)/\iO G k i=G)\/iO G k i=G++[(k,i)]:=by
 unfold iO
 split
 ·rename_i h;exact .inl ⟨h,rfl⟩
 ·exact .inr rfl
noncomputable def Et (is:List I) (R:List Int) (ow:List (Int×Int)) (text:List UInt8) (holds:List Int) (r:Int) (at_:Nat) (k:List Int) (S M:List Int) (G:List (Int×I)) (M':List Int) (G':List (Int×I)):Prop:=
 ∀N:List (Int×I),G'=G++N->(∀y∈S,y∈R\/(y,r)∈ow)->(∀y∈M,(gi is y).op≠6)->(r∈M\/(S=[r]/\M=[]))->∀μ:KP,
  (∀y,(y=r\/(y,r)∈ow)->(gi is y).op≠6->(μ (y,at_)↔y∈M))->(∀y∈M,y∈R->μ (y,at_))->(∀q∈G,∀c∈cQ text holds q.2 at_ k,μ (kc c)\/di is (kc c))->
  ∀ (T o:List dD) (ν:KP),dL (WN text holds is) (di is) (N.flatMap (fun q=>cQ text holds q.2 at_ k)++T) (vr μ (Vr ow r at_ M')) o ν->
    ∃ν',dL (WN text holds is) (di is) (S.map (fun y=>(y,at_,k))++T) μ o ν'
theorem Fe (X:jX is R ow){r:Int}(hr:r∈R){at_:Nat}{k:List Int}{S M M':List Int}{G G':List (Int×I)}(x:ee is R r S M G M' G'):Et is R ow text holds r at_ k S M G M' G':=by
 have hV:∀M q,Vr ow r at_ M q->Zo ow r at_ q\/q=(r,at_):=fun M q h=>by
  rcases h.2.2 with z | z
  ·exact .inr (by rw[<-z,<-h.1])
  ·exact .inl ⟨h.1,z⟩
 induction x with
 | nil M G=>
   intro N hN hS hM6 hr0 μ h1 h2 h3 T o ν run;have hN':N=[]:=by simpa using hN
   subst hN'
   have:vr μ (Vr ow r at_ M)=μ:=by
    funext q
    apply propext
    constructor
    ·rintro(z | z)
     ·exact z
     ·have:=(h1 q.1 z.2.2 (hM6 _ z.2.1)).mpr z.2.1
      rw[<-z.1] at this;exact this
    ·exact .inl
   rw[this] at run;exact⟨ν,run⟩
 | @skip y S M M' G G' hk x' ih=>
   intro N hN hS hM6 hr0 μ h1 h2 h3 T o ν run;have hy:=hS y aK;have hkn:Kn R ow y:=hy.imp id fun z=>⟨r,z⟩
   by_cases hm:y∈M
   ·have hrM:r∈M:=hr0.elim id fun z=>by rw[z.2] at hm;simp at hm
    obtain⟨ν',run'⟩:=ih N hN (fun z hz=>hS z (aP _ hz)) hM6 (.inl hrM) μ h1 h2 h3 T o ν run;refine⟨ν',.skip (.inl ?_) run'⟩;rcases hy with z | z
    ·exact h2 y hm z
    ·exact(h1 y (.inr z) (hM6 y hm)).mpr hm
   ·have h6:=hk.resolve_left hm
    by_cases hrM:r∈M
    ·obtain⟨ν',run'⟩:=ih N hN (fun z hz=>hS z (aP _ hz)) hM6 (.inl hrM) μ h1 h2 h3 T o ν run
     exact⟨ν',.skip (.inr ⟨(X.kr hkn).1,h6⟩) run'⟩
    ·obtain⟨z1,z2⟩:=hr0.resolve_left hrM
     have hS':S=[]:=by simpa using (List.cons.inj z1).2
     subst hS';subst z2;cases x';have hN':N=[]:=by simpa using hN
     subst hN'
     have:vr μ (Vr ow r at_ [])=μ:=by
      funext q
      apply propext;exact⟨fun z=>z.elim id fun z=>by have:=z.2.1;simp at this,.inl⟩
     rw[this] at run;exact⟨ν,.skip (.inr ⟨(X.kr hkn).1,h6⟩) run⟩
 | @root y S M M' G G' hm h6 hyr hyR x' ih=>
   intro N hN hS hM6 hr0 μ h1 h2 h3 T o ν run;have hrM:r∈M:=hr0.elim id fun z=>absurd (List.cons.inj z.1).1 hyr;have hb:μ (r,at_):=h2 r hrM hr;have hno:¬ (y,r)∈ow:=fun z=>X.onot _ z hyR;have hS':∀z∈S,z∈R\/(z,r)∈ow:=fun z hz=>hS z (aP _ hz)
   have hM6':∀z∈M++[y],(gi is z).op≠6:=fun z hz=>by
    rcases ba hz with hz | hz
    ·exact hM6 z hz
    ·rw[aB hz];exact h6
   have memM:∀z,(z=r\/(z,r)∈ow)->(z∈M++[y]↔z∈M):=fun z hz=>by
    rw[List.mem_append,List.mem_singleton]
    exact⟨fun q=>q.elim id fun e=>by
     rcases hz with e' | e'
     ·exact absurd (e.symm.trans e') hyr
     ·exact absurd (e▸e') hno,.inl⟩
   rcases uU G y (l6 y) with⟨hdup,he⟩ | he
   ·rw[he] at ih x'
    rw[List.mem_map] at hdup;obtain⟨q,hq,hqk⟩:=hdup;have hmet:=h3 q hq (y,at_,k) (by rw[ud hqk,kU];simp)
    have hmu:μ (y,at_):=hmet.resolve_right fun z=>h6 z.2
    obtain⟨ν',run'⟩:=ih N hN hS' hM6' (.inl (List.mem_append_left _ hrM)) μ (fun z hz z6=>by rw[memM z hz];exact h1 z hz z6) (fun z hz zR=>by
     rcases ba hz with hz | hz
     ·exact h2 z hz zR
     ·rw[aB hz];exact hmu) h3 T o ν run
    exact⟨ν',.skip (.inl hmu) run'⟩
   ·rw[he] at ih x'
    obtain⟨_,N1,hN1⟩:=x'.sub
    have hNN:N=(y,l6 y)::N1:=by
     rw[hN1,aH] at hN;have:=List.append_cancel_left hN
     simpa using this.symm
    rw[hNN,List.flatMap_cons,kU,aH] at run;obtain⟨o1,ρ1,o2,r1,r2,eo⟩:=run.split rfl
    obtain⟨μ1,q1,q2,q3⟩:=frame X (hV M') r1 μ rfl hb (fun c hc=>by rw[aB hc];exact .inr (.inl hyR)) (fun c hc=>by rw[aB hc];exact fun z=>hno z.2)
    have hmono:=q1.mono;have hmet:μ1 (y,at_):=(q1.met (y,at_,k) (by simp)).resolve_right fun z=>h6 z.2
    rw[q2] at r2
    obtain⟨ν',run'⟩:=ih N1 (by rw[hN1]) hS' hM6' (.inl (List.mem_append_left _ hrM)) μ1 (fun z hz z6=>by
     rw[memM z hz];rcases hz with e | e
     ·rw[e];exact⟨fun w=>hrM,fun w=>hmono _ hb⟩
     ·rw[q3 (z,at_) ⟨rfl,e⟩];exact h1 z (.inr e) z6) (fun z hz zR=>by
     rcases ba hz with hz | hz
     ·exact hmono _ (h2 z hz zR)
     ·rw[aB hz];exact hmet) (fun q hq c hc=>by
     rcases ba hq with hq | hq
     ·exact(h3 q hq c hc).imp (hmono _) id
     ·rw[aB hq,kU] at hc
      rw[aB hc];exact .inl hmet) T o2 ν r2
    refine⟨ν',?_⟩;rw[eo];have:=q1.join run'
    simpa using this
 | @alt y S M M' G G' hm h6 hyr ho x' ih=>
   intro N hN hS hM6 hr0 μ h1 h2 h3 T o ν run;have hy:y=r\/(y,r)∈ow:=hyr.imp id fun z=>(hS y aK).resolve_left z;have hkn:Kn R ow y:=(hS y aK).imp id fun z=>⟨r,z⟩;have hmu:¬μ (y,at_):=fun z=>hm ((h1 y hy h6).mp z)
   have hrM':r∈M++[y]:=by
    rcases hr0 with z | z
    ·exact List.mem_append_left _ z
    ·rw[(List.cons.inj z.1).1];simp
   have hyM':y∈M':=x'.sub.1 y (by simp)
   have hVy:Vr ow r at_ M' (y,at_):=⟨rfl,hyM',hy⟩
   have e:vr (dm μ (y,at_)) (Vr ow r at_ M')=vr μ (Vr ow r at_ M'):=by
    funext q
    apply propext
    constructor
    ·rintro((z | z) | z)
     ·exact .inl z
     ·rw[z];exact .inr hVy
     ·exact .inr z
    ·rintro(z | z)
     ·exact .inl (.inl z)
     ·exact .inr z
   rw[<-e] at run
   obtain⟨ν',run'⟩:=ih N hN (fun z hz=>by
    rcases ba hz with hz | hz
    ·rcases hy with q | q
     ·rw[q] at hz;exact X.rway r hr z hz
     ·exact X.oway _ q z hz
    ·exact hS z (aP _ hz)) (fun z hz=>by
    rcases ba hz with hz | hz
    ·exact hM6 z hz
    ·rw[aB hz];exact h6) (.inl hrM') (dm μ (y,at_)) (fun z hz z6=>by
    rw[List.mem_append,List.mem_singleton];unfold dm;rw[h1 z hz z6];exact⟨fun q=>q.imp id fun q=>ag Prod.fst q,fun q=>q.imp id fun q=>by rw[q]⟩) (fun z hz zR=>by
    rcases ba hz with hz | hz
    ·exact .inl (h2 z hz zR)
    ·rw[aB hz];exact .inr rfl) (fun q hq c hc=>(h3 q hq c hc).imp .inl id) T o ν run
   refine⟨ν',.go hmu (fun z=>h6 z.2) (X.kr hkn).1 ?_⟩;have hw:WN text holds is (y,at_,k)=(ways (gi is y)).map fun v=>(v,at_,k):=wr ho at_ k;rw[hw];have e2:(ways (gi is y)++S).map (fun y=>((y,at_,k):dD))++T=(ways (gi is y)).map (fun v=>(v,at_,k))++(S.map (fun y=>(y,at_,k))++T):=by simp
   rw[e2] at run';exact run'
 | @leaf y S M M' G G' hm h6 hyr h0 h5 x' ih=>
   intro N hN hS hM6 hr0 μ h1 h2 h3 T o ν run;have hy:y=r\/(y,r)∈ow:=hyr.imp id fun z=>(hS y aK).resolve_left z;have hkn:Kn R ow y:=(hS y aK).imp id fun z=>⟨r,z⟩;have hmu:¬μ (y,at_):=fun z=>hm ((h1 y hy h6).mp z)
   have hrM':r∈M++[y]:=by
    rcases hr0 with z | z
    ·exact List.mem_append_left _ z
    ·rw[(List.cons.inj z.1).1];simp
   have hyM':y∈M':=x'.sub.1 y (by simp)
   have hVy:Vr ow r at_ M' (y,at_):=⟨rfl,hyM',hy⟩
   have e:vr (dm μ (y,at_)) (Vr ow r at_ M')=vr μ (Vr ow r at_ M'):=by
    funext q
    apply propext
    constructor
    ·rintro((z | z) | z)
     ·exact .inl z
     ·rw[z];exact .inr hVy
     ·exact .inr z
    ·rintro(z | z)
     ·exact .inl (.inl z)
     ·exact .inr z
   rw[<-e] at run;have hS':∀z∈S,z∈R\/(z,r)∈ow:=fun z hz=>hS z (aP _ hz)
   have hM6':∀z∈M++[y],(gi is z).op≠6:=fun z hz=>by
    rcases ba hz with hz | hz
    ·exact hM6 z hz
    ·rw[aB hz];exact h6
   have i1:∀z,(z=r\/(z,r)∈ow)->(gi is z).op≠6->(dm μ (y,at_) (z,at_)↔z∈M++[y]):=fun z hz z6=>by rw[List.mem_append,List.mem_singleton];unfold dm;rw[h1 z hz z6];exact⟨fun q=>q.imp id fun q=>ag Prod.fst q,fun q=>q.imp id fun q=>by rw[q]⟩
   have i2:∀z∈M++[y],z∈R->dm μ (y,at_) (z,at_):=fun z hz zR=>by
    rcases ba hz with hz | hz
    ·exact .inl (h2 z hz zR)
    ·rw[aB hz];exact .inr rfl
   have hb:dm μ (y,at_) (r,at_):=i2 r hrM' hr;have hw:WN text holds is (y,at_,k)=cQ text holds (fj (gi is y)) at_ k:=(rR _ _ _).symm;rcases uU G y (fj (gi is y)) with⟨hdup,he⟩ | he
   ·rw[he] at ih x'
    rw[List.mem_map] at hdup;obtain⟨q,hq,hqk⟩:=hdup;obtain⟨ν',run'⟩:=ih N hN hS' hM6' (.inl hrM') (dm μ (y,at_)) i1 i2 (fun q hq c hc=>(h3 q hq c hc).imp .inl id) T o ν run;refine⟨ν',.go hmu (fun z=>h6 z.2) (X.kr hkn).1 ?_⟩;rw[hw];exact run'.skips fun c hc=>(h3 q hq c (by rw[ud hqk];exact hc)).imp .inl id
   ·rw[he] at ih x'
    obtain⟨_,N1,hN1⟩:=x'.sub
    have hNN:N=(y,fj (gi is y))::N1:=by
     rw[hN1,aH] at hN;have:=List.append_cancel_left hN
     simpa using this.symm
    rw[hNN,List.flatMap_cons,aH] at run;obtain⟨o1,ρ1,o2,r1,r2,eo⟩:=run.split rfl
    have hgood:∀c∈cQ text holds (fj (gi is y)) at_ k,c.1<0\/c.1∈R:=fun c hc=>by
     rw[<-hw] at hc;rcases X.next (c:=(y,at_,k)) hkn c hc with q | q | ⟨_,q⟩
     ·exact .inl q
     ·exact .inr q
     ·have:ways (gi is y)=[]:=by unfold ways;rw[au h0,au h5]
      rw[show((y,at_,k):dD).1=y from rfl,this] at q;simp at q
    obtain⟨μ1,q1,q2,q3⟩:=frame X (hV M') r1 (dm μ (y,at_)) rfl hb (fun c hc=>(hgood c hc).imp id .inl) (fun c hc z=>by
     rcases hgood c hc with q | q
     ·have:=(X.orr _ z.2).1
      have h':(kc c).1=c.1:=rfl;simp only[h'] at this;lia
     ·exact X.onot _ z.2 q)
    have hmono:=q1.mono;rw[q2] at r2
    obtain⟨ν',run'⟩:=ih N1 (by rw[hN1]) hS' hM6' (.inl hrM') μ1 (fun z hz z6=>by
     rcases hz with e | e
     ·rw[e];exact⟨fun w=>hrM',fun w=>hmono _ hb⟩
     ·rw[q3 (z,at_) ⟨rfl,e⟩];exact i1 z (.inr e) z6) (fun z hz zR=>hmono _ (i2 z hz zR)) (fun q hq c hc=>by
     rcases ba hq with hq | hq
     ·exact(h3 q hq c hc).imp (fun z=>hmono _ (.inl z)) id
     ·rw[aB hq] at hc
      exact q1.met c hc) T o2 ν r2
    refine⟨ν',.go hmu (fun z=>h6 z.2) (X.kr hkn).1 ?_⟩;rw[hw,eo];exact q1.join run'
end
section
variable {r:Int}{M:List Int}{G:List (Int×I)}{z:List (Int×Int)}
variable {is:List I}{text:List UInt8}{holds:List Int}{R:List Int}{ow:List (Int×Int)}
theorem ee.src {S M':List Int}{G':List (Int×I)}(X:jX is R ow)(hr:r∈R)(x:ee is R r S M G M' G'):(∀y∈S,y∈R\/(y,r)∈ow)->
 ∀q∈G',q∈G\/(q.1∈R/\q.1≠r/\q.2=l6 q.1)\/((q.1=r\/(q.1,r)∈ow)/\(gi is q.1).op≠0/\(gi is q.1).op≠5/\(gi is q.1).op≠6/\q.2=fj (gi is q.1)):=by
 have ad:∀ {G:List (Int×I)} {k:Int} {i:I} {q:Int×I},q∈iO G k i->q∈G\/q=(k,i):=fun{G k i q} h=>by
  unfold iO at h;split at h
  ·exact .inl h
  ·rcases ba h with h | h
   ·exact .inl h
   ·exact .inr (aB h)
 induction x with
 | nil M G=>exact fun w q hq=>.inl hq
 | skip _ _ ih=>exact fun hS q hq=>ih (fun y hy=>hS y (aP _ hy)) q hq
 | @root k S M M' G G' _ _ h1 h2 _ ih=>
   intro hS q hq;rcases ih (fun y hy=>hS y (aP _ hy)) q hq with z | z
   ·rcases ad z with z | z
    ·exact .inl z
    ·rw[z];exact .inr (.inl ⟨h2,h1,rfl⟩)
   ·exact .inr z
 | @alt k S M M' G G' _ _ h1 h2 _ ih=>
   intro hS q hq;refine ih (fun y hy=> ?_) q hq;rcases ba hy with hy | hy
   ·rcases h1 with e | e
    ·rw[e] at hy;exact X.rway r hr y hy
    ·exact X.oway _ ((hS k aK).resolve_left e) y hy
   ·exact hS y (aP _ hy)
 | @leaf k S M M' G G' _ h6 h1 h2 h3 _ ih=>
   intro hS q hq;rcases ih (fun y hy=>hS y (aP _ hy)) q hq with z | z
   ·rcases ad z with z | z
    ·exact .inl z
    ·rw[z];exact .inr (.inr ⟨h1.imp id fun e=>(hS k aK).resolve_left e,h2,h3,h6,rfl⟩)
   ·exact .inr z
theorem ee.src0 (X:jX is R ow)(hr:r∈R)(x:ee is R r [r] [] [] M G):
 ∀q∈G,(q.1∈R/\q.1≠r/\q.2=l6 q.1)\/((q.1=r\/(q.1,r)∈ow)/\(gi is q.1).op≠0/\(gi is q.1).op≠5/\(gi is q.1).op≠6/\q.2=fj (gi is q.1)):=fun q hq=>by
 rcases x.src X hr (fun y hy=>by rw[aB hy];exact .inl hr) q hq with z | z
 ·simp at z
 ·exact z
noncomputable def iB (z:List (Int×Int)) (c:dD):dD:=(if c.1<0 then c.1 else cz z c.1,c.2)
theorem uc {i:I}(h0:i.op≠0)(hout:i.op=1\/i.op=2\/i.op=3\/i.op=5->0≤i.out)(hm:i.op=4->0≤i.arg)(at_:Nat)(k:List Int):
 cQ text holds (dF z i) at_ k=(cQ text holds i at_ k).map (iB z):=by
 by_cases ho:i.op=1\/i.op=2\/i.op=3\/i.op=5
 ·have hr:dF z i={i with out:=cz z i.out}:=by unfold dF;rw[ap ho]
  rw[hr];have h4:i.op≠4:=by lia
  have e:∀t,n5 {i with out:=cz z i.out} t=n5 i t:=fun y=>rfl;have ho':=hout ho;have hn:¬i.out<0:=by lia
  unfold cQ;simp only[e]
  split
  ·rename_i q;exact absurd q h0
  ·split
   ·simp[iB,hn]
   ·split
    ·simp[iB,hn]
    ·split
     ·first
       | (rename_i q;exact absurd q h4)
       | simp[iB,hn]
     ·first
       | rfl
       | (split
          ·simp[iB,hn]
          ·rfl)
 ·have hr:dF z i=i:=by unfold dF;rw[au ho]
  rw[hr];unfold cQ;rw[au h0,au (by lia),au (by lia)]
  split
  ·rename_i q
   have:=hm q;have hn: -1-i.arg<0:=by lia
   simp[iB,hn]
  ·rw[au (by lia)];rfl
theorem si (z:List (Int×Int))(i:I):dF z (i0 i)=i0 (dF z i):=by
 unfold dF i0
 split<;>rfl
theorem vf (z:List (Int×Int))(at_:Nat)(k:List Int)(l:List I):((nM l).map (dF z)).flatMap (fun i=>cQ text holds i at_ k)=(l.map (dF z)).flatMap (fun i=>cQ text holds i at_ k):=by
 induction l with
 | nil=>rfl
 | cons i r ih=>cases r with
   | nil=>rw[CR,List.map_cons,si];rfl
   | cons j r=>rw[CQ,List.map_cons,List.flatMap_cons,ih];rfl
structure yj (is:List I) (R:List Int) (ow:List (Int×Int)) (z:List (Int×Int)) (lst:Int->List I):Prop where
 net:jX is R ow
 hd0:∀r∈R,0≤cz z r
 inj:∀r∈R,∀s∈R,cz z r=cz z s->r=s
 lst:∀r∈R,cD (fun M G=>ee is R r [r] [] [] M G) (fun M G=>lst (cz z r)=(b9 G).map (dF z))
theorem xT (X:jX is R ow)(hr:r∈R)(x:ee is R r [r] [] [] M G)(z:List (Int×Int))(at_:Nat)(k:List Int):
 ((b9 G).map (dF z)).flatMap (fun i=>cQ text holds i at_ k)=(G.flatMap fun q=>cQ text holds q.2 at_ k).map (iB z):=by
 unfold b9;rw[vf]
 split
 ·rename_i h
  rw[h];rfl
 ·have hs:=x.src0 X hr
  have:∀l:List (Int×I),(∀q∈l,q∈G)->((l.map (·.2)).map (dF z)).flatMap (fun i=>cQ text holds i at_ k)=(l.flatMap fun q=>cQ text holds q.2 at_ k).map (iB z):=by
   intro l
   induction l with
   | nil=>intro _;rfl
   | cons q l ih=>
     intro hl;have ih':=ih fun p hp=>hl p (aP _ hp);rw[List.map_cons,List.map_cons,List.flatMap_cons,List.flatMap_cons,List.map_append,ih']
     congr 1
     rcases hs q (hl q aK) with⟨h1,_,h2⟩ | ⟨h1,h2,h3,h4,h5⟩
     ·rw[h2]
      exact uc (i:=l6 q.1) (show(5:Int)≠0 by decide) (fun y=>(X.rr _ h1).1) (fun e=>absurd e (show(5:Int)≠4 by decide)) _ _
     ·rw[h5]
      have hk:Kn R ow q.1:=h1.elim (fun e=>.inl (e▸hr)) fun e=>.inr ⟨r,e⟩;have wf:=X.w.at (X.kr hk).1 (X.kr hk).2;refine uc (i:=fj (gi is q.1)) h2 (fun o=> ?_) (fun e=>(wf.mat e).1) _ _;have o':(gi is q.1).op=1\/(gi is q.1).op=2\/(gi is q.1).op=3\/(gi is q.1).op=5:=o;have h4':(gi is q.1).op≠4:=by lia
      show 0≤(if(gi is q.1).op=4 then 0 else(gi is q.1).out)
      rw[au h4'];exact(wf.out h4' h4).1
  exact this G fun y h=>h
structure Eu (is:List I) (R:List Int) (ow:List (Int×Int)) (z:List (Int×Int)) (μ ν:KP):Prop where
 a:∀r∈R,∀at_,¬di is (r,at_)->(μ (r,at_)↔ν (cz z r,at_))
 n:∀q:jd,q.1<0->(μ q↔ν q)
 c:∀r∈R,∀at_,¬μ (r,at_)->∀x,(x,r)∈ow->¬μ (x,at_)
theorem xR {lst:Int->List I}(Y:yj is R ow z lst){T o:List dD}{μf νf:KP}(x:dL (dK text holds lst) (fun u=>False) T μf o νf):
 ∀ (Tn:List dD) (μ:KP),T=Tn.map (iB z)->(∀c∈Tn,c.1<0\/c.1∈R)->Eu is R ow z μ μf->∃ν,dL (WN text holds is) (di is) Tn μ o ν:=by
 have X:=Y.net
 induction x with
 | nil μf=>
   intro Tn μ e v Q;have:Tn=[]:=by simpa using e.symm
   subst this;exact⟨μ,.nil μ⟩
 | @skip c S o μf νf h r ih=>
   intro Tn μ e v Q;cases Tn with
   | nil=>simp at e
   | cons c' Tn=>
     rw[List.map_cons] at e
     injection e with e1 e2
     subst e1;obtain⟨ν,r'⟩:=ih Tn μ e2 (fun d hd=>v d (aP _ hd)) Q;refine⟨ν,.skip ?_ r'⟩;have h':=h.resolve_right id;rcases v c' aK with q | q
     ·have:iB z c'=c':=by unfold iB;rw[ap q]
      rw[this] at h';exact .inl ((Q.n _ q).mpr h')
     ·have hn:¬c'.1<0:=by have:=(X.rr _ q).1;lia
      have:iB z c'=(cz z c'.1,c'.2):=by unfold iB;rw[au hn]
      rw[this] at h'
      by_cases hd:di is (kc c')
      ·exact .inr hd
      ·exact .inl ((Q.a _ q _ hd).mpr h')
 | @emit c S o μf νf h1 h2 h3 r ih=>
   intro Tn μ e v Q;cases Tn with
   | nil=>simp at e
   | cons c' Tn=>
     rw[List.map_cons] at e
     injection e with e1 e2
     subst e1
     have hneg:c'.1<0:=by
      rcases v c' aK with q | q
      ·exact q
      ·have hn:¬c'.1<0:=by have:=(X.rr _ q).1;lia
       have h3':(if c'.1<0 then c'.1 else cz z c'.1)<0:=h3
       rw[au hn] at h3';have:=Y.hd0 _ q
       lia
     have he:iB z c'=c':=by unfold iB;rw[ap hneg]
     rw[he] at h1 r ih⊢
     have nd:∀y,y∈R\/(∃s,(y,s)∈ow)->∀a:Nat,((y,a):jd)≠kc c':=fun y hy a e=>by
      have h0:=(X.kr hy).1;have:y=c'.1:=ag Prod.fst e
      lia
     obtain⟨ν,r'⟩:=ih Tn (dm μ (kc c')) e2 (fun d hd=>v d (aP _ hd)) ⟨fun s hs a hd=>by
      unfold dm;rw[Q.a s hs a hd];have h0:=Y.hd0 s hs
      exact⟨fun q=>q.imp id fun q=>absurd q (nd s (.inl hs) a),fun q=>q.imp id fun q=>by
       have:cz z s=c'.1:=ag Prod.fst q
       lia⟩,fun q hq=>by unfold dm;rw[Q.n q hq],fun s hs a hm y hy q=>by
      rcases q with q | q
      ·exact Q.c s hs a (fun w=>hm (.inl w)) y hy q
      ·exact nd y (.inr ⟨s,hy⟩) a q⟩
     exact⟨ν,.emit (fun w=>h1 ((Q.n _ hneg).mp w)) (fun w=>by have:=w.1;have h':(kc c').1=c'.1:=rfl;rw[h'] at this;lia) hneg r'⟩
 | @go c S o μf νf h1 h2 h3 r ih=>
   intro Tn μ e v Q;cases Tn with
   | nil=>simp at e
   | cons c' Tn=>
     rw[List.map_cons] at e
     injection e with e1 e2
     subst e1
     have hR:c'.1∈R:=by
      rcases v c' aK with q | q
      ·have h3':0≤(if c'.1<0 then c'.1 else cz z c'.1):=h3
       rw[ap q] at h3';lia
      ·exact q
     have hn:¬c'.1<0:=by have:=(X.rr _ hR).1;lia
     have hm:iB z c'=(cz z c'.1,c'.2):=by unfold iB;rw[au hn]
     rw[hm] at h1 r ih;obtain⟨M,G,hG,hlst⟩:=Y.lst _ hR
     have hw:dK text holds lst (cz z c'.1,c'.2)=(G.flatMap fun q=>cQ text holds q.2 c'.2.1 c'.2.2).map (iB z):=by unfold dK;rw[show((cz z c'.1,c'.2):dD).1=cz z c'.1 from rfl,hlst];exact xT X hR hG z _ _
     have hs:=hG.src0 X hR
     have hval:∀d∈G.flatMap fun q=>cQ text holds q.2 c'.2.1 c'.2.2,d.1<0\/d.1∈R:=fun d hd=>by
      rw[List.mem_flatMap] at hd;obtain⟨q,hq,hd⟩:=hd;rcases hs q hq with⟨g1,_,g2⟩ | ⟨g1,g2,g3,g4,g5⟩
      ·rw[g2,kU] at hd
       rw[aB hd];exact .inr g1
      ·have hk:Kn R ow q.1:=g1.elim (fun e=>.inl (e▸hR)) fun e=>.inr ⟨_,e⟩
       rw[g5,rR] at hd;rcases X.next (c:=(q.1,c'.2)) hk d hd with y | y | ⟨_,y⟩
       ·exact .inl y
       ·exact .inr y
       ·have:ways (gi is q.1)=[]:=by unfold ways;rw[au g2,au g3]
        rw[show((q.1,c'.2):dD).1=q.1 from rfl,this] at y;simp at y
     by_cases hd:di is (kc c')
     ·have h6:(gi is c'.1).op=6:=hd.2
      have hGn:G=[]:=by
       cases hG with
       | skip _ y=>cases y;rfl
       | root _ h _ _ _=>exact absurd h6 h
       | alt _ h _ _ _=>exact absurd h6 h
       | leaf _ h _ _ _ _=>exact absurd h6 h
      obtain⟨ν,r'⟩:=ih Tn μ (by rw[hw,hGn,e2];rfl) (fun d hd=>v d (aP _ hd)) ⟨fun s hs a hda=>by
       unfold dm;rw[Q.a s hs a hda];refine⟨.inl,fun q=>q.elim id fun q=> ?_⟩;have e3:cz z s=cz z c'.1:=ag Prod.fst q;have:=Y.inj s hs _ hR e3;exact absurd ⟨(X.rr s hs).1,by show(gi is s).op=6;rw[this];exact h6⟩ hda,fun q hq=>by
       unfold dm;rw[Q.n q hq];refine⟨.inl,fun y=>y.elim id fun y=> ?_⟩;have:q.1=cz z c'.1:=by rw[y];rfl
       have:=Y.hd0 _ hR
       lia,Q.c⟩
      exact⟨ν,.skip (.inr hd) r'⟩
     ·have h1':¬μ (c'.1,c'.2.1):=fun y=>h1 ((Q.a _ hR _ hd).mp y)
      have h6:(gi is c'.1).op≠6:=fun y=>hd ⟨(X.rr _ hR).1,y⟩
      have hrM:c'.1∈M:=by
       cases hG with
       | skip h _=>rcases h with h | h; · simp at h
                   ·exact absurd h h6
       | root _ _ h _ _=>exact absurd rfl h
       | alt _ _ _ _ y=>exact y.sub.1 _ (by simp)
       | leaf _ _ _ _ _ y=>exact y.sub.1 _ (by simp)
      obtain⟨ν,r'⟩:=ih ((G.flatMap fun q=>cQ text holds q.2 c'.2.1 c'.2.2)++Tn) (vr μ (Vr ow c'.1 c'.2.1 M)) (by rw[hw,e2,List.map_append]) (fun d hd=>by
       rcases ba hd with hd | hd
       ·exact hval d hd
       ·exact v d (aP _ hd)) ⟨fun s hs a hda=>by
       show(μ (s,a)\/Vr ow c'.1 c'.2.1 M (s,a))↔(μf (cz z s,a)\/(cz z s,a)=_)
       rw[Q.a s hs a hda]
       constructor
       ·rintro(q | ⟨q1,q2,q3⟩)
        ·exact .inl q
        ·have:s=c'.1:=q3.elim id fun y=>absurd hs (X.onot _ y)
         right
         rw[this,show a=c'.2.1 from q1];rfl
       ·rintro(q | q)
        ·exact .inl q
        ·have e3:cz z s=cz z c'.1:=ag Prod.fst q
         have e4:a=c'.2.1:=ag Prod.snd q;have e5:=Y.inj s hs _ hR e3;exact .inr ⟨e4,by show s∈M;rw[e5];exact hrM,.inl e5⟩,fun q hq=>by
       show(μ q\/Vr ow c'.1 c'.2.1 M q)↔(μf q\/q=_)
       rw[Q.n q hq]
       constructor
       ·rintro(y | ⟨_,_,y⟩)
        ·exact .inl y
        ·rcases y with y | y
         ·rw[y] at hq;exact absurd hq hn
         ·have:=(X.orr _ y).1;simp at this;lia
       ·rintro(y | y)
        ·exact .inl y
        ·have:q.1=cz z c'.1:=by rw[y];rfl
         have:=Y.hd0 _ hR
         lia,fun s hs a hm y hy q=>by
       rcases q with q | ⟨q1,q2,q3⟩
       ·exact Q.c s hs a (fun w=>hm (.inl w)) y hy q
       ·rcases q3 with q3 | q3
        ·have q3:y=c'.1:=q3
         exact X.onot _ hy (by show y∈R;rw[q3];exact hR)
        ·have:=X.uniq hy q3
         exact hm (.inr ⟨q1,by show s∈M;rw[this];exact hrM,.inl this⟩)⟩
      obtain⟨ν',run⟩:=Fe X hR hG G (by simp) (fun y hy=>by rw[aB hy];exact .inl hR) (by simp) (.inr ⟨rfl,rfl⟩) μ (fun y hy u=>by
       simp only[List.not_mem_nil,iff_false];rcases hy with hy | hy
       ·rw[hy];exact h1'
       ·exact Q.c _ hR _ h1' y hy) (by simp) (by simp) Tn o ν r'
      exact⟨ν',run⟩
end
section
variable {z:List (Int×Int)}{i:I}{r l:List I}{gs:List (List (Int×I))}
section
variable {is:List I}{text:List UInt8}{holds:List Int}{R:List Int}{ow:List (Int×Int)}{d:PD}
theorem tD (w:ii d.insts)(s0:0≤d.start)(s1:d.start<d.insts.length)(l0:0≤d.loose)(l1:d.loose<d.insts.length)(X:iQ d R ow):jX d.insts R ow:=by
 have rng:∀k,Reach d k->0≤k/\k<d.insts.length:=fun k z=>z.range w s0 s1 l0 l1;refine⟨w,X.own.nd,fun r hr=> ?_,fun q hq=>rng _ (X.own.own q hq).2.1,fun q hq=>(X.own.own q hq).1,fun q hq=>(X.own.own q hq).2.2.1,fun q hq=>(X.own.own q hq).2.2.2,X.own.root,fun x hx o=> ?_⟩
 ·rcases X.r r hr with rfl | z
  ·exact⟨Int.le_refl _,by have:=w.pos;lia⟩
  ·exact rng r z
 ·rcases hx with hx | ⟨r,hx⟩
  ·rcases X.r x hx with rfl | z
   ·rw[w.first] at o;lia
   ·exact X.step x z o
  ·exact X.step x (X.own.own _ hx).2.1 o
theorem kE {q:Int×Int}{k:Int}:ownOf (q::z) k=if q.1=k then some q.2 else ownOf z k:=by
 unfold ownOf;rw[List.find?_cons]
 by_cases h:q.1=k
 ·simp[h]
 ·simp[h]
theorem xo:∀ {R l:List Int},R.Nodup->R.length=l.length->R.map (cz (R.zip l))=l
 | [],[],_,_=>rfl
 | r::R,a::l,nd,hl=>by
   rw[List.nodup_cons] at nd;rw[List.zip_cons_cons,List.map_cons]
   congr 1
   ·unfold cz;rw[kE,ap rfl];rfl
   ·have:∀x∈R,cz ((r,a)::R.zip l) x=cz (R.zip l) x:=fun x hx=>by
     unfold cz;rw[kE,au (fun e=>nd.1 (by rw[show r=x from e];exact hx))]
    rw[List.map_congr_left this,xo nd.2 (by simpa using hl)]
 | [],_::_,_,hl=>by simp at hl
 | _::_,[],_,hl=>by simp at hl
theorem zd:∀ (ls:List (List I)) (n:Nat),∀o∈mX ls n,(n:Int)≤o:=by
 intro ls
 induction ls with
 | nil=>
   intro n o h;cases h
 | cons l ls ih=>
   intro n o h;rw[nZ] at h;rcases a_ h with rfl | h
   ·exact Int.le_refl _
   ·have:=ih _ o h;lia
theorem tw:∀ (ls:List (List I)) (n:Nat),(∀l∈ls,1≤l.length)->(mX ls n).Nodup:=by
 intro ls
 induction ls with
 | nil=>
   intro _ _;exact List.nodup_nil
 | cons l ls ih=>
   intro n h;rw[nZ,List.nodup_cons];refine⟨fun z=> ?_,ih _ fun x hx=>h x (aP _ hx)⟩;have h1:=zd ls _ _ z;have h2:=h l aK
   lia
theorem tH {f:Int->Int}{R:List Int}(nd:(R.map f).Nodup):∀r∈R,∀s∈R,f r=f s->r=s:=by
 induction R with
 | nil=>intro r hr;cases hr
 | cons a R ih=>
   intro r hr s hs e;rw[List.map_cons,List.nodup_cons] at nd;rcases a_ hr with e1 | hr
   ·rcases a_ hs with e2 | hs
    ·rw[e1,e2]
    ·exact absurd (List.mem_map.mpr ⟨s,hs,by rw[<-e,e1]⟩) nd.1
   ·rcases a_ hs with e2 | hs
    ·exact absurd (List.mem_map.mpr ⟨r,hr,by rw[e,e2]⟩) nd.1
    ·exact ih nd.2 r hr s hs e
noncomputable def tl:List I->List I
 | []=>[]
 | i::r=>if i.last then [i] else i::tl r
theorem EM (h:i.last=true):tl (i::r)=[i]:=ap h
theorem EN (h:i.last=false):tl (i::r)=i::tl r:=au fun z=>Bool.noConfusion (h.symm.trans z)
theorem ug {m:List I}(h:cZ l):tl (l++m)=l:=by
 induction l with
 | nil=>exact h.elim
 | cons i r ih=>cases r with
   | nil=>exact EM h
   | cons j r=>exact(EN h.1).trans (ag (i:: ·) (ih h.2))
theorem vY (h0:l≠ [])(h:∀i∈l,i.last=false):cZ (nM l):=by
 induction l with
 | nil=>exact absurd rfl h0
 | cons i r ih=>cases r with
   | nil=>exact rfl
   | cons j r=>
     have:=ih (List.cons_ne_nil _ _) fun x hx=>h x (aP _ hx);cases r with
     | nil=>exact⟨h i aK,this⟩
     | cons k r=>exact⟨h i aK,this⟩
theorem jL (z:List (Int×Int))(i:I):(dF z i).last=i.last:=by unfold dF;split<;>rfl
theorem lF (z:List (Int×Int)):∀ {l:List I},cZ l->cZ (l.map (dF z))
 | [i],h=>by show(dF z i).last=true;rw[jL];exact h
 | i::j::r,h=>⟨by rw[jL];exact h.1,lF z h.2⟩
 | [],h=>h.elim
theorem lC (X:jX is R ow){r:Int}(hr:r∈R){M:List Int}{G:List (Int×I)}(x:ee is R r [r] [] [] M G):cZ (b9 G):=by
 unfold b9
 split
 ·exact rfl
 ·rename_i h
  refine vY (by simpa using h) fun i hi=> ?_
  rw[List.mem_map] at hi;obtain⟨q,hq,rfl⟩:=hi;rcases x.src0 X hr q hq with⟨_,_,e⟩ | ⟨_,_,_,_,e⟩<;>rw[e]<;>rfl
theorem lu (X:jX is R ow)(z:List (Int×Int)):∀ (rs:List Int) (gs:List (List (Int×I))) (pre:List I),(∀r∈rs,r∈R)->fQ is R rs gs->
 ∀r∈rs,pz (fun M G o=>ee is R r [r] [] [] M G) (fun M G o=>G∈gs) (fun M G o=>(r,o)∈rs.zip (mX (gs.map b9) pre.length)) (fun M G o=>0≤o) (fun M G o=>cD (fun p1 p2=>pre++(gs.map b9).flatten.map (dF z)=p1++(b9 G).map (dF z)++p2) (fun p1 p2=>(p1.length:Int)=o)):=by
 intro rs
 induction rs with
 | nil=>
   intro v9;cases v9 with
   | nil=>
     intro _ _ _ r hr;simp at hr
   | cons _ _=>
     intro _ _ h _ _;exact h.elim
 | cons s rs ih=>
   intro v9;cases v9 with
   | nil=>
     intro _ _ h _ _;exact h.elim
   | cons G gs=>
     intro pre hR hF r hr;obtain⟨⟨M,hM⟩,hF'⟩:=hF;rcases a_ hr with rfl | hr
     ·refine⟨M,G,pre.length,hM,aK,by rw[List.map_cons,nZ,List.zip_cons_cons];exact aK,by lia,pre,(gs.map b9).flatten.map (dF z),?_,rfl⟩
      simp
     ·obtain⟨M',G',o,h1,hg,h2,h3,p1,p2,h4,h5⟩:=ih gs (pre++(b9 G).map (dF z)) (fun q hq=>hR q (aP _ hq)) hF' r hr
      refine⟨M',G',o,h1,aP _ hg,?_,h3,p1,p2,?_,h5⟩
      ·rw[List.map_cons,nZ,List.zip_cons_cons]
       refine aP _ ?_;rw[bd,aD] at h2;exact h2
      ·rw[<-h4];simp
theorem h_ {r o:Int}(nd:(z.map (·.1)).Nodup)(h:(r,o)∈z):cz z r=o:=by
 induction z with
 | nil=>simp at h
 | cons q z ih=>
   rw[List.map_cons,List.nodup_cons] at nd;unfold cz;rw[kE];rcases a_ h with e | h
   ·rw[<-e,ap rfl];rfl
   ·rw[au (fun e=>nd.1 (List.mem_map.mpr ⟨_,h,e.symm⟩))]
    exact ih nd.2 h
theorem oC (hnd:R.Nodup)(hF:fQ is R R gs):R.map (cz (bF R gs))=mX (gs.map b9) 0:=by unfold bF;exact xo hnd (by rw[nY,aD];exact hF.len)
theorem sF (X:jX is R ow)(hnd:R.Nodup)(hF:fQ is R R gs):yj is R ow (bF R gs) (fun k=>tl (((gs.map b9).flatten.map (dF (bF R gs))).drop k.toNat)):=by
 have hk:=gd hF.len;have at_:∀r∈R,pz (fun M G o=>ee is R r [r] [] [] M G) (fun M G o=>G∈gs) (fun M G o=>(r,o)∈bF R gs) (fun M G o=>0≤o) (fun M G o=>cD (fun p1 p2=>[]++(gs.map b9).flatten.map (dF (bF R gs))=p1++(b9 G).map (dF (bF R gs))++p2) (fun p1 p2=>(p1.length:Int)=o)):=lu X (bF R gs) R gs [] (fun y h=>h) hF
 have hl:∀l∈gs.map b9,1≤l.length:=fun l hl=>by rw[List.mem_map] at hl;obtain⟨G,_,rfl⟩:=hl;exact(oM G).2
 refine⟨X,fun r hr=> ?_,fun r hr s hs e=> ?_,fun r hr=> ?_⟩
 ·obtain⟨M,G,o,_,_,h2,h3,_⟩:=at_ r hr
  rw[h_ (by rw[hk];exact hnd) h2];exact h3
 ·refine tH (f:=cz (bF R gs)) ?_ r hr s hs e
  rw[oC hnd hF];exact tw _ _ hl
 ·obtain⟨M,G,o,h1,_,h2,h3,p1,p2,h4,h5⟩:=at_ r hr
  refine⟨M,G,h1,?_⟩;have e:cz (bF R gs) r=o:=h_ (by rw[hk];exact hnd) h2
  simp only[List.nil_append] at h4;simp only[e,h4];have:o.toNat=p1.length:=by lia
  rw[this,aH,List.drop_left];exact ug (lF _ (lC X hr h1))
end
end
section
variable {k:Int}{i:I}{chk:H->Bool}{f:Int->Int}
section
variable {N n:Nat}{h:H}{p L Hd D RA:Nat}{as:List Nat}{is:List I}{d:PD}
theorem tn (hl:h[L]?=some (.list (as.map .ref)))(hi:aM h as is){k:Nat}(hk:is[k]?=some i):bp (fun a=>(∀y,cP (h++y) (.ref L) (.int k)=some (.ref a))) (fun a=>∀y,(h++y)[a]?=some (.inst 0 i.fs)):=by obtain⟨a,h1,h2⟩:=hi.get hk;exact⟨a,fun y=>eY (aY hl y) (by rw[List.getElem?_map,h1];rfl),aY h2⟩
noncomputable def hr:List I->Nat->List Int
 | i::j::r,n=>(if i.last then [((n:Int)+1)] else [])++hr (j::r) (n+1)
 | _,_=>[]
theorem Fs {n:Nat}:hr [] n=[]:=rfl
theorem Fq {n:Nat}:hr [i] n=[]:=rfl
theorem Cr {j:I}{r:List I}{n:Nat}:hr (i::j::r) n=(if i.last then [((n:Int)+1)] else [])++hr (j::r) (n+1):=rfl
noncomputable def Dx:dz:=(fM.nth 1).body
theorem y0 (x:PA h p L Hd as d)(hs:d.insts.length<20000)(hchk:∀H,chk H=true):∀ (suf:List I) (pre:List I) (acc:List Int) (x2:Option V),d.insts=pre++suf->acc.length≤pre.length+1->
 ∃z2,dR 2 (bn (av aw N n) N Dx) chk ((List.range' pre.length (suf.length-1)).map fun(k:Nat)=>V.int k) [some (.ref p),some (.ref h.length),x2] (h++[.list (acc.map .int)])=some (.next,[some (.ref p),some (.ref h.length),z2],h++[.list ((acc++hr suf pre.length).map .int)]):=by
 intro suf
 induction suf with
 | nil=>intro pre acc x2 _ _;exact⟨x2,by rw[Fs,List.append_nil];exact ap (hchk _)⟩
 | cons i r ih=>
   intro pre acc x2 e hl;cases r with
   | nil=>exact⟨x2,by rw[Fq,List.append_nil];exact ap (hchk _)⟩
   | cons j r=>
    have hk:d.insts[pre.length]?=some i:=by rw[e];simp
    obtain⟨a,hsub,hinst⟩:=tn x.list x.insts hk;have hp:∀y,(h++y)[p]?=_:=aY x.obj;have hlen:pre.length<20000:=by rw[e] at hs;simp at hs;lia
    have la:acc.length<1000000:=by lia
    have hb:bn (av aw N n) N Dx ([some (.ref p),some (.ref h.length),x2].set 2 (some (.int pre.length))) (h++[.list (acc.map .int)])=some (.next,[some (.ref p),some (.ref h.length),some (.int pre.length)],h++[.list ((acc++if i.last then [((pre.length:Int)+1)] else []).map .int)]):=by
     cases hq:i.last
     ·rw[au Bool.false_ne_true,List.append_nil]
      exact(an (aS (am (bE (am (ac rfl) (hp _) rfl) (ac rfl) (hsub _)) (hinst _) rfl) (ag some hq) aF) aF)
     ·have la':(acc.map V.int).length<1000000:=by rw[aD];exact la
      rw[ap rfl,List.map_append];exact(an (bX (am (bE (am (ac rfl) (hp _) rfl) (ac rfl) (hsub _)) (hinst _) rfl) (ag some hq) (an (gg (ac rfl) br (cm (ac rfl) ao rfl) br la' dE) aF)) aF)
    obtain⟨z2,hz⟩:=ih (pre++[i]) (acc++if i.last then [((pre.length:Int)+1)] else []) (some (.int pre.length)) (by rw[e];simp) (by
     rw[bd,bd]
     split<;>simp<;>lia)
    refine⟨z2,?_⟩;have er:(i::j::r).length-1=(j::r).length-1+1:=by simp
    rw[er,List.range'_succ,List.map_cons,bK,ap (hchk _),hb];simp only;have e2:(pre++[i]).length=pre.length+1:=by simp
    rw[e2] at hz;rw[hz,Cr];simp
theorem m9 (x:PA h p L Hd as d)(hs:d.insts.length<20000)(h1:1≤d.insts.length):av aw N (n+1) 4 [.ref p] h=some (.ref h.length,h++[.list ((0::hr d.insts 0).map .int)]):=by
 have hp:∀y,(h++y)[p]?=_:=aY x.obj;have hl:∀y,(h++y)[L]?=_:=aY x.list;have hal:=x.insts.len;obtain⟨z2,hz⟩:=y0 (N:=N) (n:=n) x hs (chk:=dy (h++[.list [.int 0]]) (.range ((d.insts.length:Int)-1))) (fun z=>mo) d.insts [] [0] none rfl (by simp)
 have l1:(d.insts.length:Int)-1<1000000:=by lia
 have l2:(-1000000:Int)< (d.insts.length:Int)-1/\(d.insts.length:Int)-1<1000000:=⟨by lia,l1⟩
 have hq:∀H,ax (av aw N n) (.range (.bin .sub (.len (.attr (.var 0) 1 0)) (.lit (.int 1)))) [some (.ref p),some (.ref h.length),none] (h++H)=some (.range ((d.insts.length:Int)-1),h++H):=fun H=>by rw[<-hal,<-aD (f:=V.ref)] at l1⊢;exact qK (cm (jh (am (ac rfl) (hp _) rfl) (hl _)) ao rfl) l1
 have hi:∀H,items H (.range ((d.insts.length:Int)-1))=some ((List.range' 0 (d.insts.length-1)).map fun(k:Nat)=>V.int k):=fun H=>by rw[oj,ap l2,List.range_eq_range',show((d.insts.length:Int)-1).toNat=d.insts.length-1 from Int.toNat_sub _ 1]
 exact cL (e:=[some (.ref p),none,none]) rfl rfl (an (bf (bA (ah ao aN) (aj rfl) fJ) (bk (aj rfl))) (an (fC (hq _) (hi _) (aj rfl) hz) (bb (bR (ac rfl))))) rfl
noncomputable def eU (f:Int->Int):KV:=[0,1,2,3,4,5,6].map fun k=>(k,.int (f k))
noncomputable def cnt (l:List I) (k:Int):Int:=((l.filter fun i=>decide (i.op=k)).length:Int)
noncomputable def Dy:dz:=(et.nth 2).body
theorem EQ (h0:0≤k)(h6:k≤6):k∈([0,1,2,3,4,5,6]:List Int):=by obtain⟨n,rfl⟩:=Int.eq_ofNat_of_zero_le h0;exact(by decide:∀n:Nat,n≤6->(n:Int)∈([0,1,2,3,4,5,6]:List Int)) n (Int.ofNat_le.mp h6)
theorem xw {g:Int->V}{l:List Int}(h:k∈l):lookup (l.map fun j=>(j,g j)) k=some (g k):=by
 induction l with
 | nil=>cases h
 | cons a l ih=>
   rw[lookup,List.map_cons,List.find?_cons]
   by_cases e:a=k
   ·rw[e,aW rfl];rfl
   ·rw[aJ e]
    exact ih ((a_ h).resolve_left fun z=>e z.symm)
theorem oZ (h0:0≤k)(h6:k≤6):lookup (eU f) k=some (.int (f k)):=xw (EQ h0 h6)
theorem zS {v:Int}(h0:0≤k)(h6:k≤6):put (eU f) k (.int v)=eU fun j=>if j=k then v else f j:=by
 rw[qN (by rw[eU,List.map_map];exact EQ h0 h6),eU,List.map_map]
 refine List.map_congr_left fun j y=> ?_
 show(if j=k then(j,V.int v) else(j,.int (f j)))=(j,.int (if j=k then v else f j))
 split<;>rfl
theorem za (hchk:∀Y,chk (h++Y)=true){x0 x2:Option V}:∀ (is:List I) (as:List Nat) (f:Int->Int) (x3:Option V),aM h as is->(∀i∈is,0≤i.op/\i.op≤6)->
 ∃z3,dR 3 (bn (av aw N n) N Dy) chk (as.map .ref) [x0,some (.ref h.length),x2,x3] (h++[.idict (eU f)])=some (.next,[x0,some (.ref h.length),x2,z3],h++[.idict (eU fun k=>f k+cnt is k)]):=by
 intro is
 induction is with
 | nil=>
   intro v9;cases v9 with
   | nil=>
     intro f x3 _ _;exact⟨x3,by simp[eC,bK,hchk,cnt]⟩
   | cons _ _=>
     intro _ _ x _;exact x.elim
 | cons i is ih=>
   intro v9;cases v9 with
   | nil=>
     intro _ _ x _;exact x.elim
   | cons a as=>
     intro f x3 hi ho;have hia:∀y,(h++y)[a]?=_:=aY hi.1;obtain⟨o0,o6⟩:=ho i aK;have hlk:=oZ (f:=f) o0 o6
     have hss:cW (h++[.idict (eU f)]) (.ref h.length) (.int i.op) (.int (f i.op+1))=some (h++[.idict (eU fun j=>if j=i.op then f i.op+1 else f j)]):=by rw[<-zS o0 o6];exact(gX (kv:=eU f) br (aj rfl)).trans (ag some dE)
     have hb:bn (av aw N n) N Dy ([x0,some (.ref h.length),x2,x3].set 3 (some (.ref a))) (h++[.idict (eU f)])=some (.next,[x0,some (.ref h.length),x2,some (.ref a)],h++[.idict (eU fun j=>if j=i.op then f i.op+1 else f j)]):=
      iq (CD (ac rfl) (am (ac rfl) (hia _) rfl) br hlk ao hss)
     obtain⟨z3,hz⟩:=ih as (fun j=>if j=i.op then f i.op+1 else f j) (some (.ref a)) hi.2 fun j hj=>ho j (aP _ hj)
     refine⟨z3,?_⟩;rw[List.map_cons,bK,ap (hchk _),hb];simp only;rw[hz]
     have:(fun k=>(if k=i.op then f i.op+1 else f k)+cnt is k)=fun k=>f k+cnt (i::is) k:=by
      funext k
      unfold cnt;rw[List.filter_cons]
      by_cases q:k=i.op
      ·subst q;simp;lia
      ·have q':¬i.op=k:=fun z=>q z.symm
       simp[q,q']
     rw[this]
theorem mr (x:PA h p L Hd as d)(ho:∀i∈d.insts,0≤i.op/\i.op≤6):av aw N (n+1) 3 [.ref p] h=some (.ref h.length,h++[.idict (eU fun k=>cnt d.insts k)]):=by
 have hp:∀y,(h++y)[p]?=_:=aY x.obj;have hl:∀y,(h++y)[L]?=_:=aY x.list;obtain⟨z3,hz⟩:=za (N:=N) (n:=n) (h:=h) (chk:=dy (h++[.idict (eU fun z=>0)]) (.ref L)) (fun Y=>cB (hl _) (hl _)) (x0:=some (.ref p)) (x2:=some (.int 6)) d.insts as (fun z=>0) none x.insts ho;have hz':=hz;rw[show(fun k=>(fun z=>(0:Int)) k+cnt d.insts k)=fun k=>cnt d.insts k from funext fun k=>Int.zero_add _] at hz'
 have t1:exec (av aw N n) N (et.nth 1) [some (.ref p),some (.ref h.length),none,none] (h++[.idict []])=some (.next,[some (.ref p),some (.ref h.length),some (.int 6),none],h++[.idict (eU fun z=>0)]):=by exact(fC (bS (ah ao (ah ao (ah ao (ah ao (ah ao (ah ao (ah ao aN)))))))) rfl (aj rfl) (d6 rfl (an (bf ao (f0 (ac rfl) (ac rfl) (Eq.trans (gX br (aj rfl)) (ag some dE)))) aF) (d6 rfl (an (bf ao (f0 (ac rfl) (ac rfl) (Eq.trans (gX br (aj rfl)) (ag some dE)))) aF) (d6 rfl (an (bf ao (f0 (ac rfl) (ac rfl) (Eq.trans (gX br (aj rfl)) (ag some dE)))) aF) (d6 rfl (an (bf ao (f0 (ac rfl) (ac rfl) (Eq.trans (gX br (aj rfl)) (ag some dE)))) aF) (d6 rfl (an (bf ao (f0 (ac rfl) (ac rfl) (Eq.trans (gX br (aj rfl)) (ag some dE)))) aF) (d6 rfl (an (bf ao (f0 (ac rfl) (ac rfl) (Eq.trans (gX br (aj rfl)) (ag some dE)))) aF) (d6 rfl (an (bf ao (f0 (ac rfl) (ac rfl) (Eq.trans (gX br (aj rfl)) (ag some dE)))) aF) (oN rfl)))))))))
 exact cL (e:=[some (.ref p),none,none,none]) rfl rfl (an (bf (em fJ) (bk (aj rfl))) (an t1 (an (fC (am (ac rfl) (hp _) rfl) (dG (hl _)) (aj rfl) hz') (bb (bR (ac rfl)))))) rfl
end
end
section
variable {i:I}{k q:Nat}{hd:List Int}{x5 x6:Option V}
section
variable {N n:Nat}{h:H}{p L Hd D RA:Nat}{as:List Nat}{is:List I}{d:PD}
structure Af (m:Nat) (heads:List Int) (i:I):Prop where
 w:pS m i
 na:i.op≠0
 out:i.op=1\/i.op=2\/i.op=3\/i.op=5->i.out∈heads
theorem BR {x:Int}(h1:1≤x)(h2:x≤63):band x 63=some x:=by
 unfold band;rw[ap ⟨by lia,by decide⟩]
 have:x.toNat&&& (63:Int).toNat=x.toNat:=by
  show x.toNat&&& 63=x.toNat
  have hx:x.toNat<64:=by lia
  have:=Nat.and_two_pow_sub_one_eq_mod x.toNat 6;rw[show(2 ^ 6-1:Nat)=63 from rfl] at this;rw[this];exact Nat.mod_eq_of_lt hx
 rw[this]
 congr 1
 lia
theorem rB {a m:Nat}{heads:List Int}(ha:h[a]?=some (.inst 0 i.fs))(w:Af m heads i):av aw N (n+1) 5 [.ref a] h=some (.none,h):=by
 have wf:=w.w
 by_cases h1:i.op=1
 ·obtain⟨a1,a2,a3⟩:=wf.rng h1
  have n2:i.op≠2:=by rw[h1];decide
  have n3:i.op≠3:=by rw[h1];decide
  have n4:i.op≠4:=by rw[h1];decide
  apply cL (e:=[some (.ref a)]) rfl rfl
  ·exact(an (aS (bD (cg (az (am (ac rfl) ha rfl) ao (ag some (beq_of_eq h1))) rfl (ch (gB (fL ao (nS (am (ac rfl) ha rfl) (ag some (aW a1)) (nS (am (ac rfl) ha rfl) (ag some (aW a2)) (pK ao (ag some (aW a3)))))) rfl)))) rfl aF) (an (aS (bD (cr (az (am (ac rfl) ha rfl) ao (ag some (aJ n2))) rfl)) rfl aF) (an (aS (bD (cr (az (am (ac rfl) ha rfl) ao (ag some (aJ n3))) rfl)) rfl aF) (an (aS (bD (cr (az (am (ac rfl) ha rfl) ao (ag some (aJ n4))) rfl)) rfl aF) (bb (bR ao))))))
  ·rfl
 by_cases h2:i.op=2
 ·have a2:¬i.arg<2:=Int.not_lt.mpr (wf.cap h2).1
  have n3:i.op≠3:=by rw[h2];decide
  have n4:i.op≠4:=by rw[h2];decide
  apply cL (e:=[some (.ref a)]) rfl rfl
  ·exact(an (aS (bD (cr (az (am (ac rfl) ha rfl) ao (ag some (aJ h1))) rfl)) rfl aF) (an (aS (bD (cg (az (am (ac rfl) ha rfl) ao (ag some (beq_of_eq h2))) rfl (ch (az (am (ac rfl) ha rfl) ao (ag some (aJ a2)))))) rfl aF) (an (aS (bD (cr (az (am (ac rfl) ha rfl) ao (ag some (aJ n3))) rfl)) rfl aF) (an (aS (bD (cr (az (am (ac rfl) ha rfl) ao (ag some (aJ n4))) rfl)) rfl aF) (bb (bR ao))))))
  ·rfl
 by_cases h3:i.op=3
 ·obtain⟨a1,a2⟩:=wf.emp h3
  have b63:jE h .band (.int i.arg) (.int 63)=some (.int i.arg,h):=ag (fun z:Option Int=>z.map fun z=>(V.int z,h)) (BR a1 a2);have b0:(!(i.arg==i.arg))=false:=by rw[beq_self_eq_true];rfl
  have a0:i.arg≠0:=by lia
  have n4:i.op≠4:=by rw[h3];decide
  apply cL (e:=[some (.ref a)]) rfl rfl
  ·exact(an (aS (bD (cr (az (am (ac rfl) ha rfl) ao (ag some (aJ h1))) rfl)) rfl aF) (an (aS (bD (cr (az (am (ac rfl) ha rfl) ao (ag some (aJ h2))) rfl)) rfl aF) (an (aS (bD (cg (az (am (ac rfl) ha rfl) ao (ag some (beq_of_eq h3))) rfl (ch (dP (cS (az (am (ac rfl) ha rfl) ao (ag some (aJ a0))) rfl (cV (az (cm (am (ac rfl) ha rfl) ao b63) (am (ac rfl) ha rfl) (ag some b0)))))))) rfl aF) (an (aS (bD (cr (az (am (ac rfl) ha rfl) ao (ag some (aJ n4))) rfl)) rfl aF) (bb (bR ao))))))
  ·rfl
 by_cases h4:i.op=4
 ·have a2:¬i.arg<0:=Int.not_lt.mpr (wf.mat h4).1
  apply cL (e:=[some (.ref a)]) rfl rfl
  ·exact(an (aS (bD (cr (az (am (ac rfl) ha rfl) ao (ag some (aJ h1))) rfl)) rfl aF) (an (aS (bD (cr (az (am (ac rfl) ha rfl) ao (ag some (aJ h2))) rfl)) rfl aF) (an (aS (bD (cr (az (am (ac rfl) ha rfl) ao (ag some (aJ h3))) rfl)) rfl aF) (an (aS (bD (cg (az (am (ac rfl) ha rfl) ao (ag some (beq_of_eq h4))) rfl (ch (az (am (ac rfl) ha rfl) ao (ag some (aJ a2)))))) rfl aF) (bb (bR ao))))))
  ·rfl
 apply cL (e:=[some (.ref a)]) rfl rfl
 ·exact(an (aS (bD (cr (az (am (ac rfl) ha rfl) ao (ag some (aJ h1))) rfl)) rfl aF) (an (aS (bD (cr (az (am (ac rfl) ha rfl) ao (ag some (aJ h2))) rfl)) rfl aF) (an (aS (bD (cr (az (am (ac rfl) ha rfl) ao (ag some (aJ h3))) rfl)) rfl aF) (an (aS (bD (cr (az (am (ac rfl) ha rfl) ao (ag some (aJ h4))) rfl)) rfl aF) (bb (bR ao))))))
 ·rfl
theorem rA (x:PA h p L Hd as d)(hf:d.flat=true)(hk:d.insts[k]?=some i)(w:Af d.insts.length d.heads i)(hD:h[D]?=some (.idict (dk hd)))(hh:∀q∈d.heads,q∈hd):
 ∃X,av aw N (n+1) 6 [.ref p,.int k,.ref D] h=some (.none,h++X):=by
 have hp0:=x.obj;have hp:∀y,(h++y)[p]?=_:=aY x.obj;have hl:∀y,(h++y)[L]?=_:=aY x.list;have hl0:=x.list;have hD':∀y,(h++y)[D]?=_:=aY hD;have hal:=x.insts.len;obtain⟨a,hsub,hinst⟩:=tn x.list x.insts hk;have hs0:cP h (.ref L) (.int k)=some (.ref a):=by have:=hsub [];rwa[List.append_nil] at this
 have hi0:h[a]?=some (.inst 0 i.fs):=by have:=hinst [];rwa[List.append_nil] at this
 by_cases o46:i.op=4\/i.op=6
 ·have hop:=zr (H:=[]) (aW o46)
  refine⟨[],?_⟩;rw[List.append_nil];apply cL (e:=[some (.ref p),some (.int k),some (.ref D),none,none]) rfl rfl
  ·exact(an (bf (bE (am (ac rfl) hp0 rfl) (ac rfl) hs0) (bk (aj rfl))) (bb (bX (az (am (ac rfl) hi0 rfl) (bS (ah ao (ah ao aN))) hop) rfl (bb (bR ao)))))
  ·rfl
 have hop:=zr (H:=[]) (aJ o46);obtain⟨h4,h6⟩:=not_or.mp o46;have na:=w.na;have ho:=w.w.out h4 h6;have q0:=ho.1;have q1:i.out< ((as.map V.ref).length:Nat):=by rw[aD,hal];exact ho.2
 have hin:i.out∈hd:=hh _ (w.out (by have:=w.w.op0;have:=w.w.op6;lia))
 have hii:=eB (hD' [.list [.int i.out]]) (aW hin);rw[hf] at hp;refine⟨[.list [.int i.out]],?_⟩;apply cL (e:=[some (.ref p),some (.int k),some (.ref D),none,none]) rfl rfl
 ·exact(an (bf (bE (am (ac rfl) hp0 rfl) (ac rfl) hs0) (bk (aj rfl))) (an (aS (az (am (ac rfl) hi0 rfl) (bS (ah ao (ah ao aN))) hop) rfl aF) (an (fC (kC (az (am (ac rfl) hi0 rfl) ao (ag some (aJ na))) rfl (bA (ah (am (ac rfl) hi0 rfl) aN) (aj rfl) fJ)) (dG br) (aj rfl) (d6 (cB br br) (an (aS (gB (fL ao (nS (ac rfl) (ag some (aW q0)) (pK (jh (am (ac rfl) (hp _) rfl) (hl _)) (ag some (aW q1))))) rfl) rfl aF) (an (aS (bD (cg (am (ac rfl) (hp _) rfl) rfl (ch (az (ac rfl) (ac rfl) (gO hii))))) rfl aF) aF)) (oN (cB br br)))) (bb (bR ao)))))
 ·rfl
noncomputable def AR:dz:=(dC.nth 4).body
noncomputable def yr:dz:=(dC.nth 5).body
theorem wX {x0 x2:Option V}{chk:H->Bool}(hchk:∀kv,chk (h++[.idict kv])=true):∀ (rest dn:List Int) (x4:Option V),(dn++rest).length<100000->
 ∃z4,dR 4 (bn (av aw N n) N AR) chk (rest.map .int) [x0,some (.ref q),x2,some (.ref h.length),x4,x5,x6] (h++[.idict (dk dn)])=some (.next,[x0,some (.ref q),x2,some (.ref h.length),z4,x5,x6],h++[.idict (dk (rest.foldl kJ dn))]):=by
 intro rest
 induction rest with
 | nil=>
   intro dn x4 _;exact⟨x4,by simp[eC,bK,hchk]⟩
 | cons k rest ih=>
   intro dn x4 hl
   have hss:cW (h++[.idict (dk dn)]) (.ref h.length) (.int k) (.bool true)=some (h++[.idict (dk (kJ dn k))]):=by rw[bd] at hl;exact(ix (l:=dn) br (by lia)).trans (ag some dE)
   have hb:bn (av aw N n) N AR ([x0,some (.ref q),x2,some (.ref h.length),x4,x5,x6].set 4 (some (.int k))) (h++[.idict (dk dn)])=some (.next,[x0,some (.ref q),x2,some (.ref h.length),some (.int k),x5,x6],h++[.idict (dk (kJ dn k))]):=
    iq (bf ao (f0 (ac rfl) (ac rfl) hss))
   have hi:=uD (l:=dn) (k:=k);obtain⟨z4,hz⟩:=ih (kJ dn k) (some (.int k)) (by simp at hl⊢;lia)
   refine⟨z4,?_⟩;rw[List.map_cons,bK,ap (hchk _),hb];exact hz
theorem vU:∀ (l dn:List Int) (k:Int),k∈l.foldl kJ dn↔k∈dn\/k∈l:=by
 intro l
 induction l with
 | nil=>
   intro dn k;simp
 | cons a l ih=>
   intro dn k;rw[List.foldl_cons,ih,da,List.mem_cons,or_assoc]
theorem wW {t:Nat}(x:PA h p L Hd as d)(hf:d.flat=true)(hk:d.insts[k]?=some i)(w:Af d.insts.length d.heads i)(hD:h[D]?=some (.idict (dk hd)))(hh:∀q∈d.heads,q∈hd){Y:H}:
 mR (fun X z5 z6=>bn (av aw N (n+1)) N yr ([some (.ref p),some (.ref q),some (.ref t),some (.ref D),x5,x5,x6].set 4 (some (.int k))) (h++Y)=some (.next,[some (.ref p),some (.ref q),some (.ref t),some (.ref D),some (.int k),z5,z6],h++(Y++X))):=by
 have hp:∀y,(h++y)[p]?=_:=aY x.obj;obtain⟨a,hsub,hinst⟩:=tn x.list x.insts hk;have c1:=rB (N:=N) (n:=n) (h:=h++Y) (hinst Y) w;obtain⟨X,c2⟩:=rA (N:=N) (n:=n) (x.mono (Le.app h Y)) hf hk w (aY hD Y) hh;have na:=w.na;refine⟨X,some (.ref a),some .none,?_⟩;rw[aH] at c2;exact(an (bf (bE (am (ac rfl) (hp _) rfl) (ac rfl) (hsub _)) (bk (aj rfl))) (an (fC (bS (ah (bL (ah (ac rfl) aN) c1) (ah (bL (ah (ac rfl) (ah (ac rfl) (ah (ac rfl) aN))) c2) aN))) rfl (aj rfl) (d6 rfl (an (aS (az (ac rfl) ao rfl) rfl aF) aF) (d6 rfl (an (aS (az (ac rfl) ao rfl) rfl aF) aF) (oN rfl)))) (an (aS (bD (cg (am (ac rfl) (hp _) rfl) (ag some hf) (ch (az (am (ac rfl) (hinst _) rfl) ao (ag some (aJ na)))))) rfl aF) aF)))
end
end
section
section
variable {N n:Nat}{h:H}{p L Hd D RA:Nat}{as:List Nat}{is:List I}{d:PD}
theorem pn {f:V->V->Option Bool}:∀ (l:List V),(∀v∈l,f v v=some true)->fm f l l=some true:=by
 intro l
 induction l with
 | nil=>
   intro _;exact rfl
 | cons v l ih=>
   intro hv;have:=ih fun u hu=>hv u (aP _ hu);simp only[lP,hv v aK,this,Bool.and_self]
theorem ga {H:Mine.H}{k a b:Nat}{l:List V}(ha:H[a]?=some (.list l))(hb:H[b]?=some (.list l))(hl:∀v∈l,f6 H k v v=some true):f6 H (k+1) (.ref a) (.ref b)=some true:=(DZ ha hb).trans ((ap rfl).trans (pn l hl))
theorem dT (H:Mine.H)(k:Nat)(i:Int):f6 H (k+1) (.int i) (.int i)=some true:=ag some (beq_self_eq_true i)
structure my (d:PD):Prop where
 flat:d.flat=true
 pos:1≤d.insts.length
 small:d.insts.length<20000
 first:(gi d.insts 0).op=6
 ok:∀i∈d.insts,Af d.insts.length d.heads i
 heads:d.heads=0::hr d.insts 0
 hl:d.heads.length<20000
 st:d.start∈d.heads
 lo:d.loose∈d.heads
 rng:∀q∈d.heads,0≤q/\q<d.insts.length
 last:cD (fun i pre=>d.insts=pre++[i]) (fun i pre=>i.last=true)
theorem wV {q t:Nat}(x:PA h p L Hd as d)(F:my d){hd:List Int}(hD:h[D]?=some (.idict (dk hd)))(hh:∀q∈d.heads,q∈hd){chk:H->Bool}(hchk:∀H,chk H=true):
 ∀ (suf pre:List I) (Y:H) (x4 x5 x6:Option V),d.insts=pre++suf->
   yo (fun X z4 z5 z6=>dR 4 (bn (av aw N (n+1)) N yr) chk ((List.range' pre.length suf.length).map fun(k:Nat)=>V.int k) [some (.ref p),some (.ref q),some (.ref t),some (.ref D),x4,x5,x6] (h++Y)=some (.next,[some (.ref p),some (.ref q),some (.ref t),some (.ref D),z4,z5,z6],h++(Y++X))):=by
 intro suf
 induction suf with
 | nil=>
   intro pre Y x4 x5 x6 _;exact⟨[],x4,x5,x6,by simp[eC,bK,hchk]⟩
 | cons i suf ih=>
   intro pre Y x4 x5 x6 e;have hk:d.insts[pre.length]?=some i:=by rw[e];simp
   obtain⟨X1,y5,y6,hb⟩:=wW (N:=N) (n:=n) (q:=q) (t:=t) (x5:=x5) (x6:=x6) (Y:=Y) x F.flat hk (F.ok i (List.mem_of_getElem? hk)) hD hh;obtain⟨X2,z4,z5,z6,hz⟩:=ih (pre++[i]) (Y++X1) (some (.int pre.length)) y5 y6 (by rw[e];simp)
   refine⟨X1++X2,z4,z5,z6,?_⟩;rw[List.length_cons,List.range'_succ,List.map_cons,bK,ap (hchk _)];have hb':bn (av aw N (n+1)) N yr ([some (.ref p),some (.ref q),some (.ref t),some (.ref D),x4,x5,x6].set 4 (some (.int pre.length))) (h++Y)=_:=hb;rw[hb'];simp only;have e2:(pre++[i]).length=pre.length+1:=by simp
   rw[e2] at hz;rw[hz,aH]
noncomputable def Ff:dz:=match dC with | .cons _ (.cons _ (.cons _ r))=>r | _=>.nil
theorem mq (x:PA h p L Hd as d)(F:my d):cD (fun q X=>av aw N (n+2) 7 [.ref p] h=some (.ref q,h++X)) (fun q X=>(h++X)[q]?=some (.list [])):=by
 have hp0:=x.obj;have hp:∀y,(h++y)[p]?=_:=aY x.obj;have hl:∀y,(h++y)[L]?=_:=aY x.list;have hhd:∀y,(h++y)[Hd]?=_:=aY x.heads;have hal:=x.insts.len;have hpos:=F.pos;have hne:¬as.length=0:=by lia
 have g0:=jo (is:=d.insts) (k:=0) (Int.le_refl _) (by lia)
 obtain⟨a0,hsub0,hin0⟩:=tn x.list x.insts (k:=0) g0;have b6:(!((gi d.insts 0).op==6))=false:=by rw[beq_of_eq F.first];rfl
 have hs':∀y,cP (h++y) (.ref L) (.int 0)=some (.ref a0):=hsub0;have hnE:(as.map V.ref).isEmpty=false:=by rw[List.isEmpty_map,List.isEmpty_eq_false_iff_exists_mem];exact List.exists_mem_of_length_pos (by lia)
 obtain⟨H2,hH2⟩:∃H2:H,h++[.list [],.list [],.list ((0::hr d.insts 0).map .int)]=H2:=⟨_,rfl⟩
 have cph:av aw N (n+1) 4 [.ref p] (h++[.list [],.list []])=some (.ref (h.length+2),H2):=by rw[m9 (x.mono (Le.app h _)) F.small hpos,bd,aH,<-hH2];rfl
 have le2:Le h H2:=by rw[<-hH2];exact Le.app _ _
 have x2:=x.mono le2;have gt:∀Y,(H2++Y)[h.length+2]?=some (.list (d.heads.map .int)):=fun Y=>aY (by rw[F.heads,<-hH2];exact bH rfl) Y
 have gf:∀Y,(H2++Y)[h.length]?=some (.list []):=fun Y=>aY (by rw[<-hH2];exact br) Y
 obtain⟨z4,hloop1⟩:=wX (N:=N) (n:=n+1) (h:=H2) (q:=h.length) (x0:=some (.ref p)) (x2:=some (.ref (h.length+2))) (x5:=none) (x6:=none) (chk:=dy (H2++[.idict (dk [])]) (.ref (h.length+2))) (fun kv=>cB (gt _) (gt _)) d.heads [] none (Nat.lt_trans F.hl (by decide))
 obtain⟨hd,hhdd⟩:∃hd,hd=d.heads.foldl kJ []:=⟨_,rfl⟩;rw[<-hhdd] at hloop1;have hmem:∀q∈d.heads,q∈hd:=fun q hq=>by rw[hhdd];exact(vU _ _ _).mpr (.inr hq)
 obtain⟨X5,y4,y5,y6,hloop2⟩:=wV (N:=N) (n:=n) (q:=h.length) (t:=h.length+2) (x2.mono (Le.app H2 [.idict (dk hd)])) F br hmem (chk:=dy (H2++[.idict (dk hd)]) (.range d.insts.length)) (fun z=>mo) d.insts [] [] z4 none none rfl;rw[aH,aH] at hloop2;have p4:∀Y,(H2++Y)[p]?=_:=aY x2.obj;have l4:∀Y,(H2++Y)[L]?=_:=aY x2.list;rw[F.flat] at p4;have l1:(d.insts.length:Int)<1000000:=by have:=F.small;lia
 have hq5:∀X,ax (av aw N (n+1)) (.range (.len (.attr (.var 0) 1 0))) [some (.ref p),some (.ref h.length),some (.ref (h.length+2)),some (.ref H2.length),z4,none,none] (H2++X)=some (.range d.insts.length,H2++X):=fun X=>by rw[<-hal,<-aD (f:=V.ref)] at l1⊢;exact qK (jh (am (ac rfl) (p4 _) rfl) (l4 _)) l1
 have hi5:∀H,items H (.range d.insts.length)=some ((List.range' 0 d.insts.length).map fun(k:Nat)=>V.int k):=fun H=>by rw[oj,ap ⟨by lia,l1⟩,List.range_eq_range'];rfl
 obtain⟨r1,r2⟩:=F.rng _ F.st;obtain⟨r3,r4⟩:=F.rng _ F.lo;rw[<-hal,<-aD (f:=V.ref)] at r2 r4;have k1:=eB (br (h:=H2) (r:=X5)) (aW (hmem _ F.st));have k2:=eB (br (h:=H2) (r:=X5)) (aW (hmem _ F.lo));obtain⟨il,pre,hlast,hil⟩:=F.last;obtain⟨al,e1,e2⟩:=x2.insts.get (show d.insts[pre.length]?=some il from by rw[hlast];exact List.getElem?_concat_length)
 have hinl:∀Y,(H2++Y)[al]?=_:=aY e2
 have hsl:∀Y,cP (H2++Y) (.ref L) (.int (-1))=some (.ref al):=fun Y=>by
  rw[iw,l4];dsimp only;rw[aD,nW (by lia),hal,hlast,bd]
  show(as.map V.ref)[pre.length]?=_
  rw[List.getElem?_map,e1];rfl
 have hil':(!il.last)=false:=by rw[hil];rfl
 have hne2:i7 (H2++.idict (dk hd)::X5) .ne (.ref Hd) (.ref (h.length+2))=some false:=BM (ga (k:=7) (aY x2.heads _) (gt _) (fun v hv=>by obtain⟨i,_,rfl⟩:=List.mem_map.mp hv;exact dT _ 6 i))
 have tail:execs (av aw N (n+1)) N Ff [some (.ref p),some (.ref h.length),some (.ref (h.length+2)),none,none,none,none] H2=some (.ret (.ref h.length),[some (.ref p),some (.ref h.length),some (.ref (h.length+2)),some (.ref H2.length),some (.int d.loose),y5,y6],H2++.idict (dk hd)::X5):=by exact(an (bf (em fJ) (bk (aj rfl))) (an (fC (ac rfl) (dG (gt _)) (aj rfl) hloop1) (an (fC (hq5 _) (hi5 _) (aj rfl) hloop2) (an (fC (bS (ah (am (ac rfl) (p4 _) rfl) (ah (am (ac rfl) (p4 _) rfl) aN))) rfl (aj rfl) (d6 rfl (an (aS (dP (cS (gB (fL ao (nS (ac rfl) (ag some (aW r1)) (pK (jh (am (ac rfl) (p4 _) rfl) (l4 _)) (ag some (aW r2))))) rfl) rfl (cV (bD (cg (am (ac rfl) (p4 _) rfl) rfl (ch (az (ac rfl) (ac rfl) (gO k1)))))))) rfl aF) aF) (d6 rfl (an (aS (dP (cS (gB (fL ao (nS (ac rfl) (ag some (aW r3)) (pK (jh (am (ac rfl) (p4 _) rfl) (l4 _)) (ag some (aW r4))))) rfl) rfl (cV (bD (cg (am (ac rfl) (p4 _) rfl) rfl (ch (az (ac rfl) (ac rfl) (gO k2)))))))) rfl aF) aF) (oN rfl)))) (an (aS (bD (cg (am (ac rfl) (p4 _) rfl) rfl (ch (dP (cS (az (am (ac rfl) (p4 _) rfl) (ac rfl) hne2) rfl (cV (gB (am (bE (am (ac rfl) (p4 _) rfl) (kf ao) (hsl _)) (hinl _) rfl) (ag some hil)))))))) rfl aF) (bb (bR (ac rfl))))))))
 refine⟨h.length,[.list [],.list [],.list ((0::hr d.insts 0).map .int)]++.idict (dk hd)::X5,?_,?_⟩
 ·rw[<-aH,hH2]
  apply cL (e:=[some (.ref p),none,none,none,none,none,none]) rfl rfl
  ·exact(an (bf (bA aN (aj rfl) fJ) (bk (aj rfl))) (an (aS (dP (cS (az (am (ac rfl) (hp _) rfl) (bA aN (aj rfl) lO) (zY (hl _) (bH rfl))) (ag some hnE) (cV (az (am (bE (am (ac rfl) (hp _) rfl) ao (hsub0 _)) (hin0 _) rfl) ao (ag some b6))))) rfl aF) (an (bf (bL (ah (ac rfl) aN) cph) (bk (aj rfl))) (an (bf (em fJ) (bk (aj rfl))) (an (fC (ac rfl) (dG (gt _)) (aj rfl) hloop1) (an (fC (hq5 _) (hi5 _) (aj rfl) hloop2) (an (fC (bS (ah (am (ac rfl) (p4 _) rfl) (ah (am (ac rfl) (p4 _) rfl) aN))) rfl (aj rfl) (d6 rfl (an (aS (dP (cS (gB (fL ao (nS (ac rfl) (ag some (aW r1)) (pK (jh (am (ac rfl) (p4 _) rfl) (l4 _)) (ag some (aW r2))))) rfl) rfl (cV (bD (cg (am (ac rfl) (p4 _) rfl) rfl (ch (az (ac rfl) (ac rfl) (gO k1)))))))) rfl aF) aF) (d6 rfl (an (aS (dP (cS (gB (fL ao (nS (ac rfl) (ag some (aW r3)) (pK (jh (am (ac rfl) (p4 _) rfl) (l4 _)) (ag some (aW r4))))) rfl) rfl (cV (bD (cg (am (ac rfl) (p4 _) rfl) rfl (ch (az (ac rfl) (ac rfl) (gO k2)))))))) rfl aF) aF) (oN rfl)))) (an (aS (bD (cg (am (ac rfl) (p4 _) rfl) rfl (ch (dP (cS (az (am (ac rfl) (p4 _) rfl) (ac rfl) hne2) rfl (cV (gB (am (bE (am (ac rfl) (p4 _) rfl) (kf ao) (hsl _)) (hinl _) rfl) (ag some hil)))))))) rfl aF) (bb (bR (ac rfl)))))))))))
  ·rfl
 ·rw[<-aH,hH2];exact gf _
end
end
section
variable {K S:List Int}{k:Int}{x3 x4 x5:Option V}
section
variable {N n:Nat}{h:H}{p L Hd D RA:Nat}{as:List Nat}{is:List I}{d:PD}
noncomputable def nx (i:I):List Int:=(if i.op=0 then [i.arg] else [])++(if i.op≠4/\i.op≠6 then [i.out] else [])
noncomputable def fR (h:H) (K S:List Int) (J:H):H:=h++.idict (dk K)::.list (S.reverse.map .int)::J
noncomputable def Dw:dz:=(gQ.nth 1).body
noncomputable def cR:Ex:=.cmp (.var 2) (.one .ne (.list .nil))
theorem uj {J:H}{x0:Option V}:eT (av aw N n) cR [x0,some (.ref h.length),some (.ref (h.length+1)),x3,x4,x5] (fR h K S J)=some (!S.isEmpty,fR h K S (J++[.list []])):=by
 have eA:fR h K S J++[.list []]=fR h K S (J++[.list []]):=aH h _ _;have eE:(S.reverse.map V.int).isEmpty=S.isEmpty:=by rw[List.isEmpty_map,List.isEmpty_reverse]
 exact eE▸gM (az (ac rfl) (bA aN (aj rfl) ⟨rfl,eA⟩) (ny (bH rfl) (eA▸br))) rfl
theorem yU (x:PA h p L Hd as d){J:H}(h0:0≤k)(h1:k<d.insts.length)(hK:K.length<1000)(hS:S.length<100000):
 ∃z4,bn (av aw N n) N Dw [some (.ref p),some (.ref h.length),some (.ref (h.length+1)),x3,x4,x5] (fR h K (k::S) J)=some (.next,[some (.ref p),some (.ref h.length),some (.ref (h.length+1)),some (.int k),z4,x5],
  if k∈K then fR h K S J else fR h (K++[k]) (nx (gi d.insts k)++S) J):=by
 have hp:∀y,(h++y)[p]?=_:=aY x.obj;obtain⟨a,hsub,hin⟩:=tn x.list x.insts (jo h0 h1);rw[Int.toNat_of_nonneg h0] at hsub
 by_cases hk:k∈K
 ·refine⟨x4,?_⟩
  have kk:=eB (H:=fR h K S J) (D:=h.length) (k:=k) br (aW hk);rw[ap hk];exact(an (bf (fp (ac rfl) (bH rfl) vh) (bk (aj rfl))) (an (aS (az (ac rfl) (ac rfl) (gO kk)) rfl aF) aF))
 ·refine⟨some (.ref a),?_⟩
  rw[au hk];have kk:=eB (H:=fR h K S J) (D:=h.length) (k:=k) br (aJ hk)
  have hss:cW (fR h K S J) (.ref h.length) (.int k) (.bool true)=some (fR h (K++[k]) S J):=by rw[<-ly hk];exact(ix (l:=K) br (by lia)).trans (ag some dE)
  have l2:S.length<1000000:=by lia
  have l3:S.length+1<1000000:=by lia
  by_cases o46:(gi d.insts k).op≠4/\(gi d.insts k).op≠6
  ·obtain⟨o4,o6⟩:=id o46
   rw[nx,ap o46]
   by_cases o0:(gi d.insts k).op=0
   ·rw[ap o0]
    exact(an (bf (fp (ac rfl) (bH rfl) vh) (bk (aj rfl))) (an (bX (az (ac rfl) (ac rfl) (gO kk)) rfl (an (bf ao (f0 (ac rfl) (ac rfl) hss)) (an (bf (bE (am (ac rfl) (hp _) rfl) (ac rfl) (hsub _)) (bk (aj rfl))) (an (bX (bD (cg (az (am (ac rfl) (hin _) rfl) ao (ag some (ki o4))) rfl (ch (az (am (ac rfl) (hin _) rfl) ao (ag some (ki o6)))))) rfl (an (nz (ac rfl) (bH rfl) (am (ac rfl) (hin _) rfl) (bH rfl) l2 vh) aF)) (an (bX (az (am (ac rfl) (hin _) rfl) ao (ag some (beq_of_eq o0))) rfl (an (nz (ac rfl) (bH rfl) (am (ac rfl) (hin _) rfl) (bH rfl) l3 vh) aF)) aF))))) aF))
   ·rw[au o0]
    exact(an (bf (fp (ac rfl) (bH rfl) vh) (bk (aj rfl))) (an (bX (az (ac rfl) (ac rfl) (gO kk)) rfl (an (bf ao (f0 (ac rfl) (ac rfl) hss)) (an (bf (bE (am (ac rfl) (hp _) rfl) (ac rfl) (hsub _)) (bk (aj rfl))) (an (bX (bD (cg (az (am (ac rfl) (hin _) rfl) ao (ag some (ki o4))) rfl (ch (az (am (ac rfl) (hin _) rfl) ao (ag some (ki o6)))))) rfl (an (nz (ac rfl) (bH rfl) (am (ac rfl) (hin _) rfl) (bH rfl) l2 vh) aF)) (an (aS (az (am (ac rfl) (hin _) rfl) ao (ag some (aJ o0))) rfl aF) aF))))) aF))
  ·have o0:(gi d.insts k).op≠0:=fun z=>o46 ⟨by rw[z];decide,by rw[z];decide⟩
   rw[nx,au o46,au o0]
   by_cases o4:(gi d.insts k).op=4
   ·exact(an (bf (fp (ac rfl) (bH rfl) vh) (bk (aj rfl))) (an (bX (az (ac rfl) (ac rfl) (gO kk)) rfl (an (bf ao (f0 (ac rfl) (ac rfl) hss)) (an (bf (bE (am (ac rfl) (hp _) rfl) (ac rfl) (hsub _)) (bk (aj rfl))) (an (aS (bD (cr (az (am (ac rfl) (hin _) rfl) ao (ag some (ur o4))) rfl)) rfl aF) (an (aS (az (am (ac rfl) (hin _) rfl) ao (ag some (aJ o0))) rfl aF) aF))))) aF))
   ·have o6:(gi d.insts k).op=6:=Classical.byContradiction fun z=>o46 ⟨o4,z⟩
    exact(an (bf (fp (ac rfl) (bH rfl) vh) (bk (aj rfl))) (an (bX (az (ac rfl) (ac rfl) (gO kk)) rfl (an (bf ao (f0 (ac rfl) (ac rfl) hss)) (an (bf (bE (am (ac rfl) (hp _) rfl) (ac rfl) (hsub _)) (bk (aj rfl))) (an (aS (bD (cg (az (am (ac rfl) (hin _) rfl) ao (ag some (ki o4))) rfl (ch (az (am (ac rfl) (hin _) rfl) ao (ag some (ur o6)))))) rfl aF) (an (aS (az (am (ac rfl) (hin _) rfl) ao (ag some (aJ o0))) rfl aF) aF))))) aF))
structure RI (d:PD) (K S:List Int):Prop where
 nd:K.Nodup
 k:∀q∈K,Reach d q
 s:∀q∈S,Reach d q
 c:∀q∈K,∀v∈nx (gi d.insts q),v∈K\/v∈S
 st:d.start∈K\/d.start∈S
 lo:d.loose∈K\/d.loose∈S
theorem xh (hk:Reach d k):∀v∈nx (gi d.insts k),Reach d v:=fun v hv=>by
 unfold nx at hv;rcases ba hv with hv | hv
 ·split at hv
  ·rename_i o;rw[aB hv];exact hk.arg o
  ·simp at hv
 ·split at hv
  ·rename_i o;rw[aB hv];exact hk.out o.1 o.2
  ·simp at hv
theorem Bj (i:I):(nx i).length≤2:=by
 unfold nx;rw[bd]
 split<;>split<;>simp
theorem yT (x:PA h p L Hd as d)(hs:d.insts.length<1000)(rng:∀k,Reach d k->0≤k/\k<d.insts.length):
 ∀ (F:Nat) (K S:List Int) (J:H) (x3 x4 x5:Option V),RI d K S->S.length+4*(d.insts.length-K.length)<F->S.length+4*(d.insts.length-K.length)<90000->
   s_ (fun K' J' z3 z4=>RI d K' []) (fun K' J' z3 z4=>dB (eT (av aw N n) cR) (bn (av aw N n) N Dw) F [some (.ref p),some (.ref h.length),some (.ref (h.length+1)),x3,x4,x5] (fR h K S J)=some (.next,[some (.ref p),some (.ref h.length),some (.ref (h.length+1)),z3,z4,x5],fR h K' [] J')):=by
 intro F
 induction F with
 | zero=>
   intro _ _ _ _ _ _ _ hF _;exact absurd hF (Nat.not_lt_zero _)
 | succ F ih=>
   intro K v9;cases v9 with
   | nil=>
     intro J x3 x4 x5 I hF hB;exact⟨K,J++[.list []],x3,x4,I,by rw[ef,uj];rfl⟩
   | cons k S=>
     intro J x3 x4 x5 I hF hB;rw[ef,uj];simp only[List.isEmpty_cons,Bool.not_false];simp only[List.length_cons] at hF hB;have hk:=I.s k aK;obtain⟨k0,k1⟩:=rng k hk;have hKl:=bW I.nd fun q hq=>rng q (I.k q hq);obtain⟨z4,hb⟩:=yU (N:=N) (n:=n) (K:=K) (S:=S) (J:=J++[.list []]) (x3:=x3) (x4:=x4) (x5:=x5) x k0 k1 (by lia) (by lia)
     rw[hb];simp only
     by_cases hin:k∈K
     ·rw[ap hin]
      have mv:∀ {q},(q∈K\/q∈k::S)->q∈K\/q∈S:=fun z=>z.elim .inl fun z=>(a_ z).elim (fun e=>.inl (e▸hin)) .inr;exact ih K S _ _ _ _ ⟨I.nd,I.k,fun q hq=>I.s q (aP _ hq),fun q hq v hv=>mv (I.c q hq v hv),mv I.st,mv I.lo⟩ (by lia) (by lia)
     ·rw[au hin]
      have nd':=cw I.nd hin
      have hk':∀q∈K++[k],Reach d q:=fun q hq=>by
       rcases ba hq with hq | hq
       ·exact I.k q hq
       ·rw[aB hq];exact hk
      have hKl':=bW nd' fun q hq=>rng q (hk' q hq);have hnl:=Bj (gi d.insts k);simp at hKl'
      have mv:∀ {q},(q∈K\/q∈k::S)->q∈K++[k]\/q∈nx (gi d.insts k)++S:=fun z=>by
       rcases z with z | z
       ·exact .inl (List.mem_append_left _ z)
       ·rcases a_ z with e | z
        ·rw[e];exact .inl (by simp)
        ·exact .inr (List.mem_append_right _ z)
      exact ih (K++[k]) _ _ _ _ _ ⟨nd',hk',fun q hq=>by
       rcases ba hq with hq | hq
       ·exact xh hk q hq
       ·exact I.s q (aP _ hq),fun q hq v hv=>by
       rcases ba hq with hq | hq
       ·exact mv (I.c q hq v hv)
       ·rw[aB hq] at hv;exact .inr (List.mem_append_left _ hv),mv I.st,mv I.lo⟩ (by simp;lia) (by simp;lia)
theorem RI.all (I:RI d K [])(hk:Reach d k):k∈K:=by
 induction hk with
 | start=>exact I.st.elim id fun z=>by simp at z
 | loose=>exact I.lo.elim id fun z=>by simp at z
 | out hk h1 h2 ih=>exact(I.c _ ih _ (by unfold nx;exact List.mem_append_right _ (by rw[ap ⟨h1,h2⟩];simp))).elim id fun z=>by simp at z
 | arg hk h1 ih=>exact(I.c _ ih _ (by unfold nx;exact List.mem_append_left _ (by rw[ap h1];simp))).elim id fun z=>by simp at z
theorem oY (x:PA h p L Hd as d){e:En}{Y:H}{chk:H->Bool}(hchk:chk (h++Y)=true)(he:e[0]?=some (some (.ref p)))(hel:5<e.length):
 ∀K:List Int,(∀k∈K,0≤k/\k<d.insts.length)->bp (fun bs=>aM h bs (K.map (gi d.insts))) (fun bs=>dv (ig (av aw N n) (.sub (.attr (.var 0) 1 0) (.var 5)) 5 e) chk (K.map .int) (h++Y)=some (bs.map .ref,h++Y))
 | [],_=>⟨[],trivial,by simp[jC,dj,hchk]⟩
 | k::K,hK=>by
   obtain⟨k0,k1⟩:=hK k aK;obtain⟨a,hsub,hin⟩:=tn x.list x.insts (jo k0 k1);rw[Int.toNat_of_nonneg k0] at hsub;have hp:=aY x.obj Y;obtain⟨bs,h1,h2⟩:=oY x hchk he hel K fun q hq=>hK q (aP _ hq);have e0:(e.set 5 (some (.int k)))[0]?=some (some (.ref p)):=by rw[List.getElem?_set_ne (by decide)];exact he
   have hb:ig (av aw N n) (.sub (.attr (.var 0) 1 0) (.var 5)) 5 e (.int k) (h++Y)=some ([.ref a],h++Y):=k9 (bE (am (ac e0) hp rfl) (ac (List.getElem?_set_self hel)) (hsub Y));refine⟨a::bs,⟨by have:=hin [];rwa[List.append_nil] at this,h1⟩,?_⟩
   rw[List.map_cons,dj,ap hchk,hb]
   dsimp only
   rw[h2]
   rfl
theorem v8 (x:PA h p L Hd as d)(hs:d.insts.length<1000)(rng:∀k,Reach d k->0≤k/\k<d.insts.length)(hN:900000≤N):
 yn (fun(K:List Int) (bs:List Nat) (q:Nat) (X:H)=>K.Nodup) (fun(K:List Int) (bs:List Nat) (q:Nat) (X:H)=>(∀k,Reach d k->k∈K)) (fun(K:List Int) (bs:List Nat) (q:Nat) (X:H)=>K.length≤d.insts.length) (fun(K:List Int) (bs:List Nat) (q:Nat) (X:H)=>aM h bs (K.map (gi d.insts))) (fun(K:List Int) (bs:List Nat) (q:Nat) (X:H)=>av aw N (n+1) 25 [.ref p] h=some (.ref q,h++X)) (fun(K:List Int) (bs:List Nat) (q:Nat) (X:H)=>(h++X)[q]?=some (.list (bs.map .ref))):=by
 have hp0:=x.obj
 obtain⟨K,J,z3,z4,I,hw⟩:=yT (N:=N) (n:=n) x hs rng N [] [d.loose,d.start] [] none none none ⟨List.nodup_nil,by simp,fun q hq=>by
  rcases a_ hq with rfl | hq
  ·exact .loose
  ·rw[aB hq];exact .start,by simp,.inr (by simp),.inr (by simp)⟩ (by simp;lia) (by simp;lia)
 have hKl:=bW I.nd fun q hq=>rng q (I.k q hq);have g0:(fR h K [] J)[h.length]?=some (.idict (dk K)):=br;obtain⟨bs,c1,c2⟩:=oY (N:=N) (n:=n) x (e:=[some (.ref p),some (.ref h.length),some (.ref (h.length+1)),z3,z4,none]) (Y:=.idict (dk K)::.list ([]:List V)::J) (chk:=dy (fR h K [] J) (.ref h.length)) (lI g0 g0 rfl) rfl (by simp) K fun q hq=>rng q (I.k q hq)
 have hbl:bs.length=K.length:=by have:=c1.len;simpa using this
 have hl:(bs.map V.ref).length≤1000000:=by rw[aD];lia
 refine⟨K,bs,(fR h K [] J).length,.idict (dk K)::.list ([]:List V)::J++[.list (bs.map .ref)],I.nd,fun k hk=>I.all hk,hKl,c1,?_,?_⟩
 ·rw[<-aH]
  exact cL (e:=[some (.ref p),none,none,none,none,none]) rfl rfl (an (fh (bS (ah (em fJ) (ah (bA (ah (am (ac rfl) (aY hp0 _) rfl) (ah (am (ac rfl) (aY hp0 _) rfl) aN)) (aj rfl) lO) aN))) rfl (db (bk (aj rfl)) (db (bk (aj rfl)) j3))) (an (AT hw) (bb (bR (kD (ac rfl) ((tI g0).trans (ag some lw)) c2 hl fJ))))) rfl
 ·rw[<-aH];exact br
end
end
section
variable {chk:H->Bool}
section
variable {N n:Nat}{h:H}{p L Hd D RA:Nat}{as:List Nat}{is:List I}{d:PD}
noncomputable def xi (i:I):List Int:=(if i.op≠4/\i.op≠6 then [i.out] else [])++(if i.op=0 then [i.arg] else [])
noncomputable def Dz:dz:=(eR.nth 1).body
theorem zi (hchk:∀Y,chk (h++Y)=true){x0 x3:Option V}:∀ (is:List I) (as:List Nat) (acc:List Int) (x2:Option V),aM h as is->acc.length+2*is.length<100000->
 ∃z2,dR 2 (bn (av aw N n) N Dz) chk (as.map .ref) [x0,some (.ref h.length),x2,x3] (h++[.list (acc.map .int)])=some (.next,[x0,some (.ref h.length),z2,x3],h++[.list ((acc++is.flatMap xi).map .int)]):=by
 intro is
 induction is with
 | nil=>
   intro v9;cases v9 with
   | nil=>
     intro acc x2 _ _;exact⟨x2,by simp[eC,bK,hchk]⟩
   | cons _ _=>
     intro _ _ x _;exact x.elim
 | cons i is ih=>
   intro v9;cases v9 with
   | nil=>
     intro _ _ x _;exact x.elim
   | cons a as=>
     intro acc x2 hi hl;have hia:∀y,(h++y)[a]?=_:=aY hi.1;simp only[List.length_cons] at hl;have l1:acc.length<1000000:=by lia
     have l2:acc.length+1<1000000:=by lia
     have hb:bn (av aw N n) N Dz ([x0,some (.ref h.length),x2,x3].set 2 (some (.ref a))) (h++[.list (acc.map .int)])=some (.next,[x0,some (.ref h.length),some (.ref a),x3],h++[.list ((acc++xi i).map .int)]):=by
      have l1':(acc.map V.int).length<1000000:=by rw[aD];exact l1
      rw[List.map_append]
      by_cases o46:i.op≠4/\i.op≠6
      ·obtain⟨o4,o6⟩:=o46
       rw[xi,ap ⟨o4,o6⟩]
       by_cases o0:i.op=0
       ·have l2':(acc.map V.int++[V.int i.out]).length<1000000:=by rw[bd,aD];exact l2
        rw[ap o0,List.map_append,<-aH];exact(an (bX (bD (cg (az (am (ac rfl) (hia _) rfl) ao (ag some (ki o4))) rfl (ch (az (am (ac rfl) (hia _) rfl) ao (ag some (ki o6)))))) rfl (an (gg (ac rfl) br (am (ac rfl) (hia _) rfl) br l1' dE) aF)) (an (bX (az (am (ac rfl) (hia _) rfl) ao (ag some (beq_of_eq o0))) rfl (an (gg (ac rfl) br (am (ac rfl) (hia _) rfl) br l2' dE) aF)) aF))
       ·rw[au o0]
        exact(an (bX (bD (cg (az (am (ac rfl) (hia _) rfl) ao (ag some (ki o4))) rfl (ch (az (am (ac rfl) (hia _) rfl) ao (ag some (ki o6)))))) rfl (an (gg (ac rfl) br (am (ac rfl) (hia _) rfl) br l1' dE) aF)) (an (aS (az (am (ac rfl) (hia _) rfl) ao (ag some (aJ o0))) rfl aF) aF))
      ·have o0:i.op≠0:=fun z=>o46 ⟨by rw[z];decide,by rw[z];decide⟩
       rw[xi,au o46,au o0];rw[List.append_nil,List.map_nil,List.append_nil]
       by_cases o4:i.op=4
       ·exact(an (aS (bD (cr (az (am (ac rfl) (hia _) rfl) ao (ag some (ur o4))) rfl)) rfl aF) (an (aS (az (am (ac rfl) (hia _) rfl) ao (ag some (aJ o0))) rfl aF) aF))
       ·have o6:i.op=6:=Classical.byContradiction fun z=>o46 ⟨o4,z⟩
        exact(an (aS (bD (cg (az (am (ac rfl) (hia _) rfl) ao (ag some (ki o4))) rfl (ch (az (am (ac rfl) (hia _) rfl) ao (ag some (ur o6)))))) rfl aF) (an (aS (az (am (ac rfl) (hia _) rfl) ao (ag some (aJ o0))) rfl aF) aF))
     have hn:(xi i).length≤2:=by unfold xi;rw[bd];split<;>split<;>simp
     obtain⟨z2,hz⟩:=ih as (acc++xi i) (some (.ref a)) hi.2 (by rw[bd];lia)
     refine⟨z2,?_⟩;rw[List.map_cons,bK,ap (hchk _),hb];simp only;rw[hz];simp
noncomputable def EW:Ex:=.cmp (.attr (.sub (.attr (.var 0) 1 0) (.var 3)) 0 0) (.one .eq (.lit (.int 5)))
theorem uv (x:PA h p L Hd as d){e:En}{Y:H}(hchk:chk (h++Y)=true)(he:e[0]?=some (some (.ref p)))(hel:3<e.length):
 ∀K:List Int,(∀k∈K,0≤k/\k<d.insts.length/\(gi d.insts k).op≠5)->dv (i6 (av aw N n) (.var 3) EW 3 e) chk (K.map .int) (h++Y)=some ([],h++Y)
 | [],_=>by simp[jC,dj,hchk]
 | k::K,hK=>by
   obtain⟨k0,k1,k5⟩:=hK k aK;obtain⟨a,hsub,hin⟩:=tn x.list x.insts (jo k0 k1);rw[Int.toNat_of_nonneg k0] at hsub;have hp:=aY x.obj Y;have b5:=aU k5;have e0:(e.set 3 (some (.int k)))[0]?=some (some (.ref p)):=by rw[List.getElem?_set_ne (by decide)];exact he
   have hb:i6 (av aw N n) (.var 3) EW 3 e (.int k) (h++Y)=some ([],h++Y):=nT (az (am (bE (am (ac e0) hp rfl) (ac (List.getElem?_set_self hel)) (hsub Y)) (hin Y) rfl) ao rfl) (ag some b5);rw[List.map_cons,dj,ap hchk,hb]
   dsimp only
   rw[uv x hchk he hel K fun q hq=>hK q (aP _ hq)]
   rfl
theorem zX (x:PA h p L Hd as d)(hs:d.insts.length<1000)(hno:∀k∈[d.start,d.loose]++d.insts.flatMap xi,0≤k/\k<d.insts.length/\(gi d.insts k).op≠5):
 ∃X,av aw N (n+1) 26 [.ref p] h=some (.bool false,h++X):=by
 have hp:∀y,(h++y)[p]?=_:=aY x.obj;have hp0:=x.obj;have hl:∀y,(h++y)[L]?=_:=aY x.list;obtain⟨W,hW⟩:∃W,W=[d.start,d.loose]++d.insts.flatMap xi:=⟨_,rfl⟩;obtain⟨z2,hz⟩:=zi (N:=N) (n:=n) (h:=h) (chk:=dy (h++[.list [.int d.start,.int d.loose]]) (.ref L)) (fun Y=>cB (hl _) (hl _)) (x0:=some (.ref p)) (x3:=none) d.insts as [d.start,d.loose] none x.insts (by simp;lia)
 rw[<-hW] at hz hno;have g:(h++[.list (W.map .int)])[h.length]?=some (.list (W.map .int)):=br;have hc:=uv (N:=N) (n:=n) x (e:=[some (.ref p),some (.ref h.length),z2,none]) (Y:=[.list (W.map .int)]) (chk:=dy (h++[.list (W.map .int)]) (.ref h.length)) (cB g g) rfl (by simp) W hno
 exact⟨_,cL (e:=[some (.ref p),none,none,none]) rfl rfl (an (bf (bA (ah (am (ac rfl) hp0 rfl) (ah (am (ac rfl) hp0 rfl) aN)) (aj rfl) fJ) (bk (aj rfl))) (an (fC (am (ac rfl) (hp _) rfl) (dG (hl _)) (aj rfl) hz) (bb (bR (az (sm (ac rfl) (dG g) hc (Nat.zero_le _) lO) (bA aN (Nat.zero_le _) wb) (ny (bH rfl) (bH rfl))))))) rfl⟩
end
end
section
variable {il:List I}{e:En}{Y H2:H}{ka k:Nat}{x:V}{chk:H->Bool}{bs:List Nat}{hd:Int}{c:Ex}
section
variable {N n:Nat}{h:H}{p L Hd D RA:Nat}{as:List Nat}{is:List I}{d:PD}
theorem wZ {H:Mine.H}{a b:I}(hne:de a≠de b):f6 H (k+2) (.tup (f8 a)) (.tup (f8 b))=some false:=by
 have e:f6 H (k+2) (.tup (f8 a)) (.tup (f8 b))=some ((a.op==b.op)&&((a.out==b.out)&&((a.arg==b.arg)&&((a.low==b.low)&&((a.high==b.high)&&(a.fold==b.fold)))))):=by simp[Aq,xc,Ap,f8,rG,lP]
 rw[e]
 congr 1
 by_cases h1:a.op=b.op
 ·by_cases h2:a.out=b.out
  ·by_cases h3:a.arg=b.arg
   ·by_cases h4:a.low=b.low
    ·by_cases h5:a.high=b.high
     ·have h6:a.fold≠b.fold:=fun z=>hne (by unfold de;rw[h1,h2,h3,h4,h5,z])
      simp[h6]
     ·simp[h5]
    ·simp[h4]
   ·simp[h3]
  ·simp[h2]
 ·simp[h1]
noncomputable def EX:Ex:=.cmp (.sub (.var 6) (.var 7)) (.one .isIn (.sliceTo (.var 6) (.var 7)))
noncomputable def cY (il:List I):List V:=il.map fun i=>V.tup (f8 i)
theorem sZ {f:V->V->Option Bool}(l:List V)(hv:∀v∈l,f v x=some false):kA f x l=some false:=by
 induction l with
 | nil=>rfl
 | cons v l ih=>rw[uR,hv v aK,ih fun u hu=>hv u (aP _ hu)];rfl
theorem pL {α:Type}{l:List α}(nd:l.Nodup){i j:Nat}{a b:α}(hi:l[i]?=some a)(hj:l[j]?=some b)(hij:i≠j):a≠b:=fun e=>by rw[e] at hi;exact hij ((List.getElem?_inj (bP hi).1 nd).mp (hi.trans hj.symm))
theorem zm (nd:(il.map de).Nodup)(hl:il.length≤1000000)(hg:h[ka]?=some (.list (cY il)))(hchk:∀Y,chk (h++Y)=true)(he:e[6]?=some (some (.ref ka)))(hel:7<e.length):
 ∀ (ats:List Nat) (Y:H),(∀k∈ats,k<il.length)->∃X,dv (i6 (av aw N n) (.var 7) EX 7 e) chk (ats.map fun(k:Nat)=>V.int k) (h++Y)=some ([],h++(Y++X)):=by
 intro ats
 induction ats with
 | nil=>
   intro Y _;exact⟨[],by simp[jC,dj,hchk]⟩
 | cons k ats ih=>
   intro Y hk;have hkl:=hk k aK;have e6:(e.set 7 (some (.int k)))[6]?=some (some (.ref ka)):=by rw[List.getElem?_set_ne (by decide)];exact he
   have e7:(e.set 7 (some (.int k)))[7]?=some (some (.int k)):=List.getElem?_set_self hel;have hgY:=aY hg Y
   have hget:(cY il)[k]?=some (.tup (f8 il[k])):=by unfold cY;rw[List.getElem?_map,List.getElem?_eq_getElem hkl];rfl
   have hs:=eY hgY hget;obtain⟨X,hX⟩:=ih (Y++[.list ((cY il).take k)]) fun q hq=>hk q (aP _ hq);refine⟨[.list ((cY il).take k)]++X,?_⟩
   have hsl:sliceTo (h++Y) (.ref ka) (.int k)=some (.ref (h++Y).length,h++Y++[.list ((cY il).take k)]):=by
    have l:((cY il).take k).length≤1000000:=by rw[List.length_take];unfold cY;rw[aD];lia
    simp only[A5,A4,wL,CP,hgY,dW,Int.toNat_natCast,ap l];rw[ap (by lia)]
   have hin:jm (h++Y++[.list ((cY il).take k)]) (.tup (f8 il[k])) (.ref (h++Y).length)=some false:=by
    have g:(h++Y++[.list ((cY il).take k)])[(h++Y).length]?=some (.list ((cY il).take k)):=by simp
    rw[mc,g];refine sZ _ fun v hv=> ?_;obtain⟨j,hj⟩:=List.mem_iff_getElem?.mp hv;rw[List.getElem?_take] at hj
    split at hj
    ·rename_i hjk
     unfold cY at hj;rw[List.getElem?_map] at hj;obtain⟨i,hi,rfl⟩:=Option.map_eq_some_iff.mp hj;refine wZ (k:=2) ?_;refine pL (i:=j) (j:=k) nd (by rw[List.getElem?_map,hi];rfl) (by rw[List.getElem?_map,List.getElem?_eq_getElem hkl];rfl) (by lia)
    ·cases hj
   have hb:i6 (av aw N n) (.var 7) EX 7 e (.int k) (h++Y)=some ([],h++Y++[.list ((cY il).take k)]):=by exact(nT (az (bE (ac e6) (ac e7) hs) (jM (ac e6) (ac e7) hsl) hin) rfl)
   rw[List.map_cons,dj,ap (hchk _),hb]
   dsimp only
   rw[aH,hX];simp
noncomputable def yt:dz:=(bm.nth 4).body
noncomputable def re (p q t:Nat) (y:List (Option V)):En:=[some (.ref p),some (.ref q),some (.ref t)]++y
theorem zn (hchk:chk Y=true)(hel:8<e.length):dv (ig (av aw N n) (.sub (.var 8) (.lit (.int 0))) 8 e) chk (cY il) Y=some (il.map fun i=>V.int i.op,Y):=by
 induction il with
 | nil=>simp[jC,dj,cY,hchk]
 | cons i il ih=>
   have e8:(e.set 8 (some (.tup (f8 i))))[8]?=some (some (.tup (f8 i))):=List.getElem?_set_self hel
   have hb:ig (av aw N n) (.sub (.var 8) (.lit (.int 0))) 8 e (.tup (f8 i)) Y=some ([.int i.op],Y):=by have hs:cP Y (.tup (f8 i)) (.int 0)=some (.int i.op):=rfl;exact(k9 (bE (ac e8) ao hs))
   unfold cY at ih⊢;rw[List.map_cons,dj,ap hchk,hb];simp only[ih]
   rfl
theorem Dc {H1:H}(e0:e[0]?=some (some (.ref p)))(e4:e[4]?=some (some (.int hd)))(e5:5<e.length)(e6:6<e.length)
 (hcall:av aw N (n+1) 22 [.ref p,.int hd] H1=some (.ref H1.length,H1++[.list (bs.map .ref)])) (hi:aM H1 bs il) (hl:il.length<1000):
 exec (av aw N (n+1)) N (yt.nth 0) e H1=some (.next,e.set 6 (some (.ref (H1.length+1))),H1++[.list (bs.map .ref),.list (cY il)]):=by
 have hi2:=hi.mono (Le.app H1 [.list (bs.map .ref)]);have g:(H1++[.list (bs.map .ref)])[H1.length]?=some (.list (bs.map .ref)):=by simp
 have hc:=jB (h:=H1++[.list (bs.map .ref)]) (g:=ig (av aw N (n+1)) (.call 20 (.cons (.var 5) .nil)) 5 e) (chk:=dy (H1++[.list (bs.map .ref)]) (.ref H1.length)) (r:=fun i=>V.tup (f8 i)) (cB g g) (fun a i ha=>by have:=Az (N:=N) (n:=n) ha;have e5':(e.set 5 (some (.ref a)))[5]?=some (some (.ref a)):=List.getElem?_set_self e5;exact(k9 (bL (ah (ac e5') aN) this))) hi2
 have l:(il.map fun i=>V.tup (f8 i)).length≤1000000:=by rw[aD];lia
 exact bf (kD (bL (ah (ac e0) (ah (ac e4) aN)) hcall) (dG g) hc l lO) (bk e6)
theorem Bu (hl:il.length<1000):items H2 (.range il.length)=some ((List.range il.length).map fun(k:Nat)=>V.int k):=by rw[oj,ap (by lia),Int.toNat_natCast]
theorem Dd (hl:il.length<1000)(e6:e[6]?=some (some (.ref ka)))(gK:H2[ka]?=some (.list (cY il))):ax (av aw N (n+1)) (.range (.len (.var 6))) e H2=some (.range il.length,H2):=by
 have lK:(cY il).length=il.length:=by simp[cY]
 have lr:(il.length:Int)<1000000:=by lia
 exact(qK (lX (ac e6) gK lK) lr)
theorem zu (hci:ax (av aw N (n+1)) c e H2=some (.ref Y.length,Y++[.list []])):ax (av aw N (n+1)) (.cmp c (.one .ne (.list .nil))) e H2=some (.bool false,Y++[.list [],.list []]):=az hci (bA aN (aj rfl) lO) (ny br (bH rfl))
theorem sv:dW Y []=some (.ref Y.length,Y++[.list []]):=ap (Nat.zero_le _)
theorem Bv {call:bV}{vs:List V}{it elt:Ex}(hr:ax call it e H2=some (x,H2))(hit:items H2 x=some vs)
 (hX1:dv (i6 call elt c k e) (dy H2 x) vs H2=some ([],Y)):
 ax call (.compIf elt k it c) e H2=some (.ref Y.length,Y++[.list []]):=by
 rw[vX,hr];simp only[hit,hX1];exact sv
theorem Db (nd:(il.map de).Nodup)(hl:il.length<1000)(e6:e[6]?=some (some (.ref ka)))(e7:7<e.length)(gK:H2[ka]?=some (.list (cY il))):
 ∃X,exec (av aw N (n+1)) N (yt.nth 1) e H2=some (.next,e,H2++X):=by
 obtain⟨X1,hX1⟩:=zm (N:=N) (n:=n+1) (h:=H2) (il:=il) nd (by lia) (ka:=ka) (e:=e) (chk:=dy H2 (.range il.length)) gK (fun y=>mo) e6 e7 (List.range il.length) [] (fun k hk=>List.mem_range.mp hk)
 simp only[List.append_nil,List.nil_append] at hX1;have hcmp:=zu (Bv (Dd (N:=N) (n:=n) hl e6 gK) (Bu hl) hX1);refine⟨X1++[.list [],.list []],?_⟩;rw[aH] at hcmp;exact aS hcmp rfl aF
theorem Da {H3:H}(h6:1<il.length->∀i∈il,i.op≠6)(hl:il.length<1000)(e6:e[6]?=some (some (.ref ka)))(e8:8<e.length)(gK:H3[ka]?=some (.list (cY il))):
 ∃X,exec (av aw N (n+1)) N (yt.nth 2) e H3=some (.next,e,H3++X):=by
 have lK:(cY il).length=il.length:=by simp[cY]
 have hlen:ax (av aw N (n+1)) (.len (.var 6)) e H3=some (.int il.length,H3):=by exact(lX (ac e6) gK lK)
 by_cases h1:1<il.length
 ·have hgt:decide ((1:Int)< (il.length:Int))=true:=by simp;lia
  have hc:=zn (N:=N) (n:=n+1) (il:=il) (e:=e) (Y:=H3) (chk:=dy H3 (.ref ka)) (cB gK gK) e8;have l:(il.map fun i=>V.int i.op).length≤1000000:=by rw[aD];lia
  have hin:jm (H3++[.list (il.map fun i=>V.int i.op)]) (.int 6) (.ref H3.length)=some false:=by
   have g:(H3++[.list (il.map fun i=>V.int i.op)])[H3.length]?=some (.list (il.map fun i=>V.int i.op)):=by simp
   rw[mc,g];refine sZ _ fun v hv=> ?_;rw[List.mem_map] at hv;obtain⟨i,hi,rfl⟩:=hv;have:=h6 h1 i hi;simp[Aq,this]
  refine⟨[.list (il.map fun i=>V.int i.op)],?_⟩;exact(aS (bD (cg (az hlen ao (ag some hgt)) rfl (ch (az ao (kD (ac e6) (dG gK) hc l fJ) hin)))) rfl aF)
 ·have hgt:decide ((1:Int)< (il.length:Int))=false:=by simp;lia
  refine⟨[],?_⟩;rw[List.append_nil];exact aS (bD (cr (az hlen ao (ag some hgt)) rfl)) rfl aF
theorem zv {q t:Nat}{x3 x4 x5 x6 x7 x8 x9 x10 x11 x12:Option V}(hcall:av aw N (n+1) 22 [.ref p,.int hd] (h++Y)=some (.ref (h++Y).length,h++Y++[.list (bs.map .ref)]))(hi:aM h bs il)(nd:(il.map de).Nodup)(h6:1<il.length->∀i∈il,i.op≠6)(hl:il.length<1000):
 mS (fun X z6=>bn (av aw N (n+1)) N yt ((re p q t [x3,x4,x5,x6,x7,x8,x9,x10,x11,x12]).set 4 (some (.int hd))) (h++Y)=some (.next,re p q t [x3,some (.int hd),x5,z6,x7,x8,x9,x10,x11,x12],h++(Y++X))):=by
 have t0:=Dc (N:=N) (n:=n) (e:=re p q t [x3,some (.int hd),x5,x6,x7,x8,x9,x10,x11,x12]) rfl rfl (by simp[re]) (by simp[re]) hcall (hi.mono (Le.app h Y)) hl
 generalize hH1:h++Y=H1 at t0
 have e1:(re p q t [x3,some (.int hd),x5,x6,x7,x8,x9,x10,x11,x12]).set 6 (some (.ref (H1.length+1)))=re p q t [x3,some (.int hd),x5,some (.ref (H1.length+1)),x7,x8,x9,x10,x11,x12]:=rfl;rw[e1] at t0;have gK:∀Z,(H1++[.list (bs.map .ref),.list (cY il)]++Z)[H1.length+1]?=some (.list (cY il)):=fun Z=>by simp
 obtain⟨X1,t1⟩:=Db (N:=N) (n:=n) (e:=re p q t [x3,some (.int hd),x5,some (.ref (H1.length+1)),x7,x8,x9,x10,x11,x12]) (ka:=H1.length+1) (H2:=H1++[.list (bs.map .ref),.list (cY il)]) nd hl rfl (by simp[re]) (by have:=gK [];simpa using this)
 obtain⟨X2,t2⟩:=Da (N:=N) (n:=n) (e:=re p q t [x3,some (.int hd),x5,some (.ref (H1.length+1)),x7,x8,x9,x10,x11,x12]) (ka:=H1.length+1) (H3:=H1++[.list (bs.map .ref),.list (cY il)]++X1) h6 hl rfl (by simp[re]) (gK X1)
 refine⟨[.list (bs.map .ref),.list (cY il)]++X1++X2,some (.ref (H1.length+1)),?_⟩
 have e3:h++(Y++([.list (bs.map .ref),.list (cY il)]++X1++X2))=H1++[.list (bs.map .ref),.list (cY il)]++X1++X2:=by rw[<-hH1];simp
 rw[e3];exact(aC t0).trans ((aC t1).trans ((aC t2).trans execs_nil))
end
end
section
variable {x:Int}{e:En}{l:List Int}
section
variable {N n:Nat}{h:H}{p q:Nat}{df dn:PD}{Lf Hf Ln Hn:Nat}{asf asn:List Nat}
theorem w_ (H:Mine.H)(k:Nat)(a x:Int):f6 H (k+1) (.int a) (.int x)=some (a==x):=rfl
theorem zo (H:Mine.H)(l:List Int):kA (f6 H 4) (.int x) (l.map .int)=some (decide (x∈l)):=by
 induction l with
 | nil=>rfl
 | cons a l ih=>
   rw[List.map_cons,uR,w_ H 3,ih];refine ag some ?_
   by_cases e:a=x
   ·subst e;simp
   ·simp[e,Ne.symm e]
theorem ot (l:List Int):kI (l.map .int)=some l:=by
 induction l with
 | nil=>rfl
 | cons a l ih=>exact ag (Option.map (a:: ·)) ih
theorem qf (h:x∈l):lz x (l.map .int)=some (l.idxOf x):=by unfold lz;rw[ot];simp[h]
noncomputable def wg:dz:=(bm.nth 2).body
theorem uf {T:Nat}(hT:T=h.length)(e2:e[2]?=some (some (.ref T)))(e3:3<e.length)(hl:l.length<1000):
 bn (av aw N n) N wg (e.set 3 (some (.int x))) (h++[.list (l.map .int)])=some (.next,e.set 3 (some (.int x)),h++[.list ((kJ l x).map .int)]):=by
 subst hT;have e2':(e.set 3 (some (.int x)))[2]?=some (some (.ref h.length)):=by rw[List.getElem?_set_ne (by decide)];exact e2
 have e3':(e.set 3 (some (.int x)))[3]?=some (some (.int x)):=List.getElem?_set_self e3
 have hin:jm (h++[.list (l.map .int)]) (.int x) (.ref h.length)=some (decide (x∈l)):=by rw[mc,bC];exact zo _ _
 have lm:(l.map V.int).length<1000000:=by rw[aD];lia
 by_cases hx:x∈l
 ·rw[aW hx] at hin
  have:kJ l x=l:=by unfold kJ;rw[ap hx]
  rw[this];exact(an (aS (az (ac e3') (ac e2') (gO hin)) rfl aF) aF)
 ·rw[aJ hx] at hin
  have:kJ l x=l++[x]:=by unfold kJ;rw[au hx]
  rw[this,List.map_append];exact iq (bX (az (ac e3') (ac e2') (gO hin)) rfl (iq (gg (ac e2') br (ac e3') br lm dE)))
noncomputable def Ac (h:H) (p:Nat) (N n:Nat) (hd:Int):Prop:=AO (fun il bs=>aM h bs il) (fun il bs=>(il.map de).Nodup) (fun il bs=>(1<il.length->∀i∈il,i.op≠6)) (fun il bs=>il.length<1000) (fun il bs=>∀Y,av aw N (n+1) 22 [.ref p,.int hd] (h++Y)=some (.ref (h++Y).length,h++Y++[.list (bs.map .ref)]))
theorem zt {t:Nat}{chk:H->Bool}(hchk:∀Y,chk (h++Y)=true):∀ (hds:List Int) (Y:H) (x3 x4 x5 x6 x7 x8 x9 x10 x11 x12:Option V),(∀k∈hds,Ac h p N n k)->
 mR (fun X z4 z6=>dR 4 (bn (av aw N (n+1)) N yt) chk (hds.map .int) (re p q t [x3,x4,x5,x6,x7,x8,x9,x10,x11,x12]) (h++Y)=some (.next,re p q t [x3,z4,x5,z6,x7,x8,x9,x10,x11,x12],h++(Y++X))):=by
 intro hds
 induction hds with
 | nil=>
   intro Y x3 x4 x5 x6 x7 x8 x9 x10 x11 x12 _;exact⟨[],x4,x6,by simp[eC,bK,hchk]⟩
 | cons k hds ih=>
   intro Y x3 x4 x5 x6 x7 x8 x9 x10 x11 x12 hk;obtain⟨il,bs,l1,l2,l3,l4,l5⟩:=hk k aK;obtain⟨X1,z6,hb⟩:=zv (N:=N) (n:=n) (p:=p) (q:=q) (t:=t) (hd:=k) (x3:=x3) (x4:=x4) (x5:=x5) (x6:=x6) (x7:=x7) (x8:=x8) (x9:=x9) (x10:=x10) (x11:=x11) (x12:=x12) (l5 Y) l1 l2 l3 l4;obtain⟨X2,z4',z6',hz⟩:=ih (Y++X1) x3 (some (.int k)) x5 z6 x7 x8 x9 x10 x11 x12 fun j hj=>hk j (aP _ hj);refine⟨X1++X2,z4',z6',?_⟩;rw[List.map_cons,bK,ap (hchk _),hb];simp only;rw[hz,aH]
noncomputable def Bb:Ex:=.cmp (.attr (.var 12) 0 0) (.one .eq (.var 11))
theorem yV {o:Int}{H:Mine.H}{chk:Mine.H->Bool}(hchk:chk H=true)(e11:e[11]?=some (some (.int o)))(e12:12<e.length):∀ (il:List I) (bs:List Nat),aM H bs il->
 bp (fun l=>dv (i6 (av aw N n) (.var 12) Bb 12 e) chk (bs.map .ref) H=some (l,H)) (fun l=>l.length=(il.filter fun i=>decide (i.op=o)).length):=by
 intro il
 induction il with
 | nil=>
   intro v9;cases v9 with
   | nil=>
     intro _;exact⟨[],by simp[jC,dj,hchk],rfl⟩
   | cons _ _=>
     intro x;exact x.elim
 | cons i il ih=>
   intro v9;cases v9 with
   | nil=>
     intro x;exact x.elim
   | cons b bs=>
     intro hi;obtain⟨l,h1,h2⟩:=ih bs hi.2;have e12':(e.set 12 (some (.ref b)))[12]?=some (some (.ref b)):=List.getElem?_set_self e12;have e11':(e.set 12 (some (.ref b)))[11]?=some (some (.int o)):=by rw[List.getElem?_set_ne (by decide)];exact e11
     have hia:=hi.1
     by_cases ho:i.op=o
     ·have b1:=beq_of_eq ho
      refine⟨.ref b::l,?_,by simp[ho,h2]⟩
      have hb:i6 (av aw N n) (.var 12) Bb 12 e (.ref b) H=some ([.ref b],H):=by exact(wT (az (am (ac e12') hia rfl) (ac e11') (ag some b1)) rfl (ac e12'))
      rw[List.map_cons,dj,ap hchk,hb];simp only[h1]
      rfl
     ·have b1:=aU ho
      refine⟨l,?_,by simp[ho,h2]⟩
      have hb:i6 (av aw N n) (.var 12) Bb 12 e (.ref b) H=some ([],H):=by exact(nT (az (am (ac e12') hia rfl) (ac e11') (ag some b1)) rfl)
      rw[List.map_cons,dj,ap hchk,hb];simp only[h1]
      rfl
noncomputable def Cp:dz:=(bm.nth 6).body
theorem zQ {il:List I}{bs:List Nat}{f:Int->Int}{c9 c10:Nat}(h9:h[c9]?=some (.idict (eU f)))(h10:h[c10]?=some (.list (bs.map .ref)))(hi:aM h bs il)(hl:il.length<1000)
 (e9:e[9]?=some (some (.ref c9))) (e10:e[10]?=some (some (.ref c10))) (el:e.length=13) {chk:H->Bool} (hchk:∀Y,chk Y=true):
 ∀ (ops:List Int) (Y:H) (y:Option V),(∀o∈ops,0≤o/\o≤6/\f o≤((il.filter fun i=>decide (i.op=o)).length:Int))->
   mS (fun X z=>dR 11 (bn (av aw N n) N Cp) chk (ops.map .int) (e.set 11 y) (h++Y)=some (.next,e.set 11 z,h++(Y++X))):=by
 intro ops
 induction ops with
 | nil=>
   intro Y y _;exact⟨[],y,by simp[eC,bK,hchk]⟩
 | cons o ops ih=>
   intro Y y ho;obtain⟨o0,o6,of⟩:=ho o aK;obtain⟨e',he'⟩:∃e':En,e'=e.set 11 (some (.int o)):=⟨_,rfl⟩;have es:(e.set 11 y).set 11 (some (.int o))=e':=by rw[List.set_set,he']
   have e9':e'[9]?=some (some (.ref c9)):=by rw[he',List.getElem?_set_ne (by decide)];exact e9
   have e10':e'[10]?=some (some (.ref c10)):=by rw[he',List.getElem?_set_ne (by decide)];exact e10
   have e11':e'[11]?=some (some (.int o)):=by rw[he'];exact List.getElem?_set_self (by rw[el];decide)
   have e12':12<e'.length:=by rw[he',List.length_set,el];decide
   have g9:=aY h9 Y;have g10:=aY h10 Y;obtain⟨l,c1,c2⟩:=yV (N:=N) (n:=n) (H:=h++Y) (chk:=dy (h++Y) (.ref c10)) (cB g10 g10) e11' e12' il bs (hi.mono (Le.app h Y));have hfl:=List.length_filter_le (fun i=>decide (i.op=o)) il;have ll:l.length≤1000000:=by lia
   have hci:ax (av aw N n) (.compIf (.var 12) 12 (.var 10) Bb) e' (h++Y)=some (.ref (h++Y).length,h++Y++[.list l]):=by exact sm (ac e10') (dG g10) c1 ll fJ
   have hlen:ax (av aw N n) (.len (.compIf (.var 12) 12 (.var 10) Bb)) e' (h++Y)=some (.int l.length,h++Y++[.list l]):=by exact jh hci br
   have hsub:cP (h++Y) (.ref c9) (.int o)=some (.int (f o)):=by rw[iw,g9];exact oZ o0 o6
   have hgt:decide (((l.length:Nat):Int)<f o)=false:=by rw[decide_eq_false_iff_not,c2];lia
   have hst:Cp=.cons (.if_ (.cmp (.sub (.var 9) (.var 11)) (.one .gt (.len (.compIf (.var 12) 12 (.var 10) Bb)))) (.cons (.ret (.lit (.bool false))) .nil) .nil) .nil:=rfl
   have hcmp:ax (av aw N n) (.cmp (.sub (.var 9) (.var 11)) (.one .gt (.len (.compIf (.var 12) 12 (.var 10) Bb)))) e' (h++Y)=some (.bool false,h++Y++[.list l]):=by exact(az (bE (ac e9') (ac e11') hsub) hlen (ag some hgt))
   have hb:bn (av aw N n) N Cp e' (h++Y)=some (.next,e',h++(Y++[.list l])):=by rw[hst];simp only[bn,DO,DN,DP,hcmp,ue,wC];rw[aH]
   obtain⟨X2,z,hz⟩:=ih (Y++[.list l]) (some (.int o)) fun j hj=>ho j (aP _ hj);refine⟨[.list l]++X2,z,?_⟩;rw[List.map_cons,bK,ap (hchk _),es,hb];simp only;rw[he',hz];simp
end
end
section
variable {call:bV}{e:En}{ak aO:H}{a b:Ex}{x y:V}
variable {N n:Nat}{h:H}{p q:Nat}{df dn:PD}{Lf Hf Ln Hn:Nat}{asf asn:List Nat}
theorem lY (H:Mine.H)(d:PD)(k:Nat):f6 H (k+2) (eN d) (eN d)=some true:=by simp[xc,zb,Ap,eN,rG,lP]
theorem tW {h:H}(h1:ax call a e h=some (x,ak))(h2:ax call b e ak=some (y,aO)):ax call (.tup (.cons a (.cons b .nil))) e h=some (.tup [x,y],aO):=by exact(bS (ah h1 (ah h2 aN)))
theorem eZ {h:H}(h1:ax call a e h=some (x,ak))(h2:ax call b e ak=some (y,aO))(hp:f6 aO 8 x y=some true):ax call (.cmp a (.one .ne b)) e h=some (.bool false,aO):=by exact(az h1 h2 (BM hp))
theorem uG {d:PD}{hd:Int}{k:Nat}(hk:d.heads[k]?=some hd){p L Hd:Nat}{as:List Nat}(x:PA h p L Hd as d)(Y:H):cP (h++Y) (.ref Hd) (.int k)=some (.int hd):=
 eY (aY x.heads Y) (by rw[List.getElem?_map,hk];rfl)
theorem BN (xf:PA h p Lf Hf asf df)(xn:PA h q Ln Hn asn dn)(F:my df)(hm:eN df=eN dn)(hls:∀k∈df.heads,Ac h p N (n+1) k)
 (hloose:df.heads[(fX dn).idxOf dn.loose]?=some df.loose) (hstart:df.heads[(fX dn).idxOf dn.start]?=some df.start)
 (hs:dn.insts.length<1000) (rng:∀k,Reach dn k->0≤k/\k<dn.insts.length) (hN:900000≤N)
 (hc:∀K:List Int,K.Nodup->(∀k,Reach dn k->k∈K)->∀o:Int,1≤o->o≤4->cnt df.insts o≤(((K.map (gi dn.insts)).filter fun i=>decide (i.op=o)).length:Int)):
 ∃X,av aw N (n+3) 27 [.ref p,.ref q] h=some (.bool true,h++X):=by
 have hpf0:=xf.obj;obtain⟨q7,X7,c7,g7⟩:=mq (N:=N) (n:=n) xf F;obtain⟨H1,hH1⟩:∃H1:H,H1=h++X7++[.list []]:=⟨_,rfl⟩;have le1:Le h H1:=by rw[hH1,aH];exact Le.app _ _
 have xf1:=xf.mono le1;have xn1:=xn.mono le1;obtain⟨e0,he0⟩:∃e0:En,e0=[some (.ref p),some (.ref q),none,none,none,none,none,none,none,none,none,none,none]:=⟨_,rfl⟩;have v0:∀ (H:Mine.H),ax (av aw N (n+2)) (.var 0) e0 H=some (.ref p,H):=fun H=>by rw[he0];exact(ac rfl)
 have v1:∀ (H:Mine.H),ax (av aw N (n+2)) (.var 1) e0 H=some (.ref q,H):=fun H=>by rw[he0];exact(ac rfl)
 have a1:ax (av aw N (n+2)) (.not (.attr (.var 0) 1 6)) e0 h=some (.bool false,h):=by simp[DS,CN,v0,yc,hpf0,F.flat,ue,wC]
 have a2:ax (av aw N (n+2)) (.cmp (.call 7 (.cons (.var 0) .nil)) (.one .ne (.list .nil))) e0 h=some (.bool false,H1):=by
  refine eZ (x:=.ref q7) (ak:=h++X7) (y:=.ref (h++X7).length) ?_ ?_ ?_
  ·exact(bL (ah (v0 _) aN) c7)
  ·rw[CO];simp only[DR,DQ,sv];rw[hH1]
  ·rw[hH1]
   exact ga (k:=7) (l:=[]) (aY g7 _) (by simp) (by simp)
 have a3:ax (av aw N (n+2)) (.cmp (.call 19 (.cons (.var 0) .nil)) (.one .ne (.call 19 (.cons (.var 1) .nil)))) e0 H1=some (.bool false,H1):=by
  have m1:=lL (N:=N) (n:=n+1) xf1;have m2:=lL (N:=N) (n:=n+1) xn1;refine eZ (x:=eN df) (ak:=H1) (y:=eN dn) ?_ ?_ ?_
  ·exact(bL (ah (v0 _) aN) m1)
  ·exact(bL (ah (v1 _) aN) m2)
  ·rw[hm];exact lY H1 dn 6
 have t0:exec (av aw N (n+2)) N (bm.nth 0) e0 h=some (.next,e0,H1):=by
  show exec (av aw N (n+2)) N (.if_ (.or (.cons (.not (.attr (.var 0) 1 6)) (.cons (.cmp (.call 7 (.cons (.var 0) .nil)) (.one .ne (.list .nil))) (.cons (.cmp (.call 19 (.cons (.var 0) .nil)) (.one .ne (.call 19 (.cons (.var 1) .nil)))) .nil)))) _ _) e0 h=_
  exact(aS (dP (cS a1 rfl (cS a2 rfl (cV a3)))) rfl aF)
 obtain⟨T,hT⟩:∃T,T=H1.length:=⟨_,rfl⟩;obtain⟨e1,he1⟩:∃e1:En,e1=e0.set 2 (some (.ref T)):=⟨_,rfl⟩;have e1l:e1.length=13:=by rw[he1,he0];rfl
 have e12:e1[2]?=some (some (.ref T)):=by rw[he1,he0];rfl
 have t1:exec (av aw N (n+2)) N (bm.nth 1) e0 H1=some (.next,e1,H1++[.list (([0]:List Int).map .int)]):=by rw[he1,he0,hT];exact(bf (bA (ah ao aN) (aj rfl) fJ) (bk (aj rfl)))
 obtain⟨e2,he2⟩:∃e2:En,e2=e1.set 3 (some (.int dn.start)):=⟨_,rfl⟩;have hp1:∀Y,(H1++Y)[p]?=_:=aY xf1.obj;have hq1:∀Y,(H1++Y)[q]?=_:=aY xn1.obj;have w0:∀ (x:Option V),(e1.set 3 x)[0]?=some (some (.ref p)):=fun x=>by rw[he1,he0];rfl
 have w1:∀ (x:Option V),(e1.set 3 x)[1]?=some (some (.ref q)):=fun x=>by rw[he1,he0];rfl
 have hw1:e1[1]?=some (some (.ref q)):=by rw[he1,he0];rfl
 have t2:exec (av aw N (n+2)) N (bm.nth 2) e1 (H1++[.list (([0]:List Int).map .int)])=some (.next,e2,H1++[.list ((fX dn).map .int)]):=by
  have b1:=uf (N:=N) (n:=n+2) (h:=H1) (T:=T) (l:=[0]) (x:=dn.loose) (e:=e1) hT e12 (by rw[e1l];decide) (by simp)
  have b2:=uf (N:=N) (n:=n+2) (h:=H1) (T:=T) (l:=kJ [0] dn.loose) (x:=dn.start) (e:=e1.set 3 (some (.int dn.loose))) hT (by rw[List.getElem?_set_ne (by decide)];exact e12) (by rw[List.length_set,e1l];decide) (by have:=uD (l:=[0]) (k:=dn.loose);simp at this;lia)
  rw[List.set_set] at b2;refine fc (x:=.tup [.int dn.loose,.int dn.start]) (vs:=[.int dn.loose,.int dn.start]) (ak:=H1++[O.list (([0]:List Int).map .int)]) ?_ rfl (by rw[e1l];decide) ?_
  ·refine tW (ak:=H1++[O.list (([0]:List Int).map .int)]) ?_ ?_
   ·exact(am (ac hw1) (hq1 _) rfl)
   ·exact(am (ac hw1) (hq1 _) rfl)
  ·rw[bK,ap iI]
   have b1':bn (av aw N (n+2)) N wg (e1.set 3 (some (.int dn.loose))) (H1++[.list (([0]:List Int).map .int)])=_:=b1
   have b2':bn (av aw N (n+2)) N wg ((e1.set 3 (some (.int dn.loose))).set 3 (some (.int dn.start))) (H1++[.list ((kJ [0] dn.loose).map .int)])=some (.next,e2,H1++[.list ((fX dn).map .int)]):=by rw[List.set_set,b2,he2];rfl
   show(match bn (av aw N (n+2)) N wg (e1.set 3 (some (.int dn.loose))) (H1++[.list (([0]:List Int).map .int)]) with
    | some (.next,cK,aO)=>dR 3 (bn (av aw N (n+2)) N wg) (dy (H1++[O.list (([0]:List Int).map .int)]) (.tup [.int dn.loose,.int dn.start])) [.int dn.start] cK aO
    | some (.cont,cK,aO)=>dR 3 (bn (av aw N (n+2)) N wg) (dy (H1++[O.list (([0]:List Int).map .int)]) (.tup [.int dn.loose,.int dn.start])) [.int dn.start] cK aO
    | some (.ret v,cK,aO)=>some (.ret v,cK,aO)
    | none=>none)=_
   rw[b1'];simp only;rw[bK,ap iI];rw[b2'];simp only[eC,bK]
   rfl
 obtain⟨H2,hH2⟩:∃H2:H,H2=H1++[.list ((fX dn).map .int)]:=⟨_,rfl⟩;rw[<-hH2] at t2;have le2:Le h H2:=by rw[hH2];exact le1.trans (Le.app _ _)
 have xf2:=xf.mono le2;have xn2:=xn.mono le2;have gT:H2[T]?=some (.list ((fX dn).map .int)):=by rw[hH2,hT];simp
 have hp2:=xf2.obj;have hq2:=xn2.obj;have z0:e2[0]?=some (some (.ref p)):=by rw[he2];exact w0 _
 have z1:e2[1]?=some (some (.ref q)):=by rw[he2];exact w1 _
 have z2:e2[2]?=some (some (.ref T)):=by rw[he2,List.getElem?_set_ne (by decide)];exact e12
 have mst:dn.start∈fX dn:=da.mpr (.inr rfl);have mlo:dn.loose∈fX dn:=da.mpr (.inl (da.mpr (.inr rfl)));have sl1:=uG hloose xf2 [];have sl2:=uG hstart xf2 [];rw[List.append_nil] at sl1 sl2
 have t3:exec (av aw N (n+2)) N (bm.nth 3) e2 H2=some (.next,e2,H2):=by
  have i1:=qf mlo;have i2:=qf mst
  have c1:ax (av aw N (n+2)) (.cmp (.attr (.var 0) 1 2) (.one .ne (.sub (.attr (.var 0) 1 7) (.index (.var 2) (.attr (.var 1) 1 2))))) e2 H2=some (.bool false,H2):=by
   refine eZ (x:=.int df.loose) (ak:=H2) (y:=.int df.loose) ?_ ?_ (dT H2 7 _)
   ·exact(am (ac z0) hp2 rfl)
   ·exact(bE (am (ac z0) hp2 rfl) (uk (ac z2) (am (ac z1) hq2 rfl) gT i1) sl1)
  have c2:ax (av aw N (n+2)) (.cmp (.attr (.var 0) 1 1) (.one .ne (.sub (.attr (.var 0) 1 7) (.index (.var 2) (.attr (.var 1) 1 1))))) e2 H2=some (.bool false,H2):=by
   refine eZ (x:=.int df.start) (ak:=H2) (y:=.int df.start) ?_ ?_ (dT H2 7 _)
   ·exact(am (ac z0) hp2 rfl)
   ·exact(bE (am (ac z0) hp2 rfl) (uk (ac z2) (am (ac z1) hq2 rfl) gT i2) sl2)
  show exec (av aw N (n+2)) N (.if_ (.or (.cons (.cmp (.attr (.var 0) 1 2) (.one .ne (.sub (.attr (.var 0) 1 7) (.index (.var 2) (.attr (.var 1) 1 2))))) (.cons (.cmp (.attr (.var 0) 1 1) (.one .ne (.sub (.attr (.var 0) 1 7) (.index (.var 2) (.attr (.var 1) 1 1))))) .nil))) _ _) e2 H2=_
  exact(aS (dP (cS c1 rfl (cV c2))) rfl aF)
 have hls2:∀k∈df.heads,Ac H2 p N (n+1) k:=fun k hk=>by
  obtain⟨il,bs,l1,l2,l3,l4,l5⟩:=hls k hk;refine⟨il,bs,l1.mono le2,l2,l3,l4,fun Y=> ?_⟩;have:=l5 (X7++[.list []]++[.list ((fX dn).map .int)]++Y);have e:h++(X7++[.list []]++[.list ((fX dn).map .int)]++Y)=H2++Y:=by rw[hH2,hH1];simp
  rw[e] at this;exact this
 have hd2:∀Y,(H2++Y)[Hf]?=_:=aY xf2.heads;have e2e:e2=re p q T [some (.int dn.start),none,none,none,none,none,none,none,none,none]:=by rw[he2,he1,he0];rfl
 obtain⟨X4,z4,z6,hz⟩:=zt (N:=N) (n:=n+1) (h:=H2) (p:=p) (q:=q) (t:=T) (chk:=dy H2 (.ref Hf)) (fun Y=>cB xf2.heads (hd2 Y)) df.heads [] (some (.int dn.start)) none none none none none none none none none hls2;simp only[List.append_nil,List.nil_append] at hz;obtain⟨e4,he4⟩:∃e4:En,e4=re p q T [some (.int dn.start),z4,none,z6,none,none,none,none,none,none]:=⟨_,rfl⟩
 have t4:exec (av aw N (n+2)) N (bm.nth 4) e2 H2=some (.next,e4,H2++X4):=by
  refine fc (x:=.ref Hf) (vs:=df.heads.map .int) (ak:=H2) ?_ ?_ (by rw[e2e];simp[re]) ?_
  ·exact(am (ac z0) hp2 rfl)
  ·exact dG xf2.heads
  ·rw[e2e,he4];exact hz
 have xf4:=xf2.mono (Le.app H2 X4);have c3:=mr (N:=N) (n:=n+1) xf4 (fun i hi=>⟨(F.ok i hi).w.op0,(F.ok i hi).w.op6⟩);obtain⟨H5,hH5⟩:∃H5:H,H5=H2++X4++[.idict (eU fun k=>cnt df.insts k)]:=⟨_,rfl⟩;rw[<-hH5] at c3;have xn5:PA H5 q Ln Hn asn dn:=by rw[hH5];exact(xn2.mono (Le.app H2 X4)).mono (Le.app _ _)
 obtain⟨K,bs,q5,X5,k1,k2,k3,k4,k5,k6⟩:=v8 (N:=N) (n:=n+1) xn5 hs rng hN;obtain⟨e5,he5⟩:∃e5:En,e5=(e4.set 9 (some (.ref (H2++X4).length))).set 10 (some (.ref q5)):=⟨_,rfl⟩
 have t5:exec (av aw N (n+2)) N (bm.nth 5) e4 (H2++X4)=some (.next,e5,H5++X5):=by
  have u0:e4[0]?=some (some (.ref p)):=by rw[he4];rfl
  have u1:e4[1]?=some (some (.ref q)):=by rw[he4];rfl
  have u9:9<e4.length:=by rw[he4];simp[re]
  have u10:10< (e4.set 9 (some (.ref (H2++X4).length))).length:=by rw[List.length_set,he4];simp[re]
  rw[he5];exact fh (bS (ah (bL (ah (ac u0) aN) c3) (ah (bL (ah (ac u1) aN) k5) aN))) rfl (db (bk u9) (db (bk u10) j3))
 have g9:(H5++X5)[(H2++X4).length]?=some (.idict (eU fun k=>cnt df.insts k)):=aY (by rw[hH5];simp) _
 have e5l:e5.length=13:=by rw[he5,he4];simp[re]
 have e59:e5[9]?=some (some (.ref (H2++X4).length)):=by rw[he5,he4];rfl
 have e510:e5[10]?=some (some (.ref q5)):=by rw[he5,he4];rfl
 have hil:(K.map (gi dn.insts)).length<1000:=by rw[aD];lia
 obtain⟨X6,z11,hz6⟩:=zQ (N:=N) (n:=n+2) (h:=H5++X5) (e:=e5) g9 k6 (k4.mono (Le.app _ _)) hil e59 e510 e5l (chk:=dy (H5++X5) (.tup [.int 1,.int 2,.int 3,.int 4])) (fun z=>iI) [1,2,3,4] [] none (fun o ho=>by
  have:1≤o/\o≤4:=by
   simp at ho
   lia
  exact⟨by lia,by lia,hc K k1 k2 o this.1 this.2⟩)
 have e5s:e5.set 11 none=e5:=by rw[he5,he4];rfl
 rw[e5s] at hz6;simp only[List.append_nil,List.nil_append] at hz6
 have t6:exec (av aw N (n+2)) N (bm.nth 6) e5 (H5++X5)=some (.next,e5.set 11 z11,H5++X5++X6):=by
  refine fc (x:=.tup [.int 1,.int 2,.int 3,.int 4]) (vs:=[.int 1,.int 2,.int 3,.int 4]) (ak:=H5++X5) ?_ rfl (by rw[e5l];decide) ?_
  ·exact(bS (ah ao (ah ao (ah ao (ah ao aN)))))
  ·exact hz6
 have t7:exec (av aw N (n+2)) N (bm.nth 7) (e5.set 11 z11) (H5++X5++X6)=some (.ret (.bool true),e5.set 11 z11,H5++X5++X6):=by exact(bR ao)
 refine⟨X7++[.list []]++[.list ((fX dn).map .int)]++X4++[.idict (eU fun k=>cnt df.insts k)]++X5++X6,?_⟩;have e:h++(X7++[.list []]++[.list ((fX dn).map .int)]++X4++[.idict (eU fun k=>cnt df.insts k)]++X5++X6)=H5++X5++X6:=by rw[hH5,hH2,hH1];simp
 rw[e];refine fu (fd:=eQ) (e:=e0) rfl (by rw[he0];rfl) ((aC t0).trans ((aC t1).trans ((aC t2).trans ((aC t3).trans ((aC t4).trans ((aC t5).trans ((aC t6).trans (fr t7))))))))
end
section
variable {G G':List (Int×I)}{l:List I}{r:Int}{M S M':List Int}{n:Nat}{j:I}
variable {is:List I}{R:List Int}{ow:List (Int×Int)}{d:PD}
theorem qU {α β γ:Type}{f:α->β}{g:α->γ}{l:List α}(nd:(l.map f).Nodup)(h:∀a∈l,∀b∈l,g a=g b->f a=f b):(l.map g).Nodup:=by
 induction l with
 | nil=>exact List.nodup_nil
 | cons a l ih=>
   rw[List.map_cons,List.nodup_cons] at nd⊢;refine⟨fun z=>nd.1 ?_,ih nd.2 fun x hx y hy e=>h x (aP _ hx) y (aP _ hy) e⟩;rw[List.mem_map] at z⊢;obtain⟨b,hb,e⟩:=z;exact⟨b,hb,h b (aP _ hb) a aK e⟩
theorem sf {β:Type}(f:I->β)(hf:∀i,f (i0 i)=f i)(l:List I):(nM l).map f=l.map f:=by
 induction l with
 | nil=>rfl
 | cons i r ih=>cases r with
   | nil=>exact ag (· ::[]) (hf i)
   | cons j r=>exact ag (f i:: ·) ih
theorem wO {i:I}(h:i∈nM l):∃j∈l,i=j\/i=i0 j:=by
 induction l with
 | nil=>cases h
 | cons a r ih=>cases r with
   | nil=>exact⟨a,aK,.inr (aB h)⟩
   | cons j r=>
     rcases a_ h with rfl | h
     ·exact⟨i,aK,.inl rfl⟩
     ·obtain⟨y,hy,e⟩:=ih h
      exact⟨y,aP _ hy,e⟩
theorem ee.keys (x:ee is R r S M G M' G'):(G.map fun q=>de q.2).Nodup->(G'.map fun q=>de q.2).Nodup:=by
 have ad:∀ {G:List (Int×I)} {k:Int} {i:I},(G.map fun q=>de q.2).Nodup->((iO G k i).map fun q=>de q.2).Nodup:=fun{G k i} h=>by
  unfold iO;split
  ·exact h
  ·rename_i hn;rw[List.map_append];exact cw h hn
 induction x with
 | nil M G=>exact id
 | skip _ _ ih=>exact ih
 | root _ _ _ _ _ ih=>exact fun h=>ih (ad h)
 | alt _ _ _ _ _ ih=>exact ih
 | leaf _ _ _ _ _ _ ih=>exact fun h=>ih (ad h)
theorem ee.nodes (x:ee is R r S M G M' G'):(G.map (·.1)).Nodup->(∀q∈G,q.1∈M)->(G'.map (·.1)).Nodup:=by
 have ad:∀ {G:List (Int×I)} {M:List Int} {k:Int} {i:I},k∉M->(G.map (·.1)).Nodup->(∀q∈G,q.1∈M)->((iO G k i).map (·.1)).Nodup/\∀q∈iO G k i,q.1∈M++[k]:=fun{G M k i} hk h hm=>by
  unfold iO;split
  ·exact⟨h,fun q hq=>List.mem_append_left _ (hm q hq)⟩
  ·refine⟨?_,fun q hq=> ?_⟩
   ·rw[List.map_append]
    refine cw h fun z=>hk ?_;rw[List.mem_map] at z;obtain⟨q,hq,e⟩:=z;have e':q.1=k:=e;rw[<-e'];exact hm q hq
   ·rcases ba hq with hq | hq
    ·exact List.mem_append_left _ (hm q hq)
    ·rw[aB hq];simp
 induction x with
 | nil M G=>exact fun h y=>h
 | skip _ _ ih=>exact ih
 | root hk _ _ _ _ ih=>exact fun h hm=>ih (ad hk h hm).1 (ad hk h hm).2
 | alt hk _ _ _ _ ih=>exact fun h hm=>ih h fun q hq=>List.mem_append_left _ (hm q hq)
 | leaf hk _ _ _ _ _ ih=>exact fun h hm=>ih (ad hk h hm).1 (ad hk h hm).2
theorem zI (h:j∈b9 G):(G=[]/\j=i0 mK)\/∃q∈G,j=q.2\/j=i0 q.2:=by
 unfold b9 at h
 split at h
 ·rename_i e
  exact .inl ⟨e,aB h⟩
 ·obtain⟨i,hi,e⟩:=wO h
  rw[List.mem_map] at hi;obtain⟨q,hq,rfl⟩:=hi;exact .inr ⟨q,hq,e⟩
theorem oK (X:jX is R ow)(hr:r∈R)(x:ee is R r [r] [] [] M G)(h:j∈b9 G):
 pS is.length {j with last:=false}/\j.op≠0/\(j.op=1\/j.op=2\/j.op=3\/j.op=5->j.out∈R)/\(G≠ []->j.op≠6):=by
 have key:∀i:I,(i.op=j.op/\i.out=j.out/\i.arg=j.arg/\i.low=j.low/\i.high=j.high)->pS is.length i->pS is.length {j with last:=false}:=fun i e w=>
  ⟨by rw[show({j with last:=false}:I).op=i.op from e.1.symm];exact w.op0,by rw[show({j with last:=false}:I).op=i.op from e.1.symm];exact w.op6,
   fun h4 h6=>by have:=w.out (by rw[e.1];exact h4) (by rw[e.1];exact h6);rw[e.2.1] at this;exact this,
   fun h0=>by have:=w.alt (e.1.trans h0);rw[e.2.2.1] at this;exact this,
   fun h1=>by have:=w.rng (e.1.trans h1);rw[e.2.2.2.1,e.2.2.2.2] at this;exact this,
   fun h1=>by have:=w.cap (e.1.trans h1);rw[e.2.2.1] at this;exact this,
   fun h1=>by have:=w.emp (e.1.trans h1);rw[e.2.2.1] at this;exact this,
   fun h1=>by have:=w.mat (e.1.trans h1);rw[e.2.2.1] at this;exact this⟩
 rcases zI h with⟨e,rfl⟩ | ⟨q,hq,e⟩
 ·refine⟨⟨by decide,by decide,fun y h=>absurd rfl h,fun h=>absurd h (by decide),fun h=>absurd h (by decide),fun h=>absurd h (by decide),fun h=>absurd h (by decide),fun h=>absurd h (by decide)⟩,by decide,fun h=> ?_,fun z=>absurd e z⟩
  have h':(6:Int)=1\/(6:Int)=2\/(6:Int)=3\/(6:Int)=5:=h
  lia
 ·have ej:q.2.op=j.op/\q.2.out=j.out/\q.2.arg=j.arg/\q.2.low=j.low/\q.2.high=j.high:=by
   rcases e with e | e<;>rw[e]<;>exact⟨rfl,rfl,rfl,rfl,rfl⟩
  rcases x.src0 X hr q hq with⟨g1,_,g2⟩ | ⟨g1,g2,g3,g4,g5⟩
  ·have r1:=X.rr _ g1
   refine⟨key (l6 q.1) (by rw[<-g2];exact ej) ⟨by show(0:Int)≤5;decide,by show(5:Int)≤6;decide,fun y y=>r1,fun h=>absurd h (by show ¬ (5:Int)=0;decide),fun h=>absurd h (by show ¬ (5:Int)=1;decide),fun h=>absurd h (by show ¬ (5:Int)=2;decide),fun h=>absurd h (by show ¬ (5:Int)=3;decide),fun h=>absurd h (by show ¬ (5:Int)=4;decide)⟩,?_,fun y=> ?_,fun y=> ?_⟩
   ·rw[<-ej.1,g2];show(5:Int)≠0;decide
   ·rw[<-ej.2.1,g2];exact g1
   ·rw[<-ej.1,g2];show(5:Int)≠6;decide
  ·have hk:Kn R ow q.1:=g1.elim (fun e=>.inl (e▸hr)) fun e=>.inr ⟨r,e⟩
   have wf:=X.w.at (X.kr hk).1 (X.kr hk).2;have eo:q.2.op=(gi is q.1).op:=by rw[g5];rfl
   refine⟨key (fj (gi is q.1)) (by rw[<-g5];exact ej) ⟨wf.op0,wf.op6,fun h4 h6=> ?_,fun h=>absurd h g2,wf.rng,wf.cap,wf.emp,wf.mat⟩,?_,fun o=> ?_,fun y=> ?_⟩
   ·have h4':(gi is q.1).op≠4:=h4
    show 0≤(if(gi is q.1).op=4 then 0 else(gi is q.1).out)/\(if(gi is q.1).op=4 then 0 else(gi is q.1).out)<is.length
    rw[au h4'];exact wf.out h4 h6
   ·rw[<-ej.1,eo];exact g2
   ·rw[<-ej.1,eo] at o
    have h4':(gi is q.1).op≠4:=by lia
    rw[<-ej.2.1,g5]
    show(if(gi is q.1).op=4 then 0 else(gi is q.1).out)∈R
    rw[au h4'];exact X.step _ hk (by lia)
   ·rw[<-ej.1,eo];exact g4
theorem Bz (z:List (Int×Int))(l:List I)(n:Nat):hr (l.map (dF z)) n=hr l n:=by
 induction l generalizing n with
 | nil=>rfl
 | cons i r ih=>cases r with
   | nil=>rfl
   | cons j r=>rw[Cr,<-ih];rw[List.map_cons,List.map_cons,Cr,jL]
theorem zx {rest:List I}(h:cZ l)(h0:rest≠ []):hr (l++rest) n=((n+l.length:Nat):Int)::hr rest (n+l.length):=by
 induction l generalizing n with
 | nil=>exact h.elim
 | cons i r ih=>cases r with
   | nil=>cases rest with
     | nil=>exact absurd rfl h0
     | cons x rest=>exact Cr.trans (by rw[show i.last=true from h];rfl)
   | cons j r=>
     refine(Cr (r:=r++rest)).trans ?_;rw[show i.last=false from h.1];refine(ih (n:=n+1) h.2).trans ?_;rw[List.length_cons (a:=i),Nat.add_right_comm n 1];rfl
theorem By (h:cZ l):hr l n=[]:=by
 induction l generalizing n with
 | nil=>exact h.elim
 | cons i r ih=>cases r with
   | nil=>rfl
   | cons j r=>rw[Cr,show i.last=false from h.1,ih h.2];rfl
theorem zc {ls:List (List I)}(h0:ls≠ [])(h:∀l∈ls,cZ l):mX ls n=(n:Int)::hr ls.flatten n:=by
 induction ls generalizing n with
 | nil=>exact absurd rfl h0
 | cons l r ih=>cases r with
   | nil=>rw[List.flatten_singleton,By (h l aK)];rfl
   | cons m r=>
     have hm:=h m (aP _ aK)
     have hne:(m::r).flatten≠ []:=by
      cases m with
      | nil=>exact hm.elim
      | cons a m=>exact List.cons_ne_nil _ _
     rw[List.flatten_cons,zx (h l aK) hne,<-ih (List.cons_ne_nil _ _) fun x hx=>h x (aP _ hx)]
     rfl
theorem qn:∀ {l:List I},cZ l->cD (fun p i=>l=p++[i]) (fun p i=>i.last=true)
 | [i],h=>⟨[],i,rfl,h⟩
 | i::j::r,h=>by obtain⟨p,k,e,hk⟩:=qn h.2;exact⟨i::p,k,by rw[e];rfl,hk⟩
 | [],h=>h.elim
theorem aM.splitL {h:H}:∀ {a b:List I} {as:List Nat},aM h as (a++b)->dU (fun as1 as2=>as=as1++as2) (fun as1 as2=>aM h as1 a) (fun as1 as2=>aM h as2 b)
 | [],b,as,x=>⟨[],as,rfl,trivial,x⟩
 | i::a,b,x::as,hx=>by obtain⟨as1,as2,e,h1,h2⟩:=aM.splitL hx.2;exact⟨x::as1,as2,by rw[e];rfl,⟨hx.1,h1⟩,h2⟩
 | i::a,b,[],hx=>hx.elim
end
section
variable {is:List I}{R:List Int}{ow:List (Int×Int)}{d:PD}{N n:Nat}{h:H}{p L Hd:Nat}{as:List Nat}{gs:List (List (Int×I))}
theorem nR (z:List (Int×Int))(i:I):(dF z i).op=i.op:=by unfold dF;split<;>rfl
theorem pj (X:jX is R ow):∀ {rs:List Int} {gs:List (List (Int×I))},(∀r∈rs,r∈R)->fQ is R rs gs->∀G∈gs,cZ (b9 G)/\∃r∈rs,∃M,ee is R r [r] [] [] M G
 | r::rs,G::gs,hR,hF,G',hG=>by
   rcases a_ hG with rfl | hG
   ·obtain⟨⟨M,hM⟩,_⟩:=hF
    exact⟨lC X (hR r aK) hM,r,aK,M,hM⟩
   ·obtain⟨h1,r',h2,h3⟩:=pj X (fun q hq=>hR q (aP _ hq)) hF.2 G' hG
    exact⟨h1,r',aP _ h2,h3⟩
 | [],[],_,_,_,hG=>by simp at hG
 | [],_::_,_,h,_,_=>h.elim
 | _::_,[],_,h,_,_=>h.elim
theorem nQ {R:List Int}(h:fX d<+:R):∃R',R=0::R':=by obtain⟨t,ht⟩:=h;have: [0]<+:fX d:=q_.trans q_;obtain⟨u,hu⟩:=this;exact⟨u++t,by rw[<-ht,<-hu];rfl⟩
theorem qh (X:jX d.insts R ow)(hnd:R.Nodup)(hpre:fX d<+:R)(hF:fQ d.insts R R gs)(hs:d.insts.length<100)(hsm:∀g∈gs,(b9 g).length≤d.insts.length+1):my (dt d R gs):=by
 have hk:=gd hF.len;have hends:=pj X (fun x h=>h) hF;have hRl:=bW hnd X.rr;have hgl:=hF.len
 have hgne:gs≠ []:=by obtain⟨R',e⟩:=nQ hpre;intro z;rw[e,z] at hgl;simp at hgl
 obtain⟨gl,g0,eg⟩:mS (fun gl g0=>gs=gl++[g0]):=by
  rcases List.eq_nil_or_concat gs with z | ⟨gl,g0,z⟩
  ·exact absurd z hgne
  ·exact⟨gl,g0,by rw[z,List.concat_eq_append]⟩
 have hls:∀l∈gs.map b9,cZ l:=fun l hl=>by rw[List.mem_map] at hl;obtain⟨G,hG,rfl⟩:=hl;exact(hends G hG).1
 have hoffs:=zc (n:=0) (ls:=gs.map b9) (by simpa using hgne) hls
 have hheads:(dt d R gs).heads=0::hr (dt d R gs).insts 0:=by
  show R.map (cz (bF R gs))=0::hr ((gs.map b9).flatten.map (dF (bF R gs))) 0
  rw[oC hnd hF,Bz,hoffs];rfl
 have hb:=oE (gs.map b9) (m:=d.insts.length+1) (fun l hl=>by rw[List.mem_map] at hl;obtain⟨g,hg,rfl⟩:=hl;exact hsm g hg)
 have hlen:(dt d R gs).insts.length=(gs.map b9).flatten.length:=aD _
 have hrng:∀q∈(dt d R gs).heads,0≤q/\q< (dt d R gs).insts.length:=fun q hq=>by
  have hq':q∈R.map (cz (bF R gs)):=hq;rw[List.mem_map] at hq';obtain⟨r,hr,rfl⟩:=hq';obtain⟨M,G,o,_,hG,h2,h3,p1,p2,h4,h5⟩:pz (fun M G o=>ee d.insts R r [r] [] [] M G) (fun M G o=>G∈gs) (fun M G o=>(r,o)∈bF R gs) (fun M G o=>0≤o) (fun M G o=>cD (fun(p1 p2:List I)=>[]++(gs.map b9).flatten.map (dF (bF R gs))=p1++(b9 G).map (dF (bF R gs))++p2) (fun(p1 p2:List I)=>(p1.length:Int)=o)):=lu X (bF R gs) R gs [] (fun x h=>h) hF r hr;rw[h_ (by rw[hk];exact hnd) h2]
  refine⟨h3,?_⟩;have h6:(dt d R gs).insts.length=(p1++(b9 G).map (dF (bF R gs))++p2).length:=by rw[<-h4];rfl
  have:=(oM G).2;rw[h6];simp
  lia
 refine⟨rfl,?_,?_,?_,fun i hi=> ?_,hheads,?_,?_,?_,hrng,?_⟩
 ·have h0:(0:Int)∈(dt d R gs).heads:=by rw[hheads];exact aK
  have:=(hrng 0 h0).2
  lia
 ·rw[hlen]
  refine Nat.lt_of_le_of_lt hb ?_;rw[aD,<-hgl];exact Nat.lt_of_le_of_lt (Nat.mul_le_mul hRl (Nat.le_refl _)) (Nat.lt_of_le_of_lt (Nat.mul_le_mul (Nat.le_of_lt hs) (by lia:d.insts.length+1≤100)) (by decide))
 ·obtain⟨R',e⟩:=nQ hpre
  have h00:fQ d.insts R (0::R') gs:=by rw[<-e];exact hF
  match gs,h00 with
  | G::gs',hF'=>
    obtain⟨⟨M,hM⟩,_⟩:=hF'
    have hG:G=[]:=by
     cases hM with
     | skip _ y=>cases y;rfl
     | root _ h _ _ _=>exact absurd X.w.first h
     | alt _ h _ _ _=>exact absurd X.w.first h
     | leaf _ h _ _ _ _=>exact absurd X.w.first h
    subst hG
    rfl
  | [],hF'=>exact hF'.elim
 ·have hi':i∈(gs.map b9).flatten.map (dF (bF R gs)):=hi
  rw[List.mem_map] at hi';obtain⟨j,hj,rfl⟩:=hi';rw[List.mem_flatten] at hj;obtain⟨l,hl,hj⟩:=hj;rw[List.mem_map] at hl;obtain⟨G,hG,rfl⟩:=hl;obtain⟨_,r,hr,M,hM⟩:=hends G hG;obtain⟨w1,w2,w3,_⟩:=oK X hr hM hj;have hop:=nR (bF R gs) j
  by_cases ho:j.op=1\/j.op=2\/j.op=3\/j.op=5
  ·have hren:dF (bF R gs) j={j with out:=cz (bF R gs) j.out}:=by unfold dF;rw[ap ho]
   have hmem:cz (bF R gs) j.out∈(dt d R gs).heads:=List.mem_map.mpr ⟨_,w3 ho,rfl⟩;rw[hren];refine⟨⟨w1.op0,w1.op6,fun x x=>hrng _ hmem,fun h0=>absurd h0 w2,w1.rng,w1.cap,w1.emp,w1.mat⟩,w2,fun x=>hmem⟩
  ·have hren:dF (bF R gs) j=j:=by unfold dF;rw[au ho]
   rw[hren];have q0:=w1.op0;have q6:=w1.op6;have q0':0≤j.op:=q0;have q6':j.op≤6:=q6;refine⟨⟨w1.op0,w1.op6,fun h4 h6=> ?_,fun h0=>absurd h0 w2,w1.rng,w1.cap,w1.emp,w1.mat⟩,w2,fun z=>absurd z ho⟩;exfalso;have:=w2
   lia
 ·show(R.map (cz (bF R gs))).length<20000
  rw[aD];lia
 ·exact List.mem_map.mpr ⟨_,hpre.subset (da.mpr (.inr rfl)),rfl⟩
 ·exact List.mem_map.mpr ⟨_,hpre.subset (da.mpr (.inl (da.mpr (.inr rfl)))),rfl⟩
 ·obtain⟨pp,i,e,hi⟩:=qn (hends g0 (by rw[eg];simp)).1
  refine⟨dF (bF R gs) i,((gl.map b9).flatten++pp).map (dF (bF R gs)),?_,by rw[jL];exact hi⟩
  show(gs.map b9).flatten.map (dF (bF R gs))=_
  generalize dF (bF R gs)=f
  rw[eg];simp[e]
theorem C4 (x:PA h p L Hd as (dt d R gs))(X:jX d.insts R ow)(hnd:R.Nodup)(hF:fQ d.insts R R gs)(hs:d.insts.length<100)(hsm:∀g∈gs,(b9 g).length≤d.insts.length+1)(hN:900000≤N):∀k∈(dt d R gs).heads,Ac h p N n k:=fun k hk'=>by
 have hk:=gd hF.len;have hk'':k∈R.map (cz (bF R gs)):=hk';rw[List.mem_map] at hk'';obtain⟨r,hr,rfl⟩:=hk'';obtain⟨M,G,o,hM,hG,h2,h3,p1,p2,h4,h5⟩:pz (fun M G o=>ee d.insts R r [r] [] [] M G) (fun M G o=>G∈gs) (fun M G o=>(r,o)∈bF R gs) (fun M G o=>0≤o) (fun M G o=>cD (fun(p1 p2:List I)=>[]++(gs.map b9).flatten.map (dF (bF R gs))=p1++(b9 G).map (dF (bF R gs))++p2) (fun(p1 p2:List I)=>(p1.length:Int)=o)):=lu X (bF R gs) R gs [] (fun y h=>h) hF r hr;have e0:cz (bF R gs) r=o:=h_ (by rw[hk];exact hnd) h2
 have hi:=x.insts;have e1:(dt d R gs).insts=p1++((b9 G).map (dF (bF R gs))++p2):=by rw[<-aH,<-h4];rfl
 rw[e1] at hi;obtain⟨a1,a2,ea,ha1,ha2⟩:=hi.splitL;obtain⟨b1,b2,eb,hb1,hb2⟩:=ha2.splitL;have l1:=ha1.len;have l2:=hb1.len;have hgs:=hsm G hG;rw[aD] at l2;have x':=x;rw[ea,eb,<-aH] at x';refine⟨(b9 G).map (dF (bF R gs)),b1,hb1,?_,fun h1 i hi=> ?_,by rw[aD];lia,fun Y=> ?_⟩
 ·have inj:=(sF X hnd hF).inj
  have kk:∀i,de (dF (bF R gs) (i0 i))=de (dF (bF R gs) i):=fun i=>by rw[si];rfl
  rw[List.map_map];unfold b9;rw[sf (de∘dF (bF R gs)) kk]
  split
  ·simp
  ·rw[List.map_map]
   refine qU (f:=fun q:Int×I=>de q.2) (hM.keys (by simp)) fun a ha b hb e=> ?_
   have src:=hM.src0 X hr
   have outR:∀q∈G,q.2.op=1\/q.2.op=2\/q.2.op=3\/q.2.op=5->q.2.out∈R:=fun q hq o=>by
    rcases src q hq with⟨g1,_,g2⟩ | ⟨g1,g2,g3,g4,g5⟩
    ·rw[g2];exact g1
    ·have hkn:Kn R ow q.1:=g1.elim (fun e=>.inl (e▸hr)) fun e=>.inr ⟨r,e⟩
     have eo:q.2.op=(gi d.insts q.1).op:=by rw[g5];rfl
     rw[eo] at o;have h4':(gi d.insts q.1).op≠4:=by lia
     rw[g5]
     show(if(gi d.insts q.1).op=4 then 0 else(gi d.insts q.1).out)∈R
     rw[au h4'];exact X.step _ hkn (by lia)
   have e':de (dF (bF R gs) a.2)=de (dF (bF R gs) b.2):=e
   have hop:a.2.op=b.2.op:=by
    have:=ag List.head? e';have:(dF (bF R gs) a.2).op=(dF (bF R gs) b.2).op:=by simpa [de] using this
    rwa[nR,nR] at this
   by_cases ho:a.2.op=1\/a.2.op=2\/a.2.op=3\/a.2.op=5
   ·have ho':b.2.op=1\/b.2.op=2\/b.2.op=3\/b.2.op=5:=by rw[<-hop];exact ho
    have ra:dF (bF R gs) a.2={a.2 with out:=cz (bF R gs) a.2.out}:=by unfold dF;rw[ap ho]
    have rb:dF (bF R gs) b.2={b.2 with out:=cz (bF R gs) b.2.out}:=by unfold dF;rw[ap ho']
    rw[ra,rb] at e';simp only[de,List.cons.injEq,and_true] at e';obtain⟨q1,q2,q3,q4,q5,q6⟩:=e';have q2':=inj _ (outR a ha ho) _ (outR b hb ho') q2
    show de a.2=de b.2
    simp only[de,q1,q2',q3,q4,q5,q6]
   ·have ho':¬ (b.2.op=1\/b.2.op=2\/b.2.op=3\/b.2.op=5):=by rw[<-hop];exact ho
    have ra:dF (bF R gs) a.2=a.2:=by unfold dF;rw[au ho]
    have rb:dF (bF R gs) b.2=b.2:=by unfold dF;rw[au ho']
    rw[ra,rb] at e';exact e'
 ·rw[List.mem_map] at hi
  obtain⟨j,hj,rfl⟩:=hi;rw[nR];refine(oK X hr hM hj).2.2.2 fun z=> ?_;rw[z,aD] at h1;have:(b9 ([]:List (Int×I))).length=1:=rfl
  lia
 ·have:=mO (N:=N) (n:=n) (pre:=a1) (post:=b2) (al:=b1) (il:=(b9 G).map (dF (bF R gs))) x' rfl hb1 (lF _ (lC X hr hM)) (by lia) hN Y
  rw[e0,<-h5,<-l1];exact this
end
section
variable {o r:Int}
section
variable {is:List I}{R:List Int}{ow:List (Int×Int)}{d:PD}{N n:Nat}{h:H}{p L Hd:Nat}{as:List Nat}{gs:List (List (Int×I))}
noncomputable def Bo (o:Int) (G:List (Int×I)):List Int:=(G.filter fun q=>decide (q.2.op=o)).map (·.1)
theorem zJ (o:Int)(ho:o≠6)(G:List (Int×I)):((b9 G).filter fun i=>decide (i.op=o)).length=(Bo o G).length:=by
 have e:∀l:List I,(l.filter fun i=>decide (i.op=o)).length=((l.map I.op).filter fun x=>decide (x=o)).length:=fun l=>by rw[List.filter_map,aD];rfl
 rw[e];unfold b9;rw[sf I.op (fun y=>rfl),<-e];unfold Bo;rw[aD]
 split
 ·rename_i hG
  subst hG;have:¬ (mK.op=o):=fun z=>ho (by rw[<-z];rfl)
  simp[this]
 ·rw[List.filter_map,aD];rfl
theorem uS (o:Int)(ho:o≠6):∀gs:List (List (Int×I)),(((gs.map b9).flatten).filter fun i=>decide (i.op=o)).length=((gs.map (Bo o)).flatten).length
 | []=>rfl
 | G::gs=>by rw[List.map_cons,List.map_cons,List.flatten_cons,List.flatten_cons,List.filter_append,bd,bd,zJ o ho,uS o ho gs]
theorem uq (X:jX is R ow)(hr:r∈R){M:List Int}{G:List (Int×I)}(x:ee is R r [r] [] [] M G)(h1:1≤o)(h4:o≤4):∀k∈Bo o G,(k=r\/(k,r)∈ow)/\(gi is k).op=o:=fun k hk=>by
 unfold Bo at hk;rw[List.mem_map] at hk;obtain⟨q,hq,rfl⟩:=hk;rw[List.mem_filter] at hq;have ho:q.2.op=o:=of_decide_eq_true hq.2;rcases x.src0 X hr q hq.1 with⟨_,_,e⟩ | ⟨g1,g2,g3,g4,g5⟩
 ·rw[e] at ho
  have:(5:Int)=o:=ho
  lia
 ·refine⟨g1,?_⟩
  rw[g5] at ho;exact ho
theorem jX.own1 (X:jX is R ow){s k:Int}(hr:r∈R)(hs:s∈R)(a:k=r\/(k,r)∈ow)(b:k=s\/(k,s)∈ow):r=s:=by
 rcases a with a | a
 ·rcases b with b | b
  ·lia
  ·exact absurd (a▸hr) (X.onot _ b)
 ·rcases b with b | b
  ·exact absurd (b▸hs) (X.onot _ a)
  ·exact X.uniq a b
theorem qW (X:jX is R ow)(h1:1≤o)(h4:o≤4):∀ {rs:List Int} {gs:List (List (Int×I))},(∀r∈rs,r∈R)->fQ is R rs gs->∀k∈(gs.map (Bo o)).flatten,∃r∈rs,(k=r\/(k,r)∈ow)/\(gi is k).op=o
 | r::rs,G::gs,hR,hF,k,hk=>by
   obtain⟨⟨M,hM⟩,hF'⟩:=hF;rw[List.map_cons,List.flatten_cons] at hk;rcases ba hk with hk | hk
   ·exact⟨r,aK,uq X (hR r aK) hM h1 h4 k hk⟩
   ·obtain⟨s,q1,q2⟩:=qW X h1 h4 (fun q hq=>hR q (aP _ hq)) hF' k hk
    exact⟨s,aP _ q1,q2⟩
 | [],[],_,_,_,hk=>by simp at hk
 | [],_::_,_,h,_,_=>h.elim
 | _::_,[],_,h,_,_=>h.elim
theorem qd (X:jX is R ow)(h1:1≤o)(h4:o≤4):∀ {rs:List Int} {gs:List (List (Int×I))},rs.Nodup->(∀r∈rs,r∈R)->fQ is R rs gs->((gs.map (Bo o)).flatten).Nodup
 | r::rs,G::gs,nd,hR,hF=>by
   obtain⟨⟨M,hM⟩,hF'⟩:=hF;rw[List.nodup_cons] at nd;have hR':∀q∈rs,q∈R:=fun q hq=>hR q (aP _ hq);rw[List.map_cons,List.flatten_cons,List.nodup_append];refine⟨?_,qd X h1 h4 nd.2 hR' hF',fun a ha b hb e=> ?_⟩
   ·exact(hM.nodes (by simp) (by simp)).sublist (List.Sublist.map _ List.filter_sublist)
   ·subst e
    obtain⟨q1,_⟩:=uq X (hR r aK) hM h1 h4 a ha;obtain⟨s,q2,q3,_⟩:=qW X h1 h4 hR' hF' a hb;exact nd.1 (by rw[X.own1 (hR r aK) (hR' s q2) q1 q3];exact q2)
 | [],[],_,_,_=>by simp
 | [],_::_,_,_,h=>h.elim
 | _::_,[],_,_,h=>h.elim
theorem De (w:ii d.insts)(Y:iQ d R ow)(X:jX d.insts R ow)(hF:fQ d.insts R R gs):∀K:List Int,K.Nodup->(∀k,Reach d k->k∈K)->∀o:Int,1≤o->o≤4->cnt (dt d R gs).insts o≤(((K.map (gi d.insts)).filter fun i=>decide (i.op=o)).length:Int):=by
 intro K hK hr o h1 h4
 have e1:cnt (dt d R gs).insts o=((((gs.map b9).flatten).filter fun i=>decide (i.op=o)).length:Int):=by
  show(((((gs.map b9).flatten.map (dF (bF R gs))).filter fun i=>decide (i.op=o)).length:Nat):Int)=_
  rw[List.filter_map,aD]
  congr 2
  refine List.filter_congr fun i y=> ?_
  show decide ((dF (bF R gs) i).op=o)=_
  rw[nR]
 rw[e1,uS o (by lia),List.filter_map,aD]
 refine Int.ofNat_le.mpr (gb (qd X h1 h4 Y.nd (fun y h=>h) hF) fun k hk=> ?_);obtain⟨r,q1,q2,q3⟩:=qW X h1 h4 (fun y h=>h) hF k hk;rw[List.mem_filter];refine⟨hr k ?_,aW q3⟩;rcases q2 with e | q2
 ·rcases Y.r r q1 with z | z
  ·rw[e,z,w.first] at q3;lia
  ·rw[e];exact z
 ·exact(Y.own.own _ q2).2.1
theorem sC {R T:List Int}{f:Int->Int}(h:T<+:R){x:Int}(hx:x∈T):(R.map f)[T.idxOf x]?=some (f x):=by
 obtain⟨t,rfl⟩:=h;have h1:=List.idxOf_lt_length_of_mem hx;rw[List.getElem?_map,List.getElem?_append_left h1,List.getElem?_eq_getElem h1,List.getElem_idxOf h1]
 rfl
theorem nD:d.start∈fX d:=da.mpr (.inr rfl)
theorem nF:d.loose∈fX d:=da.mpr (.inl (da.mpr (.inr rfl)))
theorem zy (w:ii d.insts)(s0:0≤d.start)(s1:d.start<d.insts.length)(l0:0≤d.loose)(l1:d.loose<d.insts.length):∀R ow gs,iQ d R ow->fQ d.insts R R gs->∀i∈(gs.map b9).flatten,i.op=1\/i.op=2\/i.op=3\/i.op=5->i.out∈R:=by intro R ow gs Y hF i hi ho;have X:=tD w s0 s1 l0 l1 Y;rw[List.mem_flatten] at hi;obtain⟨l,hl,hi⟩:=hi;rw[List.mem_map] at hl;obtain⟨G,hG,rfl⟩:=hl;obtain⟨_,r,hr,M,hM⟩:=pj X (fun y h=>h) hF G hG;exact(oK X hr hM hi).2.2.1 ho
end
end
section
variable {ks k:List Int}{m:Nat}{i:I}{lst:Int->List I}{s:Int}{o o':List dD}{mk mk':List jd}
section
variable {is:List I}{R:List Int}{ow:List (Int×Int)}{d:PD}{N n:Nat}{h:H}{p L Hd:Nat}{as:List Nat}{gs:List (List (Int×I))}{text:List UInt8}{holds:List Int}
theorem yA {x:Int}{l:Nat}(h:l=4)(a:2≤x/\x≤5):min (x-2).toNat l+(l- (x.toNat-1)+1)=4:=by
 subst h;obtain⟨n,rfl⟩:=Int.eq_ofNat_of_zero_le (Int.le_trans (by decide) a.1)
 exact(by decide:∀n:Nat,n<6->2≤n->min ((n:Int)-2).toNat 4+(4- ((n:Int).toNat-1)+1)=4) n (Nat.lt_succ_of_le (Int.ofNat_le.mp a.2)) (Int.ofNat_le.mp a.1)
theorem AW {at_:Nat}(w:pS m i)(h0:i.op=0->i.out∈ks/\i.arg∈ks)(ho:i.op=1\/i.op=2\/i.op=3\/i.op=5->i.out∈ks)(ht:text.length≤5)(ha:at_<6)(hk:k.length=4):
 ∀c∈cQ text holds i at_ k,(c.1∈ks\/c.1= -1\/c.1= -2\/c.1= -3)/\c.2.1<6/\c.2.2.length=4:=by
 intro c hc;unfold cQ at hc
 split at hc
 ·rename_i q
  rcases a_ hc with rfl | hc
  ·exact⟨.inl (h0 q).1,ha,hk⟩
  ·rw[aB hc];exact⟨.inl (h0 q).2,ha,hk⟩
 ·split at hc
  ·rename_i q
   rw[aB hc];exact⟨.inl (ho (by lia)),ha,hk⟩
  ·split at hc
   ·rename_i q
    rw[aB hc];refine⟨.inl (ho (by lia)),ha,?_⟩
    simp;exact yA hk (w.cap q)
   ·split at hc
    ·rename_i q
     have:=w.mat q;rw[aB hc];refine⟨.inr ?_,ha,hk⟩
     show-1-i.arg= -1\/ -1-i.arg= -2\/ -1-i.arg= -3
     lia
    ·split at hc
     ·rename_i q
      rw[aB hc];refine⟨.inl (ho (by lia)),?_,hk⟩
      show at_+1<6
      lia
     ·simp at hc
noncomputable def tZ (ks:List Int):List jd:=(ks++[-1,-2,-3]).flatMap fun k=>(List.range 6).map fun a=>(k,a)
theorem l7 {q:jd}:q∈tZ ks↔(q.1∈ks\/q.1= -1\/q.1= -2\/q.1= -3)/\q.2<6:=by
 obtain⟨a,b⟩:=q;unfold tZ;simp only[List.mem_flatMap,List.mem_map,List.mem_range,List.mem_append,List.mem_cons,List.not_mem_nil,or_false,Prod.mk.injEq]
 constructor
 ·rintro⟨k,h1,x,h2,rfl,rfl⟩;exact⟨h1,h2⟩
 ·rintro⟨h1,h2⟩;exact⟨a,h1,b,h2,rfl,rfl⟩
theorem BV (ks:List Int):(tZ ks).length=6*(ks.length+3):=by
 unfold tZ
 have:∀l:List Int,(l.flatMap fun k=>(List.range 6).map fun a=>(k,a)).length=6*l.length:=fun l=>by
  induction l with
  | nil=>rfl
  | cons a l ih=>rw[List.flatMap_cons,bd,ih];simp;lia
 rw[this];simp
theorem AC {U:Int->Prop}(hU:∀k∈ks,U k)(hl:ks.length≤100)(ht:text.length≤5)(hh:holds.length=6)
 (hw:∀k∈ks,∀i∈lst k,pS m i/\(i.op=0->i.out∈ks/\i.arg∈ks)/\(i.op=1\/i.op=2\/i.op=3\/i.op=5->i.out∈ks)):SK (tZ ks) (dK text holds lst) U holds.length where
 step:=fun c hc h0 hk c' hc'=>by
  obtain⟨h1,h2⟩:=l7.mp hc
  have h1:c.1∈ks:=by
   rcases h1 with z | z | z | z
   ·exact z
   all_goals (have z':c.1=_:=z;lia)
  unfold dK at hc';rw[List.mem_flatMap] at hc';obtain⟨i,hi,hc'⟩:=hc';obtain⟨q1,q2,q3⟩:=hw c.1 h1 i hi;obtain⟨r1,r2,r3⟩:=AW q1 q2 q3 ht h2 hk c' hc';exact⟨l7.mpr ⟨r1,r2⟩,r3⟩
 at_:=fun q hq=>by
  obtain⟨h1,h2⟩:=l7.mp hq;refine⟨by rw[hh];exact h2,fun h0=> ?_⟩
  rcases h1 with z | z | z | z
  ·exact hU _ z
  all_goals lia
 small:=by rw[BV];lia
noncomputable def DH (n:Nat):List Int:=(List.range n).map fun(k:Nat)=>(k:Int)
theorem jO {n:Nat}{k:Int}:k∈DH n↔0≤k/\k<n:=by
 unfold DH;rw[List.mem_map]
 constructor
 ·rintro⟨a,h,rfl⟩;rw[List.mem_range] at h;lia
 ·rintro⟨h0,h1⟩;exact⟨k.toNat,by rw[List.mem_range];lia,by lia⟩
theorem BX (w:ii is)(hl:is.length≤100)(ht:text.length≤5)(hh:holds.length=6):SK (tZ (DH is.length)) (dK text holds (mZ is)) (fun k=>k<is.length) holds.length:=by
 refine AC (m:=is.length) (fun k hk=>(jO.mp hk).2) (by unfold DH;simpa using hl) ht hh fun k hk i hi=> ?_
 obtain⟨k0,k1⟩:=jO.mp hk;unfold mZ at hi;rw[aB hi];have wf:=w.at k0 k1;exact⟨wf,fun z=>⟨jO.mpr (wf.out (by lia) (by lia)),jO.mpr (wf.alt z)⟩,fun z=>jO.mpr (wf.out (by lia) (by lia))⟩
noncomputable def zh (is:List I) (k:Int):List I:=tl (is.drop k.toNat)
theorem wD {l:List I}(h:i∈tl l):i∈l:=by
 induction l with
 | nil=>cases h
 | cons j r ih=>
   cases e:j.last with
   | true=>rw[EM e] at h;rw[aB h];exact aK
   | false=>
     rw[EN e] at h;rcases a_ h with rfl | h
     ·exact aK
     ·exact aP _ (ih h)
theorem xu (X:jX d.insts R ow)(hnd:R.Nodup)(hF:fQ d.insts R R gs):∀k∈(dt d R gs).heads,∃G∈gs,AP (fun(p1 p2:List I)=>(dt d R gs).insts=p1++((b9 G).map (dF (bF R gs))++p2)) (fun(p1 p2:List I)=>(p1.length:Int)=k) (fun(p1 p2:List I)=>cZ ((b9 G).map (dF (bF R gs)))) (fun(p1 p2:List I)=>zh (dt d R gs).insts k=(b9 G).map (dF (bF R gs))):=fun k hk'=>by
 have hk:=gd hF.len;have hk'':k∈R.map (cz (bF R gs)):=hk';rw[List.mem_map] at hk'';obtain⟨r,hr,rfl⟩:=hk'';obtain⟨M,G,o,hM,hG,h2,h3,p1,p2,h4,h5⟩:pz (fun M G o=>ee d.insts R r [r] [] [] M G) (fun M G o=>G∈gs) (fun M G o=>(r,o)∈bF R gs) (fun M G o=>0≤o) (fun M G o=>cD (fun(p1 p2:List I)=>[]++(gs.map b9).flatten.map (dF (bF R gs))=p1++(b9 G).map (dF (bF R gs))++p2) (fun(p1 p2:List I)=>(p1.length:Int)=o)):=lu X (bF R gs) R gs [] (fun y h=>h) hF r hr;have e0:cz (bF R gs) r=o:=h_ (by rw[hk];exact hnd) h2
 have e1:(dt d R gs).insts=p1++((b9 G).map (dF (bF R gs))++p2):=by rw[<-aH,<-h4];rfl
 have e2:=lF (bF R gs) (lC X hr hM);refine⟨G,hG,p1,p2,e1,by rw[e0];exact h5,e2,?_⟩
 have:o.toNat=p1.length:=by lia
 unfold zh;rw[e0,this,e1,List.drop_left];exact ug e2
theorem tE (x:PA h p L Hd as (dt d R gs))(F:my (dt d R gs))(X:jX d.insts R ow)(hnd:R.Nodup)(hF:fQ d.insts R R gs)(hs:d.insts.length<100)(hsm:∀g∈gs,(b9 g).length≤d.insts.length+1)(hN:900000≤N):
 qu N n h p (zh (dt d R gs).insts) (dt d R gs).insts.length (fun k=>k∈(dt d R gs).heads) where
 get:=fun k hk y=>by
  obtain⟨G,hG,p1,p2,e1,e2,e3,e4⟩:=xu X hnd hF k hk;have hi:=x.insts;rw[e1] at hi;obtain⟨a1,a2,ea,ha1,ha2⟩:=hi.splitL;obtain⟨b1,b2,eb,hb1,hb2⟩:=ha2.splitL;have l1:=ha1.len;have l2:=hb1.len;have hgs:=hsm G hG;rw[aD] at l2;have x':=x;rw[ea,eb,<-aH] at x';rw[e4];refine⟨b1,hb1,fun Y=> ?_⟩;have:=mO (N:=N) (n:=n) (pre:=a1) (post:=b2) (al:=b1) (il:=(b9 G).map (dF (bF R gs))) x' rfl hb1 e3 (by lia) hN Y
  rw[<-e2,<-l1];exact this
 wf:=fun k hk y i hi=>(F.ok i (List.mem_of_mem_drop (wD hi))).w
 small:=fun k hk y=>by obtain⟨G,hG,p1,p2,e1,e2,e3,e4⟩:=xu X hnd hF k hk;have hgs:=hsm G hG;rw[e4,aD];lia
theorem uV (F:my d)(hl:d.heads.length≤100)(ht:text.length≤5)(hh:holds.length=6):SK (tZ d.heads) (dK text holds (zh d.insts)) (fun k=>k∈d.heads) holds.length:=
 AC (m:=d.insts.length) (fun k hk=>hk) hl ht hh fun k hk i hi=>by have f:=F.ok i (List.mem_of_mem_drop (wD hi));exact⟨f.w,fun z=>absurd z f.na,f.out⟩
theorem sL (w:ii is)(s0:0≤s)(s1:s<is.length)
 (x:Run (dK text holds (mZ is)) [(s,0,k)] [] o mk) (y:Run (dK text holds (mZ (is.map (dJ is)))) [(bh is s,0,k)] [] o' mk'):o=o':=by
 rw[yg] at x y;obtain⟨ν,x'⟩:=jK (dead:=di is) (fun c hc=>qp hc) x (fun v=>False) (fun q v=>by simp)
 obtain⟨ν',y'⟩:=jK (dead:=di is) (fun c hc=>by
  obtain⟨h0,h6⟩:=hc;have h6':(gi is c.1).op=6:=h6;have h0:0≤c.1:=h0;refine⟨h0,?_⟩
  have hlt:c.1<is.length:=by
   by_cases z:c.1<is.length
   ·exact z
   ·exfalso
    unfold gi at h6';rw[List.getD,List.getElem?_eq_none (by have:0≤c.1:=h0;lia)] at h6'
    have:(0:Int)=6:=h6'
    lia
  unfold WN;rw[rg h0 hlt];unfold cQ;have e:(dJ is (gi is c.1)).op=6:=h6';rw[au (by lia),au (by lia),au (by lia),au (by lia),au (by lia)]) y (fun v=>False) (fun q v=>by simp)
 obtain⟨ν2,z⟩:=xz w y' [(s,0,k)] (fun v=>False) rfl (fun c hc=>by rw[aB hc];exact .inr ⟨s0,s1⟩) ⟨fun v v v=>Iff.rfl,fun v v v v h=>h.elim⟩
 exact(x'.det z).1
theorem qj {z:List (Int×Int)}(Y:yj is R ow z lst)(hs:s∈R)
 (x:Run (dK text holds (mZ is)) [(s,0,k)] [] o mk) (y:Run (dK text holds lst) [(cz z s,0,k)] [] o' mk'):o=o':=by
 rw[yg] at x;obtain⟨ν,x'⟩:=jK (dead:=di is) (fun c hc=>qp hc) x (fun w=>False) (fun q w=>by simp)
 obtain⟨ν',y'⟩:=jK (dead:=fun w=>False) (fun c hc=>hc.elim) y (fun w=>False) (fun q w=>by simp)
 have h0:¬s<0:=by have:=(Y.net.rr s hs).1;lia
 obtain⟨ν2,z2⟩:=xR Y y' [(s,0,k)] (fun w=>False) (by simp[iB,h0]) (fun c hc=>by rw[aB hc];exact .inr hs) ⟨fun w w w w=>Iff.rfl,fun w w=>Iff.rfl,fun w w w h=>by simp⟩
 exact(x'.det z2).1
end
end
section
variable {i:I}
variable {is:List I}{d:PD}
theorem qX (is:List I)(i:I):(dJ is i).op=i.op:=rfl
theorem ux (h4:i.op≠4)(h6:i.op≠6):(dJ is i).out=bh is i.out:=by unfold dJ;simp[h4,h6]
theorem sw (h:i.op=0):(dJ is i).arg=bh is i.arg:=by unfold dJ;simp[h]
theorem qY (h:i.op≠0):(dJ is i).arg=i.arg:=by unfold dJ;simp[h]
theorem yz (w:ii is):ii (is.map (dJ is)) where
 wf:=fun j hj=>by
  rw[List.mem_map] at hj;obtain⟨i,hi,rfl⟩:=hj;rw[aD];have f:=w.wf i hi;refine⟨f.op0,f.op6,fun h4 h6=> ?_,fun h0=> ?_,f.rng,fun h=> ?_,fun h=> ?_,fun h=> ?_⟩
  ·have:=f.out h4 h6
   have r:=d8 w this.1 this.2;rw[ux (i:=i) h4 h6];exact⟨r.1,r.2.1⟩
  ·have:=f.alt h0
   have r:=d8 w this.1 this.2;rw[sw (i:=i) h0];exact⟨r.1,r.2.1⟩
  ·rw[qX] at h;rw[qY (by lia)];exact f.cap h
  ·rw[qX] at h;rw[qY (by lia)];exact f.emp h
  ·rw[qX] at h;rw[qY (by lia)];exact f.mat h
 first:=by have:=w.pos;rw[rg (by lia) (by lia),qX];exact w.first
 pos:=by rw[aD];exact w.pos
theorem vI (w:ii d.insts)(s0:0≤d.start)(s1:d.start<d.insts.length)(l0:0≤d.loose)(l1:d.loose<d.insts.length):
 ∀k∈[(iC d).start,(iC d).loose]++(iC d).insts.flatMap xi,0≤k/\k< (iC d).insts.length/\(gi (iC d).insts k).op≠5:=by
 have key:∀x:Int,0≤x->x<d.insts.length->0≤bh d.insts x/\bh d.insts x< (iC d).insts.length/\(gi (iC d).insts (bh d.insts x)).op≠5:=fun x h0 h1=>by
  have r:=d8 w h0 h1;refine⟨r.1,?_,?_⟩
  ·show _< (((d.insts.map (dJ d.insts)).length:Nat):Int)
   rw[aD];exact r.2.1
  ·show(gi (d.insts.map (dJ d.insts)) _).op≠5
   rw[rg r.1 r.2.1];exact r.2.2
 intro k hk;rcases ba hk with hk | hk
 ·rcases a_ hk with rfl | hk
  ·exact key _ s0 s1
  ·rw[aB hk];exact key _ l0 l1
 ·rw[List.mem_flatMap] at hk
  obtain⟨j,hj,hk⟩:=hk;have hj':j∈d.insts.map (dJ d.insts):=hj;rw[List.mem_map] at hj';obtain⟨i,hi,rfl⟩:=hj';have f:=w.wf i hi;unfold xi at hk;rcases ba hk with hk | hk
  ·split at hk
   ·rename_i q
    rw[aB hk,ux (i:=i) q.1 q.2];have:=f.out q.1 q.2;exact key _ this.1 this.2
   ·simp at hk
  ·split at hk
   ·rename_i q
    rw[aB hk,sw (i:=i) q];have:=f.alt q;exact key _ this.1 this.2
   ·simp at hk
end
section
section
variable {N n:Nat}{h:H}
noncomputable def kP:Int->List Int->List Int
 | _,[]=>[]
 | v,b::bs=>v%b::kP (v/b) bs
theorem sQ:∀ (bs:List Int) (v:Int),(kP v bs).length=bs.length:=by
 intro bs
 induction bs with
 | nil=>
   intro _;exact rfl
 | cons b bs ih=>
   intro v;exact ag (· +1) (ih _)
noncomputable def DC:dz:=(eu.nth 1).body
theorem zP {x1:Option V}{chk:H->Bool}(hchk:∀Y,chk (h++Y)=true):∀ (bs acc:List Int) (v:Int) (x3:Option V),(∀b∈bs,0<b/\b<1000000)->acc.length+bs.length≤1000000->
 mS (fun z0 z3=>dR 3 (bn (av aw N n) N DC) chk (bs.map .int) [some (.int v),x1,some (.ref h.length),x3] (h++[.list (acc.map .int)])=some (.next,[z0,x1,some (.ref h.length),z3],h++[.list ((acc++kP v bs).map .int)])):=by
 intro bs
 induction bs with
 | nil=>
   intro acc v x3 _ _;exact⟨some (.int v),x3,by rw[show kP v []=[] from rfl,List.append_nil];exact oN (hchk _)⟩
 | cons b bs ih=>
   intro acc v x3 hb hl;obtain⟨b0,b1⟩:=hb b aK;simp only[List.length_cons] at hl;have hl':acc.length<1000000:=by lia
   obtain⟨z0,z3,hz⟩:=ih (acc++[v%b]) (v/b) (some (.int b)) (fun c hc=>hb c (aP _ hc)) (by simp;lia)
   refine⟨z0,z3,?_⟩
   have hbd:bn (av aw N n) N DC [some (.int v),x1,some (.ref h.length),some (.int b)] (h++[.list (acc.map .int)])=some (.next,[some (.int (v/b)),x1,some (.ref h.length),some (.int b)],h++[.list ((acc++[v%b]).map .int)]):=by rw[List.map_append];exact an (gg (ac rfl) br (cm (ac rfl) (ac rfl) (jD b0)) br (by rw[aD];exact hl') dE) (an (bf (cm (ac rfl) (ac rfl) (rC ⟨b0,b1⟩)) (bk (aj rfl))) aF)
   rw[aH] at hz;exact d6 (hchk _) hbd hz
theorem lM {B:Nat}{v:Int}{bs:List Int}(hB:h[B]?=some (.list (bs.map .int)))(hb:∀b∈bs,0<b/\b<1000000)(hl:bs.length≤1000):
 av aw N (n+1) 17 [.int v,.ref B] h=some (.ref h.length,h++[.list ((kP v bs).map .int)]):=by
 have hB':∀y,(h++y)[B]?=_:=aY hB;obtain⟨z0,z3,hz⟩:=zP (N:=N) (n:=n) (h:=h) (x1:=some (.ref B)) (chk:=dy (h++[.list []]) (.ref B)) (fun Y=>cB (hB' _) (hB' _)) bs [] v none hb (by simp;lia)
 have t0:exec (av aw N n) N (eu.nth 0) [some (.int v),some (.ref B),none,none] h=some (.next,[some (.int v),some (.ref B),some (.ref h.length),none],h++[.list []]):=by exact(bf (bA aN (aj rfl) fJ) (bk (aj rfl)))
 have t1:exec (av aw N n) N (eu.nth 1) [some (.int v),some (.ref B),some (.ref h.length),none] (h++[.list []])=some (.next,[z0,some (.ref B),some (.ref h.length),z3],h++[.list ((kP v bs).map .int)]):=by exact fC (ac rfl) (dG (hB' _)) (aj rfl) hz
 have t2:exec (av aw N n) N (eu.nth 2) [z0,some (.ref B),some (.ref h.length),z3] (h++[.list ((kP v bs).map .int)])=some (.ret (.ref h.length),[z0,some (.ref B),some (.ref h.length),z3],h++[.list ((kP v bs).map .int)]):=by exact(bR (ac rfl))
 exact fu (fd:=iG) rfl rfl ((aC t0).trans ((aC t1).trans (fr t2)))
end
end
section
section
variable {N n:Nat}{h:H}
noncomputable def Cy:List Int:=[1,0,2,0,5,1,3,0,2,5,1,0,4,6]
noncomputable def Ew:List (Int×Int×Bool):=[(97,98,false),(97,97,false),(98,98,false),(97,97,true),(0,255,false),(98,122,true),(10,65,false)]
noncomputable def CA:List Int:=[1,2,4,8,16,32,5,10,40,63]
noncomputable def gD (q:Int×Int×Bool):V:=.tup [.int q.1,.int q.2.1,.bool q.2.2]
noncomputable def uw (num many cell:V) (b:Nat) (y:List (Option V)):En:=[some num,some many,some cell,some (.ref (b+2)),some (.ref (b+5)),some (.ref (b+6))]++y
theorem Dk (cell:Int):AE (fun k o a p g b t=>kP cell [14,12,12,7,4,10,3]=[k,o,a,p,g,b,t]) (fun k o a p g b t=>(0≤k/\k<14)) (fun k o a p g b t=>(0≤o/\o<12)) (fun k o a p g b t=>(0≤a/\a<12)) (fun k o a p g b t=>(0≤p/\p<7)) (fun k o a p g b t=>(0≤g/\g<4)) (fun k o a p g b t=>(0≤b/\b<10)) (fun k o a p g b t=>(0≤t/\t<3)):=by refine⟨_,_,_,_,_,_,_,rfl,?_,?_,?_,?_,?_,?_,?_⟩<;>(constructor<;>lia)
theorem gW {H:Mine.H}{a:Nat}{l:List Int}{k:Int}(e:H[a]?=some (.list (l.map .int)))(h0:0≤k)(h1:k<l.length):cP H (.ref a) (.int k)=some (.int (l.getD k.toNat 0)):=by
 have hk:k.toNat<l.length:=by lia
 have:=eY (k:=k.toNat) (v:=.int (l.getD k.toNat 0)) e (by rw[List.getElem?_map,List.getElem?_eq_getElem hk];simp[List.getD,hk])
 rwa[Int.toNat_of_nonneg h0] at this
theorem Ci:∀j<14,0≤Cy.getD j 0/\Cy.getD j 0≤6:=by decide
theorem Cq:∀j<10,1≤CA.getD j 0/\CA.getD j 0≤63:=by decide
theorem BY:∀j<7,∃q,Ew[j]?=some q/\0≤q.1/\q.1≤q.2.1/\q.2.1≤255:=fun j hj=>by
 have:j=0\/j=1\/j=2\/j=3\/j=4\/j=5\/j=6:=by lia
 rcases this with rfl | rfl | rfl | rfl | rfl | rfl | rfl<;>exact⟨_,rfl,by decide⟩
noncomputable def wk (op out arg low high:Int) (f:Bool):I:=⟨op,out,arg,low,high,f,false⟩
theorem zg {op out arg low high:Int}{f:Bool}{m:Nat}(a:0≤op)(b:op≤6)(c:op≠4->op≠6->0≤out/\out<m)(d:op=0->0≤arg/\arg<m)(e:op=1->0≤low/\low≤high/\high≤255)(g:op=2->2≤arg/\arg≤5)(i:op=3->1≤arg/\arg≤63)(j:op=4->0≤arg/\arg≤2):pS m (wk op out arg low high f):=⟨a,b,c,d,e,g,i,j⟩
theorem zW {num many:Nat}{cell:Int}(hm:0<many):u4 (fun i a X=>av aw N (n+2) 18 [.int num,.int many,.int cell] h=some (.ref a,h++X)) (fun i a X=>(h++X)[a]?=some (.inst 0 i.fs)) (fun i a X=>pS many i) (fun i a X=>i.last=false):=by
 obtain⟨k,o,a,p,g,b,t,ed,hk,ho,ha,hp,hg,hb,ht⟩:=Dk cell
 obtain⟨T,hT⟩:∃T:H,T=[.list [.int 1,.int 0,.int 2,.int 0,.int 5,.int 1,.int 3],.list [.int 0,.int 2,.int 5,.int 1,.int 0,.int 4,.int 6],.list (Cy.map .int),
  .list [gD (97,98,false),gD (97,97,false),gD (98,98,false),gD (97,97,true),gD (0,255,false),gD (98,122,true)],.list [gD (10,65,false)],.list (Ew.map gD),.list (CA.map .int)]:=⟨_,rfl⟩
 have hTl:T.length=7:=by rw[hT];rfl
 have t04:∀r,execs (av aw N (n+1)) N (.cons (bO.nth 0) (.cons (bO.nth 1) (.cons (bO.nth 2) (.cons (bO.nth 3) (.cons (bO.nth 4) r))))) [some (.int num),some (.int many),some (.int cell),none,none,none,none,none,none,none,none,none,none,none] h=
  execs (av aw N (n+1)) N r (uw (.int num) (.int many) (.int cell) h.length [none,none,none,none,none,none,none,none]) (h++T):=by
  intro r
  have t0:exec (av aw N (n+1)) N (bO.nth 0) [some (.int num),some (.int many),some (.int cell),none,none,none,none,none,none,none,none,none,none,none] h=
   some (.next,[some (.int num),some (.int many),some (.int cell),some (.ref h.length),none,none,none,none,none,none,none,none,none,none],h++T.take 1):=by
   rw[hT];exact(bf (bA (ah ao (ah ao (ah ao (ah ao (ah ao (ah ao (ah ao aN))))))) (aj rfl) fJ) (bk (aj rfl)))
  have t1:exec (av aw N (n+1)) N (bO.nth 1) [some (.int num),some (.int many),some (.int cell),some (.ref h.length),none,none,none,none,none,none,none,none,none,none] (h++T.take 1)=
   some (.next,[some (.int num),some (.int many),some (.int cell),some (.ref (h.length+2)),none,none,none,none,none,none,none,none,none,none],h++T.take 3):=by
   rw[hT];exact(bf (cm (ac rfl) (bA (ah ao (ah ao (ah ao (ah ao (ah ao (ah ao (ah ao aN))))))) (aj rfl) lO) (tV br (bH rfl) (aj rfl) wb)) (bk (aj rfl)))
  have t2:exec (av aw N (n+1)) N (bO.nth 2) [some (.int num),some (.int many),some (.int cell),some (.ref (h.length+2)),none,none,none,none,none,none,none,none,none,none] (h++T.take 3)=
   some (.next,[some (.int num),some (.int many),some (.int cell),some (.ref (h.length+2)),some (.ref (h.length+3)),none,none,none,none,none,none,none,none,none],h++T.take 4):=by
   rw[hT];exact(bf (bA (ah (bS (ah ao (ah ao (ah ao aN)))) (ah (bS (ah ao (ah ao (ah ao aN)))) (ah (bS (ah ao (ah ao (ah ao aN)))) (ah (bS (ah ao (ah ao (ah ao aN)))) (ah (bS (ah ao (ah ao (ah ao aN)))) (ah (bS (ah ao (ah ao (ah ao aN)))) aN)))))) (aj rfl) Aa) (bk (aj rfl)))
  have t3:exec (av aw N (n+1)) N (bO.nth 3) [some (.int num),some (.int many),some (.int cell),some (.ref (h.length+2)),some (.ref (h.length+3)),none,none,none,none,none,none,none,none,none] (h++T.take 4)=
   some (.next,[some (.int num),some (.int many),some (.int cell),some (.ref (h.length+2)),some (.ref (h.length+5)),none,none,none,none,none,none,none,none,none],h++T.take 6):=by
   rw[hT];exact(bf (cm (ac rfl) (bA (ah (bS (ah ao (ah ao (ah ao aN)))) aN) (aj rfl) Ep) (tV (bH rfl) (bH rfl) (aj rfl) Eo)) (bk (aj rfl)))
  have t4:exec (av aw N (n+1)) N (bO.nth 4) [some (.int num),some (.int many),some (.int cell),some (.ref (h.length+2)),some (.ref (h.length+5)),none,none,none,none,none,none,none,none,none] (h++T.take 6)=
   some (.next,uw (.int num) (.int many) (.int cell) h.length [none,none,none,none,none,none,none,none],h++T):=by
   rw[hT];exact(bf (bA (ah ao (ah ao (ah ao (ah ao (ah ao (ah ao (ah ao (ah ao (ah ao (ah ao aN)))))))))) (aj rfl) Em) (bk (aj rfl)))
  rw[aC t0,aC t1,aC t2,aC t3,aC t4]
 have gK:∀y,(h++T++y)[h.length+2]?=some (.list (Cy.map .int)):=fun y=>by rw[hT,aH,bz];rfl
 have gP:∀y,(h++T++y)[h.length+5]?=some (.list (Ew.map gD)):=fun y=>by rw[hT,aH,bz];rfl
 have gA:∀y,(h++T++y)[h.length+6]?=some (.list (CA.map .int)):=fun y=>by rw[hT,aH,bz];rfl
 obtain⟨H,hH⟩:∃H:Mine.H,H=h++T:=⟨_,rfl⟩;rw[<-hH] at t04 gK gP gA;obtain⟨J,hJ⟩:∃J:Mine.H,J=[.list [.int 14,.int 12,.int 12,.int 7,.int 4,.int 10,.int 3],.list [.int k,.int o,.int a,.int p,.int g,.int b,.int t]]:=⟨_,rfl⟩
 have t5:exec (av aw N (n+1)) N (bO.nth 5) (uw (.int num) (.int many) (.int cell) h.length [none,none,none,none,none,none,none,none]) H=
  some (.next,uw (.int num) (.int many) (.int cell) h.length [some (.int k),some (.int o),some (.int a),some (.int p),some (.int g),some (.int b),some (.int t),none],H++J):=by
  have hc:=lM (N:=N) (n:=n) (h:=H++[.list [.int 14,.int 12,.int 12,.int 7,.int 4,.int 10,.int 3]]) (B:=H.length) (v:=cell) (bs:=[14,12,12,7,4,10,3]) (by simp) (by decide) (by decide)
  rw[ed] at hc;simp at hc;rw[hJ];exact(fh (bL (ah (ac rfl) (ah (bA (ah ao (ah ao (ah ao (ah ao (ah ao (ah ao (ah ao aN))))))) (aj rfl) fJ) aN)) hc) (A8 (bH rfl)) (db (bk (aj rfl)) (db (bk (aj rfl)) (db (bk (aj rfl)) (db (bk (aj rfl)) (db (bk (aj rfl)) (db (bk (aj rfl)) (db (bk (aj rfl)) j3))))))))
 have q1:k.toNat<14:=by lia
 have q2:b.toNat<10:=by lia
 have q3:p.toNat<7:=by lia
 obtain⟨o0,o6⟩:=Ci k.toNat q1;obtain⟨as1,as2⟩:=Cq b.toNat q2;obtain⟨pq,pe,p1,p2,p3⟩:=BY p.toNat q3;have hK:∀y,cP (H++y) (.ref (h.length+2)) (.int k)=some (.int (Cy.getD k.toNat 0)):=fun y=>gW (gK y) hk.1 hk.2;have hA:∀y,cP (H++y) (.ref (h.length+6)) (.int b)=some (.int (CA.getD b.toNat 0)):=fun y=>gW (gA y) hb.1 hb.2
 have hP:∀y,cP (H++y) (.ref (h.length+5)) (.int p)=some (gD pq):=fun y=>by
  have:=eY (k:=p.toNat) (v:=gD pq) (gP y) (by rw[List.getElem?_map,pe];rfl)
  rwa[Int.toNat_of_nonneg hp.1] at this
 generalize Cy.getD k.toNat 0=op at o0 o6 hK
 generalize CA.getD b.toNat 0=ask at as1 as2 hA
 have hmI:(0:Int)<many:=by lia
 have hm1:∀x:Int,0≤x%many/\x%many<many:=fun x=>⟨Int.emod_nonneg _ (by lia),Int.emod_lt_of_pos _ hmI⟩
 obtain⟨out,hout⟩:∃out,out=((num:Int)+1+o)%many:=⟨_,rfl⟩
 have t6:exec (av aw N (n+1)) N (bO.nth 6) (uw (.int num) (.int many) (.int cell) h.length [some (.int k),some (.int o),some (.int a),some (.int p),some (.int g),some (.int b),some (.int t),none]) (H++J)=
  some (.next,uw (.int num) (.int many) (.int cell) h.length [some (.int k),some (.int out),some (.int a),some (.int p),some (.int g),some (.int b),some (.int t),some (.int op)],H++J):=by
  rw[hout];exact(fh (bS (ah (bE (ac rfl) (ac rfl) (hK _)) (ah (cm (cm (cm (ac rfl) ao rfl) (ac rfl) rfl) (ac rfl) (jD hmI)) aN))) rfl (db (bk (aj rfl)) (db (bk (aj rfl)) j3)))
 obtain⟨ou0,ou1⟩:0≤out/\out<many:=by rw[hout];exact hm1 _
 have fin:∀ (i:I) (e':En),execs (av aw N (n+1)) N (.cons (bO.nth 7) (.cons (bO.nth 8) (.cons (bO.nth 9) (.cons (bO.nth 10) (.cons (bO.nth 11) (.cons (bO.nth 12) .nil))))))
  (uw (.int num) (.int many) (.int cell) h.length [some (.int k),some (.int out),some (.int a),some (.int p),some (.int g),some (.int b),some (.int t),some (.int op)]) (H++J)=some (.ret (.ref (H++J).length),e',H++J++[.inst 0 i.fs])->pS many i->i.last=false->
  u4 (fun i a X=>av aw N (n+2) 18 [.int num,.int many,.int cell] h=some (.ref a,h++X)) (fun i a X=>(h++X)[a]?=some (.inst 0 i.fs)) (fun i a X=>pS many i) (fun i a X=>i.last=false):=fun i e' hx hw hl=>by
  refine⟨i,(H++J).length,T++J++[.inst 0 i.fs],?_,?_,hw,hl⟩
  ·have:h++(T++J++[.inst 0 i.fs])=H++J++[.inst 0 i.fs]:=by rw[hH];simp
   rw[this];exact fu (fd:=kN) rfl rfl ((t04 _).trans ((aC t5).trans ((aC t6).trans hx)))
  ·rw[hH];simp
 have hop:op=0\/op=1\/op=2\/op=3\/op=5\/op=4\/op=6:=by lia
 have hA':=hA J;have hP':=hP J
 clear t04 t5 t6 gK gP gA hA hP hK
 generalize H++J=HJ at fin hA' hP'
 rcases hop with rfl | rfl | rfl | rfl | rfl | rfl | rfl
 ·obtain⟨ar0,ar1⟩:=hm1 ((num:Int)+2+a)
  refine fin (wk 0 out (((num:Int)+2+a)%many) 0 0 false) (uw (.int num) (.int many) (.int cell) h.length [some (.int k),some (.int out),some (.int a),some (.int p),some (.int g),some (.int b),some (.int t),some (.int 0)]) ?_ (zg (by decide) (by decide) (fun z z=>⟨ou0,ou1⟩) (fun z=>⟨ar0,ar1⟩) (fun h=>absurd h (by decide)) (fun h=>absurd h (by decide)) (fun h=>absurd h (by decide)) (fun h=>absurd h (by decide))) rfl
  exact(bb (bX (az (ac rfl) ao rfl) rfl (bb (bR (gC (ah (ac rfl) (ah (ac rfl) (ah (cm (cm (cm (ac rfl) ao rfl) (ac rfl) rfl) (ac rfl) (jD hmI)) aN))) rfl fJ)))))
 ·refine fin (wk 1 out 0 pq.1 pq.2.1 pq.2.2) (uw (.int num) (.int many) (.int cell) h.length [some (.int k),some (.int out),some (.int a),some (.int p),some (.int g),some (.int b),some (.int t),some (.int 1)]) ?_ (zg (by decide) (by decide) (fun z z=>⟨ou0,ou1⟩) (fun h=>absurd h (by decide)) (fun z=>⟨p1,p2,p3⟩) (fun h=>absurd h (by decide)) (fun h=>absurd h (by decide)) (fun h=>absurd h (by decide))) rfl
  have u0:∀H,cP H (gD pq) (.int 0)=some (.int pq.1):=fun H=>rfl;have u1:∀H,cP H (gD pq) (.int 1)=some (.int pq.2.1):=fun H=>rfl;have u2:∀H,cP H (gD pq) (.int 2)=some (.bool pq.2.2):=fun H=>rfl;exact(an (aS (az (ac rfl) ao rfl) rfl aF) (bb (bX (az (ac rfl) ao rfl) rfl (bb (bR (gC (ah (ac rfl) (ah (ac rfl) (ah ao (ah (bE (bE (ac rfl) (ac rfl) hP') ao (u0 _)) (ah (bE (bE (ac rfl) (ac rfl) hP') ao (u1 _)) (ah (bE (bE (ac rfl) (ac rfl) hP') ao (u2 _)) aN)))))) rfl fJ))))))
 ·refine fin (wk 2 out (2+g) 0 0 false) (uw (.int num) (.int many) (.int cell) h.length [some (.int k),some (.int out),some (.int a),some (.int p),some (.int g),some (.int b),some (.int t),some (.int 2)]) ?_ (zg (by decide) (by decide) (fun z z=>⟨ou0,ou1⟩) (fun h=>absurd h (by decide)) (fun h=>absurd h (by decide)) (fun z=>⟨by show 2≤2+g;lia,by show 2+g≤5;lia⟩) (fun h=>absurd h (by decide)) (fun h=>absurd h (by decide))) rfl
  exact(an (aS (az (ac rfl) ao rfl) rfl aF) (an (aS (az (ac rfl) ao rfl) rfl aF) (bb (bX (az (ac rfl) ao rfl) rfl (bb (bR (gC (ah (ac rfl) (ah (ac rfl) (ah (cm ao (ac rfl) rfl) aN))) rfl fJ)))))))
 ·refine fin (wk 3 out ask 0 0 false) (uw (.int num) (.int many) (.int cell) h.length [some (.int k),some (.int out),some (.int a),some (.int p),some (.int g),some (.int b),some (.int t),some (.int 3)]) ?_ (zg (by decide) (by decide) (fun z z=>⟨ou0,ou1⟩) (fun h=>absurd h (by decide)) (fun h=>absurd h (by decide)) (fun h=>absurd h (by decide)) (fun z=>⟨as1,as2⟩) (fun h=>absurd h (by decide))) rfl
  exact(an (aS (az (ac rfl) ao rfl) rfl aF) (an (aS (az (ac rfl) ao rfl) rfl aF) (an (aS (az (ac rfl) ao rfl) rfl aF) (bb (bX (az (ac rfl) ao rfl) rfl (bb (bR (gC (ah (ac rfl) (ah (ac rfl) (ah (bE (ac rfl) (ac rfl) hA') aN))) rfl fJ))))))))
 ·refine fin (wk 5 out 0 0 0 false) (uw (.int num) (.int many) (.int cell) h.length [some (.int k),some (.int out),some (.int a),some (.int p),some (.int g),some (.int b),some (.int t),some (.int 5)]) ?_ (zg (by decide) (by decide) (fun z z=>⟨ou0,ou1⟩) (fun h=>absurd h (by decide)) (fun h=>absurd h (by decide)) (fun h=>absurd h (by decide)) (fun h=>absurd h (by decide)) (fun h=>absurd h (by decide))) rfl
  exact(an (aS (az (ac rfl) ao rfl) rfl aF) (an (aS (az (ac rfl) ao rfl) rfl aF) (an (aS (az (ac rfl) ao rfl) rfl aF) (an (aS (az (ac rfl) ao rfl) rfl aF) (bb (bX (az (ac rfl) ao rfl) rfl (bb (bR (gC (ah (ac rfl) (ah (ac rfl) aN)) rfl fJ)))))))))
 ·refine fin (wk 4 0 t 0 0 false) (uw (.int num) (.int many) (.int cell) h.length [some (.int k),some (.int out),some (.int a),some (.int p),some (.int g),some (.int b),some (.int t),some (.int 4)]) ?_ (zg (by decide) (by decide) (fun h z=>absurd rfl h) (fun h=>absurd h (by decide)) (fun h=>absurd h (by decide)) (fun h=>absurd h (by decide)) (fun h=>absurd h (by decide)) (fun z=>⟨ht.1,by show t≤2;lia⟩)) rfl
  exact(an (aS (az (ac rfl) ao rfl) rfl aF) (an (aS (az (ac rfl) ao rfl) rfl aF) (an (aS (az (ac rfl) ao rfl) rfl aF) (an (aS (az (ac rfl) ao rfl) rfl aF) (an (aS (az (ac rfl) ao rfl) rfl aF) (bb (bR (gC (ah (ac rfl) (ah ao (ah (qM (az (ac rfl) ao rfl) rfl (ac rfl)) aN))) rfl fJ))))))))
 ·refine fin (wk 6 0 0 0 0 false) (uw (.int num) (.int many) (.int cell) h.length [some (.int k),some (.int out),some (.int a),some (.int p),some (.int g),some (.int b),some (.int t),some (.int 6)]) ?_ (zg (by decide) (by decide) (fun z h=>absurd rfl h) (fun h=>absurd h (by decide)) (fun h=>absurd h (by decide)) (fun h=>absurd h (by decide)) (fun h=>absurd h (by decide)) (fun h=>absurd h (by decide))) rfl
  exact(an (aS (az (ac rfl) ao rfl) rfl aF) (an (aS (az (ac rfl) ao rfl) rfl aF) (an (aS (az (ac rfl) ao rfl) rfl aF) (an (aS (az (ac rfl) ao rfl) rfl aF) (an (aS (az (ac rfl) ao rfl) rfl aF) (bb (bR (gC (ah (ac rfl) (ah ao (ah (kC (az (ac rfl) ao rfl) rfl ao) aN))) rfl fJ))))))))
end
end
section
section
noncomputable def EI:St:=(.assign (.name 1) (.list (.cons (.lit (.int 34848)) (.cons (.lit (.int 6)) (.cons (.lit (.int 0)) (.cons (.lit (.int 337)) (.cons (.lit (.int 2)) (.cons (.lit (.int 0)) (.cons (.lit (.int 14142)) (.nil))))))))))
noncomputable def EH:St:=(.assign (.name 2) (.list (.cons (.lit (.int 97)) (.cons (.lit (.int 98)) (.cons (.lit (.int 65)) (.cons (.lit (.int 66)) (.cons (.lit (.int 10)) (.cons (.lit (.int 255)) (.nil)))))))))
noncomputable def EG:St:=(.assign (.name 4) (.comp (.bin .mod (.intOf (.var 3)) (.bin .pow (.lit (.int 10)) (.lit (.int 12)))) 3 (.sliceTo (.var 0) (.lit (.int 12)))))
noncomputable def EF:St:=(.assign (.name 4) (.bin .add (.var 4) (.sliceFrom (.var 1) (.len (.var 4)))))
noncomputable def EE:St:=(.assigns [.name 5,.name 6,.name 7,.name 8,.name 9,.name 10] (.call 17 (.cons (.sub (.var 4) (.lit (.int 0))) (.cons (.list (.cons (.lit (.int 11)) (.cons (.lit (.int 11)) (.cons (.lit (.int 16)) (.cons (.lit (.int 3)) (.cons (.lit (.int 2)) (.cons (.lit (.int 6)) (.nil)))))))) (.nil)))))
noncomputable def ED:St:=(.assign (.name 12) (.bytesOf (.comp (.sub (.var 2) (.var 11)) 11 (.call 17 (.cons (.sub (.var 4) (.lit (.int 1))) (.cons (.bin .mul (.list (.cons (.lit (.int 6)) (.nil))) (.var 10)) (.nil)))))))
noncomputable def EC:St:=(.assign (.name 13) (.call 17 (.cons (.sub (.var 4) (.lit (.int 2))) (.cons (.bin .mul (.list (.cons (.lit (.int 64)) (.nil))) (.lit (.int 6))) (.nil)))))
noncomputable def EB:St:=(.assigns [.name 14,.name 15] (.tup (.cons (.new 1 .nil) (.cons (.bin .sub (.len (.var 4)) (.lit (.int 1))) (.nil)))))
noncomputable def DM:St:=(.for_ 16 (.sliceFrom (.var 4) (.lit (.int 3))) (.cons (.append (.attr (.var 14) 1 0) (.call 18 (.cons (.len (.attr (.var 14) 1 0)) (.cons (.var 15) (.cons (.var 16) (.nil)))))) (.nil)))
noncomputable def EA:St:=(.append (.attr (.var 14) 1 0) (.new 0 (.cons (.lit (.int 4)) (.nil))))
noncomputable def Cg:St:=(.assigns [.attr (.var 14) 1 1,.attr (.var 14) 1 2] (.tup (.cons (.bin .mod (.bin .add (.lit (.int 1)) (.var 5)) (.var 15)) (.cons (.bin .mod (.bin .add (.lit (.int 1)) (.var 6)) (.var 15)) (.nil)))))
noncomputable def Cf:St:=(.assigns [.attr (.var 14) 1 3,.attr (.var 14) 1 4] (.tup (.cons (.cmp (.bin .mod (.var 7) (.lit (.int 2))) (.one .eq (.lit (.int 1)))) (.cons (.cmp (.bin .mod (.bin .fdiv (.var 7) (.lit (.int 2))) (.lit (.int 2))) (.one .eq (.lit (.int 1)))) (.nil)))))
noncomputable def Ce:St:=(.assigns [.attr (.var 14) 1 5,.attr (.var 14) 1 9] (.tup (.cons (.cmp (.bin .mod (.bin .fdiv (.var 7) (.lit (.int 4))) (.lit (.int 2))) (.one .eq (.lit (.int 1)))) (.cons (.cmp (.bin .fdiv (.var 7) (.lit (.int 8))) (.one .eq (.lit (.int 1)))) (.nil)))))
noncomputable def Cc:St:=(.assign (.attr (.var 14) 1 8) (.sliceTo (.lit (.bytes [97,98])) (.var 8)))
noncomputable def Cb:St:=(.assign (.name 17) (.call 21 (.cons (.var 14) (.nil))))
noncomputable def Ca:St:=(.assign (.name 18) (.call 9 (.cons (.var 14) (.nil))))
noncomputable def B_:St:=(.if_ (.or (.cons (.cmp (.call 21 (.cons (.var 14) (.nil))) (.one .ne (.var 17))) (.cons (.cmp (.call 19 (.cons (.var 18) (.nil))) (.one .ne (.call 19 (.cons (.var 14) (.nil))))) (.cons (.attr (.var 18) 1 6) (.nil))))) (.cons (.ret (.lit (.bool false))) (.nil)) .nil)
noncomputable def B9:St:=(.if_ (.or (.cons (.cmp (.len (.attr (.var 18) 1 0)) (.one .ne (.var 15))) (.cons (.call 26 (.cons (.var 18) (.nil))) (.nil)))) (.cons (.ret (.lit (.bool false))) (.nil)) .nil)
noncomputable def Ad:St:=(.assign (.name 19) (.ite (.cmp (.var 9) (.one .eq (.lit (.int 1)))) (.var 18) (.var 14)))
noncomputable def B8:St:=(.assign (.name 17) (.call 21 (.cons (.var 19) (.nil))))
noncomputable def B7:St:=(.assign (.name 20) (.call 16 (.cons (.var 19) (.nil))))
noncomputable def B6:St:=(.if_ (.or (.cons (.cmp (.call 21 (.cons (.var 19) (.nil))) (.one .ne (.var 17))) (.cons (.not (.call 27 (.cons (.var 20) (.cons (.var 19) (.nil))))) (.nil)))) (.cons (.ret (.lit (.bool false))) (.nil)) .nil)
noncomputable def B5:St:=(.assign (.name 21) (.list (.cons (.call 24 (.cons (.var 14) (.cons (.attr (.var 14) 1 1) (.cons (.var 12) (.cons (.var 13) (.nil)))))) (.cons (.call 24 (.cons (.var 14) (.cons (.attr (.var 14) 1 2) (.cons (.var 12) (.cons (.var 13) (.nil)))))) (.nil)))))
noncomputable def yi:St:=(.for_ 22 (.tup (.cons (.var 18) (.cons (.var 20) (.nil)))) (.cons (.if_ (.cmp (.list (.cons (.call 24 (.cons (.var 22) (.cons (.attr (.var 22) 1 1) (.cons (.var 12) (.cons (.var 13) (.nil)))))) (.cons (.call 24 (.cons (.var 22) (.cons (.attr (.var 22) 1 2) (.cons (.var 12) (.cons (.var 13) (.nil)))))) (.nil)))) (.one .ne (.var 21))) (.cons (.ret (.lit (.bool false))) (.nil)) .nil) (.nil)))
noncomputable def B4:St:=(.assigns [.name 17,.name 23] (.tup (.cons (.call 21 (.cons (.var 20) (.nil))) (.cons (.lit (.bool false)) (.nil)))))
noncomputable def B3:St:=(.tryRefused 20 23)
noncomputable def B2:St:=(.ret (.and (.cons (.var 23) (.cons (.cmp (.call 16 (.cons (.var 20) (.nil))) (.one .is_ (.var 20))) (.cons (.cmp (.call 21 (.cons (.var 20) (.nil))) (.one .eq (.var 17))) (.nil))))))
theorem yb:uQ=.cons EI (.cons EH (.cons EG (.cons EF (.cons EE (.cons ED (.cons EC (.cons EB (.cons DM (.cons EA (.cons Cg (.cons Cf (.cons Ce (.cons Cc (.cons Cb (.cons Ca (.cons B_ (.cons B9 (.cons Ad (.cons B8 (.cons B7 (.cons B6 (.cons B5 (.cons yi (.cons B4 (.cons B3 (.cons B2 .nil)))))))))))))))))))))))))):=rfl
end
end
section
set_option backward.match.sparseCases true
section
theorem nt {h:H}{vs:List V}(hl:vs.length≤1000000):dW h vs=some (.ref h.length,h++[.list vs]):=by unfold dW;rw[ap hl]
theorem ya {l:List Int}(h:∀i∈l,0≤i/\i<256):gc (l.map .int)=some (l.map fun i=>i.toNat.toUInt8):=by unfold gc;rw[ot];simp only;rw[ap];rw[List.all_eq_true];exact fun i hi=>aW (h i hi)
theorem qq {call:bV}{elt:Ex}{k:Nat}{e:En}{H:Mine.H}{chk:Mine.H->Bool}{f:Int->Int}(hchk:chk H=true):∀ (l:List Int),(∀x∈l,ax call elt (e.set k (some (.int x))) H=some (.int (f x),H))->
 dv (ig call elt k e) chk (l.map .int) H=some ((l.map f).map .int,H):=by
 intro l
 induction l with
 | nil=>
   intro _;simp[jC,dj,hchk]
 | cons x l ih=>
   intro he;have hb:ig call elt k e (.int x) H=some ([.int (f x)],H):=by simp only[ig,he x aK]
   rw[List.map_cons,dj,ap hchk,hb];simp only[ih fun y hy=>he y (aP _ hy)]
   rfl
noncomputable def ik:List Int:=[34848,6,0,337,2,0,14142]
noncomputable def j8:List Int:=[97,98,65,66,10,255]
noncomputable def jT (script:List Int):List Int:=((script.take 12).map fun x=>x%(10 ^ 12))++ik.drop ((script.take 12).map fun x=>x%(10 ^ 12)).length
theorem v6 (script:List Int):7≤(jT script).length/\(jT script).length≤12:=by unfold jT;simp only[bd,aD,List.length_drop,List.length_take];exact(by decide:∀m:Nat,m<13->7≤m+(7-m)/\m+(7-m)≤12) _ (Nat.lt_succ_of_le (Nat.min_le_left 12 _))
theorem Dl (cell:Int):AF (fun k o a p g b=>kP cell [11,11,16,3,2,6]=[k,o,a,p,g,b]) (fun k o a p g b=>(0≤k/\k<11)) (fun k o a p g b=>(0≤o/\o<11)) (fun k o a p g b=>(0≤a/\a<16)) (fun k o a p g b=>(0≤p/\p<3)) (fun k o a p g b=>(0≤g/\g<2)) (fun k o a p g b=>(0≤b/\b<6)):=by refine⟨_,_,_,_,_,_,rfl,?_,?_,?_,?_,?_,?_⟩<;>(constructor<;>lia)
theorem sP {b:Int}(hb:0<b):∀ (m:Nat) (v:Int),∀x∈kP v (List.replicate m b),0≤x/\x<b:=by
 intro m
 induction m with
 | zero=>
   intro v x hx;simp[kP] at hx
 | succ m ih=>
   intro v x hx;rw[List.replicate_succ,kP] at hx;rcases a_ hx with rfl | hx
   ·exact⟨Int.emod_nonneg _ (by lia),Int.emod_lt_of_pos _ hb⟩
   ·exact ih _ x hx
theorem B1:∀j<6,0≤j8.getD j 0/\j8.getD j 0<256:=by decide
variable {N n:Nat}
theorem C9 (script:List Int)(hs:script.length≤63):∀r,execs (av aw N (n+2)) N (.cons EI (.cons EH (.cons EG (.cons EF r)))) (some (.flist (script.map .int))::List.replicate 23 none) []=
 execs (av aw N (n+2)) N r ([some (.flist (script.map .int)),some (.ref 0),some (.ref 1),none,some (.ref 5)]++List.replicate 19 none)
  [.list (ik.map .int),.list (j8.map .int),.list ((script.take 12).map .int),.list (((script.take 12).map fun x=>x%(10 ^ 12)).map .int),.list ((ik.drop ((script.take 12).map fun x=>x%(10 ^ 12)).length).map .int),.list ((jT script).map .int)]:=by
 intro r;obtain⟨fl,hfl⟩:∃fl,fl=V.flist (script.map .int):=⟨_,rfl⟩;obtain⟨T,hT⟩:∃T,T=script.take 12:=⟨_,rfl⟩;have hTl:T.length≤12:=by rw[hT];simp;lia
 have t0:exec (av aw N (n+2)) N EI (some fl::List.replicate 23 none) []=some (.next,[some fl,some (.ref 0)]++List.replicate 22 none,[.list (ik.map .int)]):=by exact(bf (bA (ah ao (ah ao (ah ao (ah ao (ah ao (ah ao (ah ao aN))))))) (aj rfl) fJ) (bk (aj rfl)))
 have t1:exec (av aw N (n+2)) N EH ([some fl,some (.ref 0)]++List.replicate 22 none) [.list (ik.map .int)]=some (.next,[some fl,some (.ref 0),some (.ref 1)]++List.replicate 21 none,[.list (ik.map .int),.list (j8.map .int)]):=by exact(bf (bA (ah ao (ah ao (ah ao (ah ao (ah ao (ah ao aN)))))) (aj rfl) fJ) (bk (aj rfl)))
 have hsl:∀H,sliceTo H fl (.int 12)=some (.ref H.length,H++[.list (T.map .int)]):=fun H=>by rw[hfl,hT];exact((ap ⟨by decide,by rw[aD];lia⟩:sliceTo H (.flist (script.map .int)) (.int 12)=dW H ((script.map .int).take 12))).trans ((ag (dW H) List.map_take.symm).trans (nt (by rw[aD,List.length_take];lia)))
 have t2:exec (av aw N (n+2)) N EG ([some fl,some (.ref 0),some (.ref 1)]++List.replicate 21 none) [.list (ik.map .int),.list (j8.map .int)]=some (.next,[some fl,some (.ref 0),some (.ref 1),none,some (.ref 3)]++List.replicate 19 none,
  [.list (ik.map .int),.list (j8.map .int),.list (T.map .int),.list ((T.map fun x=>x%(10 ^ 12)).map .int)]):=by
  have hc:=qq (call:=av aw N (n+2)) (elt:=(.bin .mod (.intOf (.var 3)) (.bin .pow (.lit (.int 10)) (.lit (.int 12))))) (k:=3) (e:=[some fl,some (.ref 0),some (.ref 1)]++List.replicate 21 none)
   (H:=[.list (ik.map .int),.list (j8.map .int),.list (T.map .int)]) (chk:=dy [.list (ik.map .int),.list (j8.map .int),.list (T.map .int)] (.ref 2)) (f:=fun x=>x%(10 ^ 12)) (cB (vs:=T.map .int) rfl rfl) T (fun x y=>by exact(cm (CW (ac rfl)) (cm ao ao rfl) rfl))
  have h2:items [.list (ik.map .int),.list (j8.map .int),.list (T.map .int)] (.ref 2)=some (T.map .int):=rfl;exact bf (kD (jM (ac rfl) ao (hsl _)) h2 hc (by rw[aD,aD];lia) ⟨rfl,rfl⟩) (bk (aj rfl))
 have t3:exec (av aw N (n+2)) N EF ([some fl,some (.ref 0),some (.ref 1),none,some (.ref 3)]++List.replicate 19 none) [.list (ik.map .int),.list (j8.map .int),.list (T.map .int),.list ((T.map fun x=>x%(10 ^ 12)).map .int)]=
  some (.next,[some fl,some (.ref 0),some (.ref 1),none,some (.ref 5)]++List.replicate 19 none,
  [.list (ik.map .int),.list (j8.map .int),.list (T.map .int),.list ((T.map fun x=>x%(10 ^ 12)).map .int),.list ((ik.drop (T.map fun x=>x%(10 ^ 12)).length).map .int),.list (((T.map fun x=>x%(10 ^ 12))++ik.drop (T.map fun x=>x%(10 ^ 12)).length).map .int)]):=by
  generalize hC:(T.map fun x=>x%(10 ^ 12))=C
  have hCl:C.length≤12:=by rw[<-hC,aD];exact hTl
  have hr7:ik.length=7:=rfl
  have g:∀H:H,H[0]?=some (.list (ik.map .int))->sliceFrom H (.ref 0) (.int C.length)=some (.ref H.length,H++[.list ((ik.drop C.length).map .int)]):=fun H p=>by rw[wM,p];exact(ap (Int.natCast_nonneg _)).trans ((ag (dW H) List.map_drop.symm).trans (nt (by rw[aD,List.length_drop];lia)))
  rw[List.map_append];exact bf (cm (ac rfl) (jg (ac rfl) (lX (ac rfl) rfl (aD _)) (g _ rfl)) (tV rfl rfl (by rw[bd,aD,aD,List.length_drop];lia) ⟨rfl,rfl⟩)) (bk (aj rfl))
 rw[<-hfl];rw[aC t0,aC t1,aC t2,aC t3,hT]
 rfl
end
end
section
section
variable {N n:Nat}
theorem mul_list {H:Mine.H}{a:Nat}{x k:Int}(e:H[a]?=some (O.list [.int x]))(h0:0≤k)(h1:k<100):jE H .mul (.ref a) (.int k)=some (.ref H.length,H++[O.list ((List.replicate k.toNat x).map .int)]):=by
 have hk:k.toNat≤1000000:=by lia
 rw[List.map_replicate];exact iL e ((ap ⟨h0,h1⟩).trans (nt (by rw[List.length_replicate];exact hk)))
noncomputable def C_ (fl:V) (s l m px il ln:Int) (text:List UInt8) (hl p:Nat) (many:Int) (y:List (Option V)):En:=
 [some fl,some (.ref 0),some (.ref 1),none,some (.ref 5),some (.int s),some (.int l),some (.int m),some (.int px),some (.int il),some (.int ln),none,some (.bytes text),some (.ref hl),some (.ref p),some (.int many)]++y
noncomputable def mD (b:Nat):H:=[O.inst 1 [.ref (b+2),.int 0,.int 0,.bool false,.bool false,.bool false,.bool false,.ref (b+3),.bytes [],.bool false,.none],
 O.inst 0 [.int 6,.int 0,.int 0,.int 0,.int 0,.bool false,.bool false],O.list [.ref (b+1)],O.list []]
theorem C8 {H:Mine.H}{fl:V}{C:List Int}(hO:H[1]?=some (O.list (j8.map .int)))(hC:H[5]?=some (O.list (C.map .int)))(c7:7≤C.length)(c12:C.length≤12):
 yq (fun(s l m px il ln:Int) (text:List UInt8) (hd:List Int) (hl:Nat) (X:Mine.H)=>(0≤s/\0≤l/\0≤m/\0≤px/\px<3)) (fun(s l m px il ln:Int) (text:List UInt8) (hd:List Int) (hl:Nat) (X:Mine.H)=>text.length≤5) (fun(s l m px il ln:Int) (text:List UInt8) (hd:List Int) (hl:Nat) (X:Mine.H)=>hd.length=6) (fun(s l m px il ln:Int) (text:List UInt8) (hd:List Int) (hl:Nat) (X:Mine.H)=>(∀x∈hd,(0:Int)≤x)) (fun(s l m px il ln:Int) (text:List UInt8) (hd:List Int) (hl:Nat) (X:Mine.H)=>(H++X)[hl]?=some (O.list (hd.map .int))) (fun(s l m px il ln:Int) (text:List UInt8) (hd:List Int) (hl:Nat) (X:Mine.H)=>∀r,execs (av aw N (n+2)) N (.cons EE (.cons ED (.cons EC (.cons EB r)))) ([some fl,some (.ref 0),some (.ref 1),none,some (.ref 5)]++List.replicate 19 none) H=
     execs (av aw N (n+2)) N r (C_ fl s l m px il ln text hl (H++X).length ((C.length:Int)-1) (List.replicate 8 none)) (H++X++mD (H++X).length)):=by
 obtain⟨s,l,m,px,il,ln,ed,hs,hl,hm,hpx,hil,hln⟩:=Dl (C.getD 0 0);have hC':∀y,(H++y)[5]?=_:=aY hC;have hO':∀y,(H++y)[1]?=_:=aY hO;have c0:∀y,cP (H++y) (.ref 5) (.int 0)=some (.int (C.getD 0 0)):=fun y=>gW (hC' y) (by decide) (by lia)
 have c1:∀y,cP (H++y) (.ref 5) (.int 1)=some (.int (C.getD 1 0)):=fun y=>gW (hC' y) (by decide) (by lia)
 have c2:∀y,cP (H++y) (.ref 5) (.int 2)=some (.int (C.getD 2 0)):=fun y=>gW (hC' y) (by decide) (by lia)
 obtain⟨X1,hX1⟩:∃X1:Mine.H,X1=[O.list [.int 11,.int 11,.int 16,.int 3,.int 2,.int 6],O.list [.int s,.int l,.int m,.int px,.int il,.int ln]]:=⟨_,rfl⟩
 have t4:exec (av aw N (n+2)) N EE ([some fl,some (.ref 0),some (.ref 1),none,some (.ref 5)]++List.replicate 19 none) H=
  some (.next,[some fl,some (.ref 0),some (.ref 1),none,some (.ref 5),some (.int s),some (.int l),some (.int m),some (.int px),some (.int il),some (.int ln)]++List.replicate 13 none,H++X1):=by
  have hc:=lM (N:=N) (n:=n+1) (h:=H++[O.list [.int 11,.int 11,.int 16,.int 3,.int 2,.int 6]]) (B:=H.length) (v:=C.getD 0 0) (bs:=[11,11,16,3,2,6]) (by simp) (by decide) (by decide)
  rw[ed,aH] at hc;have gq:(H++([O.list [.int 11,.int 11,.int 16,.int 3,.int 2,.int 6]]++[O.list ([s,l,m,px,il,ln].map V.int)]))[(H++[O.list [.int 11,.int 11,.int 16,.int 3,.int 2,.int 6]]).length]?=some (O.list ([s,l,m,px,il,ln].map V.int)):=by rw[<-aH];exact bC _ _ _
  have c0':=c0 [];rw[List.append_nil] at c0';rw[hX1];exact fh (bL (ah (bE (ac rfl) ao c0') (ah (bA (ah ao (ah ao (ah ao (ah ao (ah ao (ah ao aN)))))) (aj rfl) fJ) aN)) hc) (A3 gq) (db (bk (aj rfl)) (db (bk (aj rfl)) (db (bk (aj rfl)) (db (bk (aj rfl)) (db (bk (aj rfl)) (db (bk (aj rfl)) j3))))))
 obtain⟨m6,hm6⟩:∃m6,m6=kP (C.getD 1 0) (List.replicate ln.toNat 6):=⟨_,rfl⟩;have hm6l:m6.length=ln.toNat:=by rw[hm6,sQ,List.length_replicate]
 have hm6b:∀x∈m6,0≤x/\x<6:=by rw[hm6];exact sP (by decide) _ _
 obtain⟨oc,hoc⟩:∃oc,oc=m6.map fun x=>j8.getD x.toNat 0:=⟨_,rfl⟩;obtain⟨text,htext⟩:∃text:List UInt8,text=oc.map fun i=>i.toNat.toUInt8:=⟨_,rfl⟩;have htl:text.length≤5:=by rw[htext,aD,hoc,aD,hm6l];lia
 obtain⟨X2,hX2⟩:∃X2:Mine.H,X2=X1++[O.list [.int 6],O.list ((List.replicate ln.toNat 6).map .int),O.list (m6.map .int)]:=⟨_,rfl⟩
 have t5:exec (av aw N (n+2)) N ED ([some fl,some (.ref 0),some (.ref 1),none,some (.ref 5),some (.int s),some (.int l),some (.int m),some (.int px),some (.int il),some (.int ln)]++List.replicate 13 none) (H++X1)=
  some (.next,[some fl,some (.ref 0),some (.ref 1),none,some (.ref 5),some (.int s),some (.int l),some (.int m),some (.int px),some (.int il),some (.int ln),none,some (.bytes text)]++List.replicate 11 none,H++(X2++[O.list (oc.map .int)])):=by
  have ml:=mul_list (H:=H++X1++[O.list [.int 6]]) (a:=(H++X1).length) (x:=6) (k:=ln) (by simp) hln.1 (by lia)
  have hc:=lM (N:=N) (n:=n+1) (h:=H++X1++[O.list [.int 6]]++[O.list ((List.replicate ln.toNat (6:Int)).map .int)]) (B:=(H++X1++[O.list [.int 6]]).length) (v:=C.getD 1 0) (bs:=List.replicate ln.toNat 6) (by simp) (fun b hb=>by rw[List.eq_of_mem_replicate hb];decide) (by rw[List.length_replicate];lia)
  rw[<-hm6] at hc;have e2:H++X1++[O.list [.int 6]]++[O.list ((List.replicate ln.toNat (6:Int)).map .int)]++[O.list (m6.map .int)]=H++X2:=by rw[hX2];simp
  rw[e2] at hc;have hq:(H++X2)[(H++X1++[O.list [.int 6]]++[O.list ((List.replicate ln.toNat (6:Int)).map .int)]).length]?=some (O.list (m6.map .int)):=by rw[<-e2];exact bC _ _ _
  generalize hqq:(H++X1++[O.list [.int 6]]++[O.list ((List.replicate ln.toNat (6:Int)).map .int)]).length=q at hc hq
  have hcp:=qq (call:=av aw N (n+2)) (elt:=(.sub (.var 2) (.var 11))) (k:=11) (e:=[some fl,some (.ref 0),some (.ref 1),none,some (.ref 5),some (.int s),some (.int l),some (.int m),some (.int px),some (.int il),some (.int ln)]++List.replicate 13 none)
   (H:=H++X2) (chk:=dy (H++X2) (.ref q)) (f:=fun x=>j8.getD x.toNat 0) (cB hq hq) m6 (fun x hx=>by
    obtain⟨x0,x1⟩:=hm6b x hx;have:=gW (k:=x) (hO' X2) x0 (by show x<6;exact x1)
    exact(bE (ac rfl) (ac rfl) this))
  rw[<-hoc] at hcp
  have hb:gc (oc.map .int)=some text:=by rw[htext];refine ya fun i hi=> ?_;rw[hoc,List.mem_map] at hi;obtain⟨x,hx,rfl⟩:=hi;obtain⟨x0,x1⟩:=hm6b x hx;exact B1 x.toNat (by lia)
  rw[<-aH];exact bf (yW (kD (bL (ah (bE (ac rfl) ao (c1 _)) (ah (cm (bA (ah ao aN) (aj rfl) fJ) (ac rfl) ml) aN)) hc) (dG hq) hcp (by rw[aD,hoc,aD,hm6l];lia) fJ) (bC _ _ _) hb) (bk (aj rfl))
 obtain⟨hd,hhd⟩:∃hd,hd=kP (C.getD 2 0) (List.replicate 6 64):=⟨_,rfl⟩;have hhdl:hd.length=6:=by rw[hhd,sQ];rfl
 have hhdb:∀x∈hd,0≤x:=fun x hx=>by rw[hhd] at hx;exact(sP (by decide) _ _ x hx).1
 obtain⟨X3,hX3⟩:∃X3:Mine.H,X3=X2++[O.list (oc.map .int)]:=⟨_,rfl⟩;obtain⟨X4,hX4⟩:∃X4:Mine.H,X4=X3++[O.list [.int 64],O.list ((List.replicate 6 64).map .int)]:=⟨_,rfl⟩;rw[<-hX3] at t5
 have t6:exec (av aw N (n+2)) N EC ([some fl,some (.ref 0),some (.ref 1),none,some (.ref 5),some (.int s),some (.int l),some (.int m),some (.int px),some (.int il),some (.int ln),none,some (.bytes text)]++List.replicate 11 none) (H++X3)=
  some (.next,[some fl,some (.ref 0),some (.ref 1),none,some (.ref 5),some (.int s),some (.int l),some (.int m),some (.int px),some (.int il),some (.int ln),none,some (.bytes text),some (.ref (H++X4).length)]++List.replicate 10 none,H++(X4++[O.list (hd.map .int)])):=by
  have ml:=mul_list (H:=H++X3++[O.list [.int 64]]) (a:=(H++X3).length) (x:=64) (k:=6) (by simp) (by decide) (by decide)
  have hc:=lM (N:=N) (n:=n+1) (h:=H++X3++[O.list [.int 64]]++[O.list ((List.replicate (6:Int).toNat (64:Int)).map .int)]) (B:=(H++X3++[O.list [.int 64]]).length) (v:=C.getD 2 0) (bs:=List.replicate 6 64) (bC _ _ _) (fun b hb=>by rw[List.eq_of_mem_replicate hb];decide) (by decide)
  rw[<-hhd] at hc;have e2:H++X3++[O.list [.int 64]]++[O.list ((List.replicate (6:Int).toNat (64:Int)).map .int)]=H++X4:=by rw[hX4];simp
  rw[e2] at hc ml;rw[<-aH];exact bf (bL (ah (bE (ac rfl) ao (c2 _)) (ah (cm (bA (ah ao aN) (aj rfl) fJ) ao ml) aN)) hc) (bk (aj rfl))
 obtain⟨X5,hX5⟩:∃X5:Mine.H,X5=X4++[O.list (hd.map .int)]:=⟨_,rfl⟩;rw[<-hX5] at t6
 have t7:exec (av aw N (n+2)) N EB ([some fl,some (.ref 0),some (.ref 1),none,some (.ref 5),some (.int s),some (.int l),some (.int m),some (.int px),some (.int il),some (.int ln),none,some (.bytes text),some (.ref (H++X4).length)]++List.replicate 10 none) (H++X5)=
  some (.next,C_ fl s l m px il ln text (H++X4).length (H++X5).length ((C.length:Int)-1) (List.replicate 8 none),H++X5++mD (H++X5).length):=by
  have g5:=hC' (X5++mD (H++X5).length);rw[<-aH] at g5;have pr:=qr (N:=N) (n:=n) (h:=H++X5) (e:=[some fl,some (.ref 0),some (.ref 1),none,some (.ref 5),some (.int s),some (.int l),some (.int m),some (.int px),some (.int il),some (.int ln),none,some (.bytes text),some (.ref (H++X4).length)]++List.replicate 10 none);rw[show([O.inst 1 [.ref ((H++X5).length+2),.int 0,.int 0,.bool false,.bool false,.bool false,.bool false,.ref ((H++X5).length+3),.bytes [],.bool false,.none],O.inst 0 [.int 6,.int 0,.int 0,.int 0,.int 0,.bool false,.bool false],O.list [.ref ((H++X5).length+1)],O.list []]:Mine.H)=mD (H++X5).length from rfl] at pr;exact fh (bS (ah pr (ah (cm (lX (ac rfl) g5 (aD _)) ao rfl) aN))) rfl (db (bk (aj rfl)) (db (bk (aj rfl)) j3))
 refine⟨s,l,m,px,il,ln,text,hd,(H++X4).length,X5,⟨hs.1,hl.1,hm.1,hpx.1,hpx.2⟩,htl,hhdl,hhdb,?_,fun r=> ?_⟩
 ·rw[hX5,<-aH];exact bC _ _ _
 ·rw[aC t4,aC t5,aC t6,aC t7]
end
end
section
section
variable {N n:Nat}
noncomputable def PH (H6:H) (F:List V) (u:O) (J:H):H:=H6++O.inst 1 F::O.inst 0 gN::u::O.list []::J
section
variable {a:Nat}
variable {H6:H}{F F':List V}{u u':O}{J X:H}
theorem mw:PH H6 F u J++X=PH H6 F u (J++X):=by simp[PH]
theorem we:(PH H6 F u J)[H6.length]?=some (.inst 1 F):=bC _ _ _
theorem ub:(PH H6 F u J)[H6.length+2]?=some u:=by unfold PH;rw[bz];rfl
theorem Ey:(PH H6 F u J)[H6.length+3]?=some (.list []):=by unfold PH;rw[bz];rfl
theorem Ez:(PH H6 F u J)[H6.length+1]?=some (.inst 0 gN):=by unfold PH;rw[bz];rfl
theorem ua:(PH H6 F u J).set (H6.length+2) u'=PH H6 F u' J:=by unfold PH;rw[eV];rfl
theorem uX:(PH H6 F u J).set H6.length (.inst 1 F')=PH H6 F' u J:=by unfold PH;rw[fw];rfl
theorem Do (h:a≠H6.length+2):(PH H6 F u J)[a]?=(PH H6 F u' J)[a]?:=by rw[<-ua (u:=u) (u':=u'),List.getElem?_set_ne (fun z=>h z.symm)]
theorem BZ (h:a≠H6.length):(PH H6 F u J)[a]?=(PH H6 F' u J)[a]?:=by rw[<-uX (F:=F) (F':=F'),List.getElem?_set_ne (fun z=>h z.symm)]
end
noncomputable def cI (E:List (Option V)) (hl p:Nat) (many:Nat) (y:List (Option V)):En:=E++[some (.ref hl),some (.ref p),some (.int many)]++y
noncomputable def DA:dz:=DM.body
noncomputable def Fp (p:Nat):List V:=[.ref (p+2),.int 0,.int 0,.bool false,.bool false,.bool false,.bool false,.ref (p+3),.bytes [],.bool false,.none]
theorem zk {H6:H}{L0:O}{E:List (Option V)}(hE:E.length=13){hl many:Nat}(hm:0<many){chk:H->Bool}(hchk:∀u J,chk (PH H6 (Fp H6.length) u (L0::J))=true){y:List (Option V)}:
 ∀ (cs:List Int) (as:List Nat) (is:List I) (J:H) (x16:Option V),(∀u,aM (PH H6 (Fp H6.length) u (L0::J)) as is)->as.length+cs.length≤1000->
   uZ (fun as' is' J' z16=>dR 16 (bn (av aw N (n+2)) N DA) chk (cs.map .int) (cI E hl H6.length many (x16::y)) (PH H6 (Fp H6.length) (.list (as.map .ref)) (L0::J))=some (.next,cI E hl H6.length many (z16::y),PH H6 (Fp H6.length) (.list ((as++as').map .ref)) (L0::(J++J')))) (fun as' is' J' z16=>(∀u,aM (PH H6 (Fp H6.length) u (L0::(J++J'))) (as++as') (is++is'))) (fun as' is' J' z16=>(∀i∈is',pS many i/\i.last=false)) (fun as' is' J' z16=>is'.length=cs.length):=by
 intro cs
 induction cs with
 | nil=>
   intro as is J x16 hi _;exact⟨[],[],[],x16,by simp[eC,bK,hchk],by simpa using hi,by simp,rfl⟩
 | cons c cs ih=>
   intro as is J x16 hi hl';simp only[List.length_cons] at hl';obtain⟨i,a,X,q1,q2,q3,q4⟩:=zW (N:=N) (n:=n) (h:=PH H6 (Fp H6.length) (.list (as.map .ref)) (L0::J)) (num:=as.length) (many:=many) (cell:=c) hm;rw[mw] at q1 q2
   have hne:a≠H6.length+2:=fun e=>by rw[e,ub] at q2;simp at q2
   have hi':∀u,aM (PH H6 (Fp H6.length) u (L0::(J++X))) (as++[a]) (is++[i]):=fun u=>by
    refine aM.app ?_ ⟨?_,trivial⟩
    ·have:=(hi u).mono (Le.app _ X)
     rwa[mw] at this
    ·rw[Do (u':=O.list (as.map .ref)) hne];exact q2
   obtain⟨as',is',J',z16,r1,r2,r3,r4⟩:=ih (as++[a]) (is++[i]) (J++X) (some (.int c)) hi' (by simp;lia)
   refine⟨a::as',i::is',X++J',z16,?_,?_,?_,by simp[r4]⟩
   ·have e14:(cI E hl H6.length many (some (.int c)::y))[14]?=some (some (.ref H6.length)):=by
     unfold cI;rw[aH,List.getElem?_append_right (by lia),hE];rfl
    have e15:(cI E hl H6.length many (some (.int c)::y))[15]?=some (some (.int many)):=by unfold cI;rw[aH,List.getElem?_append_right (by lia),hE];rfl
    have e16:(cI E hl H6.length many (some (.int c)::y))[16]?=some (some (.int c)):=by unfold cI;rw[aH,List.getElem?_append_right (by lia),hE];rfl
    have es:(cI E hl H6.length many (x16::y)).set 16 (some (.int c))=cI E hl H6.length many (some (.int c)::y):=by unfold cI;rw[aH,aH,List.set_append_right _ _ (by lia),hE];rfl
    have hla:as.length<1000000:=by lia
    have hb:bn (av aw N (n+2)) N DA (cI E hl H6.length many (some (.int c)::y)) (PH H6 (Fp H6.length) (.list (as.map .ref)) (L0::J))=some (.next,cI E hl H6.length many (some (.int c)::y),PH H6 (Fp H6.length) (.list ((as++[a]).map .ref)) (L0::(J++X))):=by exact iq (gg (am (ac e14) we rfl) ub (bL (ah (lX (am (ac e14) we rfl) ub (aD _)) (ah (ac e15) (ah (ac e16) aN))) q1) ub (by rw[aD];exact hla) (by rw[ua,List.map_append];rfl))
    rw[List.map_cons,bK,ap (hchk _ _),es,hb];simp only;rw[r1,aH,aH]
    rfl
   ·intro u
    have:=r2 u
    simpa using this
   ·intro j hj
    rcases a_ hj with rfl | hj
    ·exact⟨q3,q4⟩
    ·exact r3 j hj
end
end
section
variable {H6:H}
section
variable {N n:Nat}
theorem aM.mem {h:H}{as:List Nat}{is:List I}(x:aM h as is):∀a∈as,∃fs,h[a]?=some (.inst 0 fs):=by
 induction as generalizing is with
 | nil=>intro a ha;cases ha
 | cons b as ih=>cases is with
   | nil=>exact x.elim
   | cons i is=>
     intro a ha;rcases a_ ha with rfl | ha
     ·exact⟨_,x.1⟩
     ·exact ih x.2 a ha
theorem rI {F:List V}{u:O}{J:H}{f:Nat}{v:V}(hF:F.length=11)(hf:f<11):setAttr (PH H6 F u J) (.ref H6.length) 1 f v=some (PH H6 (F.set f v) u J):=by exact(qa we (by lia) hf).trans (ag some uX)
noncomputable def zj (fl:V) (s l m px il ln:Int) (text:List UInt8):List (Option V):=[some fl,some (.ref 0),some (.ref 1),none,some (.ref 5),some (.int s),some (.int l),some (.int m),some (.int px),some (.int il),some (.int ln),none,some (.bytes text)]
theorem C7 {fl:V}{s l m px il ln:Int}{text:List UInt8}{hl many:Nat}{C:List Int}(hC:H6[5]?=some (.list (C.map .int)))(c7:7≤C.length)(c12:C.length≤12)(hmany:many=C.length-1)(hs:0≤s)(hlo:0≤l)(hpx:0≤px):
 AL (fun(d:PD) (as:List Nat) (X:H) (z16:Option V)=>(∀r,execs (av aw N (n+2)) N (.cons DM (.cons EA (.cons Cg (.cons Cf (.cons Ce (.cons Cc r)))))) (cI (zj fl s l m px il ln text) hl H6.length many (List.replicate 8 none)) (H6++mD H6.length)=
     execs (av aw N (n+2)) N r (cI (zj fl s l m px il ln text) hl H6.length many (z16::List.replicate 7 none)) (H6++X))) (fun(d:PD) (as:List Nat) (X:H) (z16:Option V)=>PA (H6++X) H6.length (H6.length+2) (H6.length+3) as d) (fun(d:PD) (as:List Nat) (X:H) (z16:Option V)=>d.flat=false) (fun(d:PD) (as:List Nat) (X:H) (z16:Option V)=>d.heads=[]) (fun(d:PD) (as:List Nat) (X:H) (z16:Option V)=>ii d.insts) (fun(d:PD) (as:List Nat) (X:H) (z16:Option V)=>d.insts.length=many) (fun(d:PD) (as:List Nat) (X:H) (z16:Option V)=>(0≤d.start/\d.start<d.insts.length)) (fun(d:PD) (as:List Nat) (X:H) (z16:Option V)=>(0≤d.loose/\d.loose<d.insts.length)):=by
 have hm0:0<many:=by lia
 obtain⟨E,hE⟩:∃E,E=zj fl s l m px il ln text:=⟨_,rfl⟩;have hEl:E.length=13:=by rw[hE];rfl
 have e4:∀y,(cI E hl H6.length many y)[4]?=some (some (.ref 5)):=fun y=>by rw[hE];rfl
 have e5:∀y,(cI E hl H6.length many y)[5]?=some (some (.int s)):=fun y=>by rw[hE];rfl
 have e6:∀y,(cI E hl H6.length many y)[6]?=some (some (.int l)):=fun y=>by rw[hE];rfl
 have e7:∀y,(cI E hl H6.length many y)[7]?=some (some (.int m)):=fun y=>by rw[hE];rfl
 have e8:∀y,(cI E hl H6.length many y)[8]?=some (some (.int px)):=fun y=>by rw[hE];rfl
 have e14:∀y,(cI E hl H6.length many y)[14]?=some (some (.ref H6.length)):=fun y=>by rw[hE];rfl
 have e15:∀y,(cI E hl H6.length many y)[15]?=some (some (.int many)):=fun y=>by rw[hE];rfl
 rw[<-hE];have hp0:H6++mD H6.length=PH H6 (Fp H6.length) (.list ([H6.length+1].map .ref)) []:=rfl;have g5:∀y,(H6++y)[5]?=_:=aY hC;obtain⟨L0,hL0⟩:∃L0:O,L0=O.list ((C.drop 3).map .int):=⟨_,rfl⟩;have hq:∀u J,(PH H6 (Fp H6.length) u (L0::J))[H6.length+4]?=some (.list ((C.drop 3).map .int)):=fun u J=>by unfold PH;rw[bz,hL0];rfl
 obtain⟨as',is',J',z16,r1,r2,r3,r4⟩:=zk (N:=N) (n:=n) (H6:=H6) (L0:=L0) (E:=E) hEl (hl:=hl) (many:=many) hm0 (chk:=dy (PH H6 (Fp H6.length) (.list ([H6.length+1].map .ref)) [L0]) (.ref (H6.length+4)))
  (fun u J=>cB (hq _ _) (hq _ _)) (y:=List.replicate 7 none) (C.drop 3) [H6.length+1] [mK] [] none (fun u=>⟨Ez,trivial⟩) (by simp;lia)
 have t8:exec (av aw N (n+2)) N DM (cI E hl H6.length many (List.replicate 8 none)) (H6++mD H6.length)=some (.next,cI E hl H6.length many (z16::List.replicate 7 none),PH H6 (Fp H6.length) (.list (([H6.length+1]++as').map .ref)) (L0::([]++J'))):=by
  refine fc (x:=.ref (H6.length+4)) (vs:=(C.drop 3).map .int) (ak:=PH H6 (Fp H6.length) (.list ([H6.length+1].map .ref)) [L0]) ?_ ?_ ?_ ?_
  ·have nl:dW (H6++mD H6.length) ((C.map V.int).drop 3)=some (.ref (H6.length+4),PH H6 (Fp H6.length) (.list ([H6.length+1].map .ref)) [L0]):=by
    rw[nt (by rw[List.length_drop,aD];lia),hp0,mw,hL0,List.map_drop]
    rw[show(PH H6 (Fp H6.length) (O.list ([H6.length+1].map .ref)) []).length=H6.length+4 by simp[PH]]
    rfl
   exact jg (ac (e4 _)) ao (by rw[wM,g5];exact(ap (by decide)).trans nl)
  ·exact dG (hq _ _)
  ·unfold cI;simp[hEl]
  ·exact r1
 obtain⟨J1,hJ1⟩:∃J1:H,J1=L0::([]++J'):=⟨_,rfl⟩;obtain⟨as1,has1⟩:∃as1:List Nat,as1=[H6.length+1]++as':=⟨_,rfl⟩;obtain⟨is1,his1⟩:∃is1:List I,is1=[mK]++is':=⟨_,rfl⟩;have r2':∀u,aM (PH H6 (Fp H6.length) u J1) as1 is1:=fun u=>by rw[hJ1,has1,his1];exact r2 u
 rw[<-hJ1,<-has1] at t8;have hl1:as1.length=is1.length:=(r2' (.list [])).len;have his1l:is1.length=C.length-2:=by rw[his1,bd,r4,List.length_drop,List.length_singleton];lia
 obtain⟨J2,hJ2⟩:∃J2:H,J2=J1++[.inst 0 (wk 4 0 0 0 0 false).fs]:=⟨_,rfl⟩;obtain⟨a,ha⟩:∃a:Nat,a=(PH H6 (Fp H6.length) (.list (as1.map .ref)) J1).length:=⟨_,rfl⟩
 have t9:exec (av aw N (n+2)) N EA (cI E hl H6.length many (z16::List.replicate 7 none)) (PH H6 (Fp H6.length) (.list (as1.map .ref)) J1)=some (.next,cI E hl H6.length many (z16::List.replicate 7 none),PH H6 (Fp H6.length) (.list ((as1++[a]).map .ref)) J2):=by
  have hla:as1.length<1000000:=by lia
  have hn:ax (av aw N (n+2)) (.new 0 (.cons (.lit (.int 4)) .nil)) (cI E hl H6.length many (z16::List.replicate 7 none)) (PH H6 (Fp H6.length) (.list (as1.map .ref)) J1)=some (.ref a,PH H6 (Fp H6.length) (.list (as1.map .ref)) J2):=
   gC (ah ao aN) rfl ⟨ha.symm,by rw[mw,hJ2];rfl⟩
  exact gg (am (ac (e14 _)) we rfl) ub hn ub (by rw[aD];exact hla) (by rw[ua,List.map_append];rfl)
 have hi2:∀u,aM (PH H6 (Fp H6.length) u J2) (as1++[a]) (is1++[wk 4 0 0 0 0 false]):=fun u=>by
  refine aM.app ?_ ⟨?_,trivial⟩
  ·have:=(r2' u).mono (Le.app _ [.inst 0 (wk 4 0 0 0 0 false).fs])
   rw[mw] at this;rw[hJ2];exact this
  ·have:a=(PH H6 (Fp H6.length) u J1).length:=by rw[ha];simp[PH]
   rw[this,hJ2,<-mw];exact bC _ _ _
 obtain⟨as2,has2⟩:∃as2,as2=as1++[a]:=⟨_,rfl⟩;obtain⟨is2,his2⟩:∃is2,is2=is1++[wk 4 0 0 0 0 false]:=⟨_,rfl⟩;rw[<-has2,<-his2] at hi2;rw[<-has2] at t9;have hl2:is2.length=many:=by rw[his2,bd,his1l,List.length_singleton];lia
 have hmI:(0:Int)<many:=by lia
 have hmod:∀x:Int,0≤x%many/\x%many<many:=fun x=>⟨Int.emod_nonneg _ (by lia),Int.emod_lt_of_pos _ hmI⟩
 have step2:∀ (F:List V) (f g:Nat) (v w:V),F.length=11->f<11->g<11->∀y,stores (av aw N (n+2)) [.attr (.var 14) 1 f,.attr (.var 14) 1 g] [v,w] (cI E hl H6.length many y) (PH H6 F (.list (as2.map .ref)) J2)=
  some (cI E hl H6.length many y,PH H6 ((F.set f v).set g w) (.list (as2.map .ref)) J2):=fun F f g v w hF hf hg y=>by
  exact db (dO (ac (e14 _)) (rI hF hf)) (db (dO (ac (e14 _)) (rI (by rw[List.length_set];exact hF) hg)) j3)
 obtain⟨F1,hF1⟩:∃F1,F1=((Fp H6.length).set 1 (.int ((1+s)%many))).set 2 (.int ((1+l)%many)):=⟨_,rfl⟩
 have t10:exec (av aw N (n+2)) N Cg (cI E hl H6.length many (z16::List.replicate 7 none)) (PH H6 (Fp H6.length) (.list (as2.map .ref)) J2)=some (.next,cI E hl H6.length many (z16::List.replicate 7 none),PH H6 F1 (.list (as2.map .ref)) J2):=by rw[hF1];exact fh (bS (ah (cm (cm ao (ac (e5 _)) rfl) (ac (e15 _)) (jD hmI)) (ah (cm (cm ao (ac (e6 _)) rfl) (ac (e15 _)) (jD hmI)) aN))) rfl (step2 _ 1 2 _ _ rfl (by decide) (by decide) _)
 obtain⟨F2,hF2⟩:∃F2,F2=(F1.set 3 (.bool (m%2==1))).set 4 (.bool (m/2%2==1)):=⟨_,rfl⟩
 have t11:exec (av aw N (n+2)) N Cf (cI E hl H6.length many (z16::List.replicate 7 none)) (PH H6 F1 (.list (as2.map .ref)) J2)=some (.next,cI E hl H6.length many (z16::List.replicate 7 none),PH H6 F2 (.list (as2.map .ref)) J2):=by rw[hF2];exact fh (bS (ah (az (cm (ac (e7 _)) ao (jD (by decide))) ao rfl) (ah (az (cm (cm (ac (e7 _)) ao (rC (by decide))) ao (jD (by decide))) ao rfl) aN))) rfl (step2 _ 3 4 _ _ (by rw[hF1];rfl) (by decide) (by decide) _)
 obtain⟨F3,hF3⟩:∃F3,F3=(F2.set 5 (.bool (m/4%2==1))).set 9 (.bool (m/8==1)):=⟨_,rfl⟩
 have t12:exec (av aw N (n+2)) N Ce (cI E hl H6.length many (z16::List.replicate 7 none)) (PH H6 F2 (.list (as2.map .ref)) J2)=some (.next,cI E hl H6.length many (z16::List.replicate 7 none),PH H6 F3 (.list (as2.map .ref)) J2):=by rw[hF3];exact fh (bS (ah (az (cm (cm (ac (e7 _)) ao (rC (by decide))) ao (jD (by decide))) ao rfl) (ah (az (cm (ac (e7 _)) ao (rC (by decide))) ao rfl) aN))) rfl (step2 _ 5 9 _ _ (by rw[hF2,hF1];rfl) (by decide) (by decide) _)
 obtain⟨F4,hF4⟩:∃F4,F4=F3.set 8 (.bytes (([97,98]:List UInt8).take px.toNat)):=⟨_,rfl⟩
 have t13:exec (av aw N (n+2)) N Cc (cI E hl H6.length many (z16::List.replicate 7 none)) (PH H6 F3 (.list (as2.map .ref)) J2)=some (.next,cI E hl H6.length many (z16::List.replicate 7 none),PH H6 F4 (.list (as2.map .ref)) J2):=by rw[hF4];exact bf (jM ao (ac (e8 _)) (ap ⟨hpx,aj rfl⟩)) (dO (ac (e14 _)) (rI (by rw[hF3,hF2,hF1];rfl) (by decide)))
 have hF4':F4=[.ref (H6.length+2),.int ((1+s)%many),.int ((1+l)%many),.bool (m%2==1),.bool (m/2%2==1),.bool (m/4%2==1),.bool false,.ref (H6.length+3),.bytes (([97,98]:List UInt8).take px.toNat),.bool (m/8==1),.none]:=by rw[hF4,hF3,hF2,hF1];rfl
 have hpe:PH H6 F4 (.list (as2.map .ref)) J2=H6++(O.inst 1 F4::O.inst 0 gN::(.list (as2.map .ref))::O.list []::J2):=rfl
 refine⟨{insts:=is2,start:=(1+s)%many,loose:=(1+l)%many,rev:=m%2==1,as:=m/2%2==1,ae:=m/4%2==1,flat:=false,heads:=[],pre:=([97,98]:List UInt8).take px.toNat,pf:=m/8==1},as2,_,z16,fun r=>by rw[aC t8,aC t9,aC t10,aC t11,aC t12,aC t13,hpe],⟨?_,?_,?_,?_⟩,rfl,rfl,⟨fun i hi=> ?_,?_,?_⟩,hl2,?_,?_⟩
 ·rw[<-hpe,we,hF4']
 ·rw[<-hpe,ub]
 ·rw[<-hpe]
  refine aM.congr (fun b hb=> ?_) (hi2 (.list (as2.map .ref)));refine BZ fun e=> ?_;obtain⟨fs,hfs⟩:=(hi2 (.list (as2.map .ref))).mem b hb;rw[e,we] at hfs;cases hfs
 ·rw[<-hpe,Ey];rfl
 ·show pS is2.length i
  have hi':i∈is2:=hi;rw[hl2];rw[his2,his1] at hi';rcases ba hi' with hi' | hi'
  ·rcases ba hi' with hi' | hi'
   ·rw[aB hi']
    exact zg (by decide) (by decide) (fun z h=>absurd rfl h) (fun h=>absurd h (by decide)) (fun h=>absurd h (by decide)) (fun h=>absurd h (by decide)) (fun h=>absurd h (by decide)) (fun h=>absurd h (by decide))
   ·exact(r3 i hi').1
  ·rw[aB hi']
   exact zg (by decide) (by decide) (fun h z=>absurd rfl h) (fun h=>absurd h (by decide)) (fun h=>absurd h (by decide)) (fun h=>absurd h (by decide)) (fun h=>absurd h (by decide)) (fun z=>by decide)
 ·show(gi is2 0).op=6
  rw[his2,his1];rfl
 ·show 0<is2.length
  lia
 ·show 0≤(1+s)%many/\(1+s)%many<is2.length
  rw[hl2];exact hmod _
 ·show 0≤(1+l)%many/\(1+l)%many<is2.length
  rw[hl2];exact hmod _
end
end
section
variable {l:List V}{hl:Nat}{start:Int}{text:List UInt8}
section
variable {N n:Nat}{h:H}{p L Hd:Nat}{as:List Nat}{d:PD}
theorem iy {H:Mine.H}{k:Nat}(hl:∀v∈l,f6 H k v v=some true):f6 H (k+1) (.tup l) (.tup l)=some true:=by
 show(if l.length=l.length then fm (f6 H k) l l else none)=_
 rw[ap rfl,pn l hl]
theorem nX (H:Mine.H)(k:Nat)(b:Bool):f6 H (k+1) (.bool b) (.bool b)=some true:=ag some (beq_self_eq_true b)
theorem y_ (H:Mine.H)(k:Nat)(i:I):f6 H (k+2) (gY i) (gY i)=some true:=by
 refine iy fun v hv=> ?_;unfold f8 at hv;simp only[List.cons_append,List.nil_append,List.mem_cons,List.not_mem_nil,or_false] at hv;rcases hv with rfl | rfl | rfl | rfl | rfl | rfl | rfl
 ·exact dT _ _ _
 ·exact dT _ _ _
 ·exact dT _ _ _
 ·exact dT _ _ _
 ·exact dT _ _ _
 ·exact nX _ _ _
 ·exact nX _ _ _
theorem ul (H:Mine.H)(k:Nat)(c:dD):f6 H (k+3) (cF c) (cF c)=some true:=by
 refine iy fun v hv=> ?_;simp only[List.mem_cons,List.not_mem_nil,or_false] at hv;rcases hv with rfl | rfl | rfl
 ·exact dT _ _ _
 ·exact dT _ _ _
 ·refine iy fun v hv=> ?_
  rw[List.mem_map] at hv;obtain⟨i,_,rfl⟩:=hv;exact dT _ _ _
noncomputable def pZ (r q:Nat) (d:PD):V:=.tup [.ref r,.int d.start,.int d.loose,.bool d.flat,.ref q,eN d]
theorem qz {H:Mine.H}{r1 q1 r2 q2:Nat}(a1:H[r1]?=some (.list (d.insts.map gY)))(a2:H[q1]?=some (.list (d.heads.map .int)))(b1:H[r2]?=some (.list (d.insts.map gY)))(b2:H[q2]?=some (.list (d.heads.map .int))):
 f6 H 8 (pZ r1 q1 d) (pZ r2 q2 d)=some true:=by
 have h1:f6 H 7 _ _=_:=ga (k:=6) a1 b1 (fun v hv=>by rw[List.mem_map] at hv;obtain⟨i,_,rfl⟩:=hv;exact y_ _ _ _)
 have h2:f6 H 7 _ _=_:=ga (k:=6) a2 b2 (fun v hv=>by rw[List.mem_map] at hv;obtain⟨i,_,rfl⟩:=hv;exact dT _ _ _)
 show(if [V.ref r1,V.int d.start,V.int d.loose,V.bool d.flat,V.ref q1,eN d].length=[V.ref r2,V.int d.start,V.int d.loose,V.bool d.flat,V.ref q2,eN d].length then fm (f6 H 7) [V.ref r1,V.int d.start,V.int d.loose,V.bool d.flat,V.ref q1,eN d] [V.ref r2,V.int d.start,V.int d.loose,V.bool d.flat,V.ref q2,eN d] else none)=_
 refine(ap rfl).trans ?_;simp only[rG,lP,h1,h2,dT,nX,lY,Bool.and_self]
theorem jU (x:PA h p L Hd as d)(h1:d.insts.length≤1000000)(h2:d.heads.length≤1000000):
 av aw N (n+2) 21 [.ref p] h=some (pZ h.length (h.length+1) d,h++[.list (d.insts.map gY),.list (d.heads.map .int)]):=BL x h1 h2
theorem sT (x:PA h p L Hd as d)(hf:d.flat=true):av aw N (n+1) 16 [.ref p] h=some (.ref p,h):=by exact cL rfl rfl (bb (bX (am (ac rfl) x.obj rfl) (ag some hf) (bb (bR (ac rfl))))) rfl
theorem yS {W:dD->List dD}{S:List dD}{o o':List dD}{m m':List jd}(x:Run W S [] o m)(y:Run W S [] o' m'):o=o':=by
 obtain⟨ν,x'⟩:=jK (dead:=fun z=>False) (fun c hc=>hc.elim) x (fun z=>False) (fun q z=>by simp)
 obtain⟨ν',y'⟩:=jK (dead:=fun z=>False) (fun c hc=>hc.elim) y (fun z=>False) (fun q z=>by simp)
 exact(x'.det y').1
noncomputable def k0:List Int:=[-1,-1,-1,-1]
noncomputable def fH (N:Nat) (h:H) (p:Nat) (start:Int) (text:List UInt8) (hl:Nat) (l:List V):Prop:=∀Y,∃X,av aw N 10 24 [.ref p,.int start,.bytes text,.ref hl] (h++Y)=some (.ref (h++Y).length,h++Y++.list l::X)
theorem oJ {m:Nat}{holds:List Int}{lst:Int->List I}{U:Int->Prop}{UK:List jd}(L:∀Y,qu N 8 (h++Y) p lst m U)(ht:text.length≤1000000)(hh:h[hl]?=some (.list (holds.map .int)))(hpos:∀x∈holds,0≤x)(K:SK UK (dK text holds lst) U holds.length)(hs:(start,0)∈UK)(hN:400000≤N):
 dU (fun o mk=>Run (dK text holds lst) [(start,0,k0)] [] o mk) (fun o mk=>o.length≤1000) (fun o mk=>fH N h p start text hl (o.map cF)):=by
 obtain⟨o,mk,_,r1,r2,_⟩:=uP (N:=N) (n:=8) (start:=start) (L []) ht (aY hh []) hpos K hs hN;refine⟨o,mk,r1,r2,fun Y=> ?_⟩;obtain⟨o',mk',X,q1,q2,q3⟩:=uP (N:=N) (n:=8) (start:=start) (L Y) ht (aY hh Y) hpos K hs hN;have:o'=o:=yS q1 r1;subst this;exact⟨X,q3⟩
theorem fH.mono (x:fH N h p start text hl l)(X:H):fH N (h++X) p start text hl l:=fun Y=>by obtain⟨X',e⟩:=x (X++Y);refine⟨X',?_⟩;rw[<-aH] at e;exact e
theorem wY {H:Mine.H}{D E f1 f2 g1 g2:Nat}{l1 l2:List dD}(hD:H[D]?=some (.list [.ref f1,.ref f2]))(hE:H[E]?=some (.list [.ref g1,.ref g2]))(a1:H[f1]?=some (.list (l1.map cF)))(a2:H[f2]?=some (.list (l2.map cF)))(b1:H[g1]?=some (.list (l1.map cF)))(b2:H[g2]?=some (.list (l2.map cF))):
 f6 H 8 (.ref D) (.ref E)=some true:=by
 have h1:f6 H 7 _ _=_:=ga (k:=6) a1 b1 (fun v hv=>by rw[List.mem_map] at hv;obtain⟨i,_,rfl⟩:=hv;exact ul _ _ _)
 have h2:f6 H 7 _ _=_:=ga (k:=6) a2 b2 (fun v hv=>by rw[List.mem_map] at hv;obtain⟨i,_,rfl⟩:=hv;exact ul _ _ _)
 have:f6 H 8 (.ref D) (.ref E)=(if [V.ref f1,V.ref f2].length=[V.ref g1,V.ref g2].length then fm (f6 H 7) [V.ref f1,V.ref f2] [V.ref g1,V.ref g2] else some false):=by exact DZ hD hE
 rw[this];refine(ap rfl).trans ?_;simp only[rG,lP,h1,h2,Bool.and_self]
theorem uF {call:bV}{c:Ex}{a:dz}{e:En}{h ak:H}(hc:ax call c e h=some (.bool false,ak)):exec call N (.if_ c a .nil) e h=some (.next,e,ak):=by exact(aS hc rfl aF)
end
end
section
variable {e:En}{hl one L1 H1 k:Nat}{text:List UInt8}{call:bV}{h h1 h2:H}{as1:List Nat}{d1:PD}{o1 o2:List dD}{a b:Ex}
section
variable {N:Nat}
theorem xK {H:H}(x:PA H one L1 H1 as1 d1)(F1:fH N H one d1.start text hl (o1.map cF))(F2:fH N H one d1.loose text hl (o2.map cF))
 (ek:e[k]?=some (some (.ref one))) (e12:e[12]?=some (some (.bytes text))) (e13:e[13]?=some (some (.ref hl))):
 uZ (fun X f1 f2 D=>ax (av aw N 10) (.list (.cons (.call 24 (.cons (.var k) (.cons (.attr (.var k) 1 1) (.cons (.var 12) (.cons (.var 13) (.nil)))))) (.cons (.call 24 (.cons (.var k) (.cons (.attr (.var k) 1 2) (.cons (.var 12) (.cons (.var 13) (.nil)))))) (.nil)))) e H=some (.ref D,H++X)) (fun X f1 f2 D=>(H++X)[D]?=some (.list [.ref f1,.ref f2])) (fun X f1 f2 D=>(H++X)[f1]?=some (.list (o1.map cF))) (fun X f1 f2 D=>(H++X)[f2]?=some (.list (o2.map cF))):=by
 obtain⟨X1,c1⟩:=F1 [];rw[List.append_nil] at c1;obtain⟨X2,c2⟩:=F2 (.list (o1.map cF)::X1);obtain⟨Ha,hHa⟩:∃Ha,Ha=H++.list (o1.map cF)::X1:=⟨_,rfl⟩;rw[<-hHa] at c1 c2;obtain⟨Hb,hHb⟩:∃Hb,Hb=Ha++.list (o2.map cF)::X2:=⟨_,rfl⟩;rw[<-hHb] at c2;have xa:=x.mono (h':=Ha) (by rw[hHa];exact Le.app _ _)
 have hX:Hb++[.list [.ref H.length,.ref Ha.length]]=H++(.list (o1.map cF)::X1++.list (o2.map cF)::X2++[.list [.ref H.length,.ref Ha.length]]):=by rw[hHb,hHa];simp
 refine⟨.list (o1.map cF)::X1++.list (o2.map cF)::X2++[.list [.ref H.length,.ref Ha.length]],H.length,Ha.length,Hb.length,?_,?_,?_,?_⟩
 ·rw[<-hX]
  exact bA (ah (bL (ah (ac ek) (ah (am (ac ek) x.obj rfl) (ah (ac e12) (ah (ac e13) aN)))) c1) (ah (bL (ah (ac ek) (ah (am (ac ek) xa.obj rfl) (ah (ac e12) (ah (ac e13) aN)))) c2) aN)) (aj rfl) fJ
 ·rw[<-hX];exact bC _ _ _
 ·rw[<-hX]
  refine aY ?_ _;rw[hHb];refine aY ?_ _;rw[hHa];exact bC _ _ _
 ·rw[<-hX]
  refine aY ?_ _;rw[hHb];exact bC _ _ _
theorem su {H:H}{D f1 f2:Nat}(x:PA H one L1 H1 as1 d1)(F1:fH N H one d1.start text hl (o1.map cF))(F2:fH N H one d1.loose text hl (o2.map cF))
 (e22:e[22]?=some (some (.ref one))) (e12:e[12]?=some (some (.bytes text))) (e13:e[13]?=some (some (.ref hl))) (e21:e[21]?=some (some (.ref D)))
 (g0:H[D]?=some (.list [.ref f1,.ref f2])) (g1:H[f1]?=some (.list (o1.map cF))) (g2:H[f2]?=some (.list (o2.map cF))):
 ∃X,bn (av aw N 10) N yi.body e H=some (.next,e,H++X):=by
 obtain⟨X,p1,p2,E,q1,q2,q3,q4⟩:=xK (N:=N) x F1 F2 e22 e12 e13;refine⟨X,?_⟩;have hc:=eZ (b:=.var 21) (y:=.ref D) (aO:=H++X) q1 (by exact(ac e21)) (wY q2 (aY g0 X) q3 q4 (aY g1 X) (aY g2 X))
 exact iq (uF hc)
noncomputable def LE (fl:V) (s l m px il ln:Int) (text:List UInt8) (hl p many:Nat) (z a b c d e f g:Option V):En:=cI (zj fl s l m px il ln text) hl p many [z,a,b,c,d,e,f,g]
theorem Fh {c:Ex}{h3:H}(p1:ax call a e h=some (.bool false,h1))(p2:ax call b e h1=some (.bool false,h2))(p3:ax call c e h2=some (.bool false,h3)):ax call (.or (.cons a (.cons b (.cons c .nil)))) e h=some (.bool false,h3):=dP (cS p1 rfl (cS p2 rfl (cV p3)))
theorem EP (p1:ax call a e h=some (.bool false,h1))(p2:ax call b e h1=some (.bool false,h2)):ax call (.or (.cons a (.cons b .nil))) e h=some (.bool false,h2):=dP (cS p1 rfl (cV p2))
theorem i8 {f:Nat}{v w:V}(ek:e[k]?=some (some v))(hc:call f [v] h=some (w,h1)):ax call (.call f (.cons (.var k) .nil)) e h=some (w,h1):=by exact(bL (ah (ac ek) aN) hc)
theorem Br {p L Hd:Nat}{as:List Nat}{d:PD}(x:PA h p L Hd as d)(hf:d.flat=false)(hh:d.heads=[])(w:ii d.insts){many:Nat}(hm:d.insts.length=many)(hm1:many≤11)(s0:0≤d.start/\d.start<d.insts.length)(l0:0≤d.loose/\d.loose<d.insts.length)(hN:900000≤N)
 {fl:V} {s l m px il ln:Int} {z:Option V}:
 yp (fun(q nq Lq Hq Ln Hn:Nat) (asq asn:List Nat) (dn:PD) (X:H) (a17:Option V)=>PA (h++X) q Lq Hq asq (iC d)) (fun(q nq Lq Hq Ln Hn:Nat) (asq asn:List Nat) (dn:PD) (X:H) (a17:Option V)=>PA (h++X) nq Ln Hn asn dn) (fun(q nq Lq Hq Ln Hn:Nat) (asq asn:List Nat) (dn:PD) (X:H) (a17:Option V)=>(dn=d\/dn=iC d)) (fun(q nq Lq Hq Ln Hn:Nat) (asq asn:List Nat) (dn:PD) (X:H) (a17:Option V)=>∀r,execs (av aw N 10) N (.cons Cb (.cons Ca (.cons B_ (.cons B9 (.cons Ad r))))) (LE fl s l m px il ln text hl p many z none none none none none none none) h=
     execs (av aw N 10) N r (LE fl s l m px il ln text hl p many z a17 (some (.ref q)) (some (.ref nq)) none none none none) (h++X)):=by
 have c14:=jU (N:=N) (n:=8) x (by lia) (by rw[hh];simp)
 obtain⟨T1,hT1⟩:∃T1,T1=pZ h.length (h.length+1) d:=⟨_,rfl⟩;obtain⟨h1,hh1⟩:∃h1,h1=h++[.list (d.insts.map gY),.list (d.heads.map .int)]:=⟨_,rfl⟩;rw[<-hT1,<-hh1] at c14;have x1:=x.mono (h':=h1) (by rw[hh1];exact Le.app _ _)
 obtain⟨q,Lq,Hq,asq,X1,c15,xq⟩:=o_ (N:=N) (n:=6) x1 hf w (by lia) hN s0.1 s0.2 l0.1 l0.2
 obtain⟨h2,hh2⟩:∃h2,h2=h1++X1:=⟨_,rfl⟩;rw[<-hh2] at c15 xq;have x2:=x1.mono (h':=h2) (by rw[hh2];exact Le.app _ _)
 have c16:=jU (N:=N) (n:=8) x2 (by lia) (by rw[hh];simp)
 obtain⟨h3,hh3⟩:∃h3,h3=h2++[.list (d.insts.map gY),.list (d.heads.map .int)]:=⟨_,rfl⟩;rw[<-hh3] at c16;have le23:Le h2 h3:=by rw[hh3];exact Le.app _ _
 have x3:=x2.mono le23;have xq3:=xq.mono le23;have hn1:h1[h.length]?=some (.list (d.insts.map gY)):=by rw[hh1];exact bC _ _ _
 have hn2:h1[h.length+1]?=some (.list (d.heads.map .int)):=by rw[hh1,bz];rfl
 have le13:Le h1 h3:=fun a o e=>le23 _ _ (by rw[hh2];exact aY e _)
 have pe:=qz (H:=h3) (r1:=h2.length) (q1:=h2.length+1) (r2:=h.length) (q2:=h.length+1) (d:=d) (by rw[hh3];exact bC _ _ _) (by rw[hh3,bz];rfl) (le13 _ _ hn1) (le13 _ _ hn2)
 rw[<-hT1] at pe;have c26:=vI w s0.1 s0.2 l0.1 l0.2;have hledl:(iC d).insts.length=many:=by rw[<-hm];exact aD _
 obtain⟨X2,c17⟩:=zX (N:=N) (n:=9) xq3 (by lia) c26
 obtain⟨h4,hh4⟩:∃h4,h4=h3++X2:=⟨_,rfl⟩;rw[<-hh4] at c17;have le34:Le h3 h4:=by rw[hh4];exact Le.app _ _
 have t14:exec (av aw N 10) N Cb (LE fl s l m px il ln text hl p many z none none none none none none none) h=some (.next,LE fl s l m px il ln text hl p many z (some T1) none none none none none none,h1):=by exact bf (i8 rfl c14) (bk (aj rfl))
 have t15:exec (av aw N 10) N Ca (LE fl s l m px il ln text hl p many z (some T1) none none none none none none) h1=some (.next,LE fl s l m px il ln text hl p many z (some T1) (some (.ref q)) none none none none none,h2):=by exact bf (i8 rfl c15) (bk (aj rfl))
 have t16:exec (av aw N 10) N B_ (LE fl s l m px il ln text hl p many z (some T1) (some (.ref q)) none none none none none) h2=some (.next,LE fl s l m px il ln text hl p many z (some T1) (some (.ref q)) none none none none none,h3):=by
  refine uF (Fh (h1:=h3) (h2:=h3) (eZ (i8 (v:=.ref p) rfl c16) (by rw[wy];rfl) pe) (eZ (i8 (v:=.ref q) rfl (lL (n:=9) xq3)) (i8 (v:=.ref p) rfl (lL (n:=9) x3)) (lY _ d 6)) ?_)
  exact am (ac rfl) xq3.obj rfl
 have t17:exec (av aw N 10) N B9 (LE fl s l m px il ln text hl p many z (some T1) (some (.ref q)) none none none none none) h3=some (.next,LE fl s l m px il ln text hl p many z (some T1) (some (.ref q)) none none none none none,h4):=by
  refine uF (EP (h1:=h3) (eZ (x:=.int many) (y:=.int many) (ak:=h3) ?_ (by rw[wy];rfl) (dT _ _ _)) (i8 (v:=.ref q) rfl c17))
  exact lX (am (ac rfl) xq3.obj rfl) xq3.list (by rw[aD,xq3.insts.len,hledl])
 obtain⟨W,hW⟩:∃W,h4=h++W:=⟨[.list (d.insts.map gY),.list (d.heads.map .int)]++X1++[.list (d.insts.map gY),.list (d.heads.map .int)]++X2,by rw[hh4,hh3,hh2,hh1];simp⟩
 have x4:=x3.mono le34;have xq4:=xq3.mono le34;have e9:(LE fl s l m px il ln text hl p many z (some T1) (some (.ref q)) none none none none none)[9]?=some (some (.int il)):=rfl
 by_cases hil:il=1
 ·have t18:exec (av aw N 10) N Ad (LE fl s l m px il ln text hl p many z (some T1) (some (.ref q)) none none none none none) h4=some (.next,LE fl s l m px il ln text hl p many z (some T1) (some (.ref q)) (some (.ref q)) none none none none,h4):=by
   have hb:(il==1)=true:=by rw[hil];rfl
   exact bf (qM (az (ac e9) ao rfl) (ag some hb) (ac rfl)) (bk (aj rfl))
  exact⟨q,q,Lq,Hq,Lq,Hq,asq,asq,iC d,W,some T1,hW▸xq4,hW▸xq4,.inr rfl,fun r=>by rw[aC t14,aC t15,aC t16,aC t17,aC t18,hW]⟩
 ·have t18:exec (av aw N 10) N Ad (LE fl s l m px il ln text hl p many z (some T1) (some (.ref q)) none none none none none) h4=some (.next,LE fl s l m px il ln text hl p many z (some T1) (some (.ref q)) (some (.ref p)) none none none none,h4):=by
   have hb:(il==1)=false:=aU hil;exact bf (kC (az (ac e9) ao rfl) (ag some hb) (ac rfl)) (bk (aj rfl))
  exact⟨q,p,Lq,Hq,L,Hd,asq,as,d,W,some T1,hW▸xq4,hW▸x4,.inl rfl,fun r=>by rw[aC t14,aC t15,aC t16,aC t17,aC t18,hW]⟩
end
end
section
variable {p hl many:Nat}{fl:V}{s l m px il ln:Int}{text:List UInt8}{z a17:Option V}
variable {N:Nat}
theorem Bq {h:H}{nq Ln Hn:Nat}{asn:List Nat}{dn:PD}(x:PA h nq Ln Hn asn dn)(hf:dn.flat=false)(hh:dn.heads=[])(w:ii dn.insts)(hm1:dn.insts.length≤11)(s0:0≤dn.start/\dn.start<dn.insts.length)(l0:0≤dn.loose/\dn.loose<dn.insts.length)(hN:900000≤N)
 {a18:Option V}:
 AD (fun(f Lf Hf:Nat) (asf:List Nat) (R:List Int) (ow:List (Int×Int)) (gs:List (List (Int×I))) (X:H) (b17:Option V)=>iQ dn R ow) (fun(f Lf Hf:Nat) (asf:List Nat) (R:List Int) (ow:List (Int×Int)) (gs:List (List (Int×I))) (X:H) (b17:Option V)=>fQ dn.insts R R gs) (fun(f Lf Hf:Nat) (asf:List Nat) (R:List Int) (ow:List (Int×Int)) (gs:List (List (Int×I))) (X:H) (b17:Option V)=>(∀g∈gs,(b9 g).length≤dn.insts.length+1)) (fun(f Lf Hf:Nat) (asf:List Nat) (R:List Int) (ow:List (Int×Int)) (gs:List (List (Int×I))) (X:H) (b17:Option V)=>PA (h++X) f Lf Hf asf (dt dn R gs)) (fun(f Lf Hf:Nat) (asf:List Nat) (R:List Int) (ow:List (Int×Int)) (gs:List (List (Int×I))) (X:H) (b17:Option V)=>∀r,execs (av aw N 10) N (.cons B8 (.cons B7 (.cons B6 r))) (LE fl s l m px il ln text hl p many z a17 a18 (some (.ref nq)) none none none none) h=
     execs (av aw N 10) N r (LE fl s l m px il ln text hl p many z b17 a18 (some (.ref nq)) (some (.ref f)) none none none) (h++X)):=by
 have c19:=jU (N:=N) (n:=8) x (by lia) (by rw[hh];simp)
 obtain⟨T1,hT1⟩:∃T1,T1=pZ h.length (h.length+1) dn:=⟨_,rfl⟩;obtain⟨h1,hh1⟩:∃h1,h1=h++[.list (dn.insts.map gY),.list (dn.heads.map .int)]:=⟨_,rfl⟩;rw[<-hT1,<-hh1] at c19;have x1:=x.mono (h':=h1) (by rw[hh1];exact Le.app _ _)
 obtain⟨R,ow,gs,f,Lf,Hf,asf,X1,Y,hF,hsm,c20,xf⟩:=sS (N:=N) (n:=6) x1 hf w (by lia) s0.1 s0.2 l0.1 l0.2 hN (zy w s0.1 s0.2 l0.1 l0.2)
 obtain⟨h2,hh2⟩:∃h2,h2=h1++X1:=⟨_,rfl⟩;rw[<-hh2] at c20 xf;have x2:=x1.mono (h':=h2) (by rw[hh2];exact Le.app _ _)
 have c21:=jU (N:=N) (n:=8) x2 (by lia) (by rw[hh];simp)
 obtain⟨h3,hh3⟩:∃h3,h3=h2++[.list (dn.insts.map gY),.list (dn.heads.map .int)]:=⟨_,rfl⟩;rw[<-hh3] at c21;have le23:Le h2 h3:=by rw[hh3];exact Le.app _ _
 have x3:=x2.mono le23;have xf3:=xf.mono le23;have hn1:h1[h.length]?=some (.list (dn.insts.map gY)):=by rw[hh1];exact bC _ _ _
 have hn2:h1[h.length+1]?=some (.list (dn.heads.map .int)):=by rw[hh1,bz];rfl
 have le13:Le h1 h3:=fun a o e=>le23 _ _ (by rw[hh2];exact aY e _)
 have pe:=qz (H:=h3) (r1:=h2.length) (q1:=h2.length+1) (r2:=h.length) (q2:=h.length+1) (d:=dn) (by rw[hh3];exact bC _ _ _) (by rw[hh3,bz];rfl) (le13 _ _ hn1) (le13 _ _ hn2)
 rw[<-hT1] at pe;have X:=tD w s0.1 s0.2 l0.1 l0.2 Y;have FO:=qh X Y.nd Y.pre hF (by lia) hsm
 have rng:∀k,Reach dn k->0≤k/\k<dn.insts.length:=fun k zz=>zz.range w s0.1 s0.2 l0.1 l0.2;obtain⟨X2,c27⟩:=BN (N:=N) (n:=7) xf3 x3 FO rfl (C4 (n:=8) xf3 X Y.nd hF (by lia) hsm hN) (sC Y.pre nF) (sC Y.pre nD) (by lia) rng hN (De w Y X hF)
 have t19:exec (av aw N 10) N B8 (LE fl s l m px il ln text hl p many z a17 a18 (some (.ref nq)) none none none none) h=some (.next,LE fl s l m px il ln text hl p many z (some T1) a18 (some (.ref nq)) none none none none,h1):=by exact bf (i8 rfl c19) (bk (aj rfl))
 have t20:exec (av aw N 10) N B7 (LE fl s l m px il ln text hl p many z (some T1) a18 (some (.ref nq)) none none none none) h1=some (.next,LE fl s l m px il ln text hl p many z (some T1) a18 (some (.ref nq)) (some (.ref f)) none none none,h2):=by exact bf (i8 rfl c20) (bk (aj rfl))
 have t21:exec (av aw N 10) N B6 (LE fl s l m px il ln text hl p many z (some T1) a18 (some (.ref nq)) (some (.ref f)) none none none) h2=some (.next,LE fl s l m px il ln text hl p many z (some T1) a18 (some (.ref nq)) (some (.ref f)) none none none,h3++X2):=by
  refine uF (EP (h1:=h3) (eZ (i8 (v:=.ref nq) rfl c21) (by rw[wy];rfl) pe) ?_)
  exact gB (bL (ah (ac rfl) (ah (ac rfl) aN)) c27) rfl
 obtain⟨W,hW⟩:∃W,h3++X2=h++W:=⟨[.list (dn.insts.map gY),.list (dn.heads.map .int)]++X1++[.list (dn.insts.map gY),.list (dn.heads.map .int)]++X2,by rw[hh3,hh2,hh1];simp⟩
 have xfW:=xf3.mono (Le.app _ X2);rw[hW] at xfW t21;exact⟨f,Lf,Hf,asf,R,ow,gs,W,some T1,Y,hF,hsm,xfW,fun r=>by rw[aC t19,aC t20,aC t21]⟩
theorem Bp {h:H}{q f L Hd Lq Hq Lf Hf:Nat}{as asq asf:List Nat}{d dq df:PD}(x:PA h p L Hd as d)(xq:PA h q Lq Hq asq dq)(xf:PA h f Lf Hf asf df)(hff:df.flat=true)(hfl:df.insts.length≤1000000)(hfh:df.heads.length≤1000000)
 {o1 o2:List dD} (F1:fH N h p d.start text hl (o1.map cF)) (F2:fH N h p d.loose text hl (o2.map cF)) (G1:fH N h q dq.start text hl (o1.map cF)) (G2:fH N h q dq.loose text hl (o2.map cF)) (K1:fH N h f df.start text hl (o1.map cF)) (K2:fH N h f df.loose text hl (o2.map cF))
 {a19:Option V}:
 mS (fun en' σ'=>execs (av aw N 10) N (.cons B5 (.cons yi (.cons B4 (.cons B3 (.cons B2 .nil))))) (LE fl s l m px il ln text hl p many z a17 (some (.ref q)) a19 (some (.ref f)) none none none) h=some (.ret (.bool true),en',σ')):=by
 obtain⟨X1,f1,f2,D,c22,g0,g1,g2⟩:=xK (N:=N) (k:=14) (e:=LE fl s l m px il ln text hl p many z a17 (some (.ref q)) a19 (some (.ref f)) none none none) x F1 F2 rfl rfl rfl;obtain⟨h1,hh1⟩:∃h1,h1=h++X1:=⟨_,rfl⟩;rw[<-hh1] at c22 g0 g1 g2
 have t22:exec (av aw N 10) N B5 (LE fl s l m px il ln text hl p many z a17 (some (.ref q)) a19 (some (.ref f)) none none none) h=some (.next,LE fl s l m px il ln text hl p many z a17 (some (.ref q)) a19 (some (.ref f)) (some (.ref D)) none none,h1):=by exact bf c22 (bk (aj rfl))
 have xq1:=xq.mono (h':=h1) (by rw[hh1];exact Le.app _ _)
 obtain⟨X2,b1⟩:=su (N:=N) (e:=LE fl s l m px il ln text hl p many z a17 (some (.ref q)) a19 (some (.ref f)) (some (.ref D)) (some (.ref q)) none) xq1 (hh1▸G1.mono X1) (hh1▸G2.mono X1) rfl rfl rfl rfl g0 g1 g2;obtain⟨h2,hh2⟩:∃h2,h2=h1++X2:=⟨_,rfl⟩;rw[<-hh2] at b1;have le12:Le h1 h2:=by rw[hh2];exact Le.app _ _
 have xf2:=(xf.mono (h':=h1) (by rw[hh1];exact Le.app _ _)).mono le12
 have K1':fH N h2 f df.start text hl (o1.map cF):=by rw[hh2,hh1];exact(K1.mono X1).mono X2
 have K2':fH N h2 f df.loose text hl (o2.map cF):=by rw[hh2,hh1];exact(K2.mono X1).mono X2
 obtain⟨X3,b2⟩:=su (N:=N) (e:=LE fl s l m px il ln text hl p many z a17 (some (.ref q)) a19 (some (.ref f)) (some (.ref D)) (some (.ref f)) none) xf2 K1' K2' rfl rfl rfl rfl (le12 _ _ g0) (le12 _ _ g1) (le12 _ _ g2);obtain⟨h3,hh3⟩:∃h3,h3=h2++X3:=⟨_,rfl⟩;rw[<-hh3] at b2;have xf3:=xf2.mono (h':=h3) (by rw[hh3];exact Le.app _ _)
 have t23:exec (av aw N 10) N yi (LE fl s l m px il ln text hl p many z a17 (some (.ref q)) a19 (some (.ref f)) (some (.ref D)) none none) h1=some (.next,LE fl s l m px il ln text hl p many z a17 (some (.ref q)) a19 (some (.ref f)) (some (.ref D)) (some (.ref f)) none,h3):=by
  have hf3:dR 22 (bn (av aw N 10) N yi.body) (dy h1 (.tup [.ref q,.ref f])) [.ref q,.ref f] (LE fl s l m px il ln text hl p many z a17 (some (.ref q)) a19 (some (.ref f)) (some (.ref D)) none none) h1=some (.next,LE fl s l m px il ln text hl p many z a17 (some (.ref q)) a19 (some (.ref f)) (some (.ref D)) (some (.ref f)) none,h3):=by exact d6 iI b1 (d6 iI b2 (oN iI))
  refine fc (x:=.tup [.ref q,.ref f]) (vs:=[.ref q,.ref f]) (ak:=h1) ?_ rfl (by show 22<24;decide) hf3
  exact tW (by rw[wy];rfl) (by rw[wy];rfl)
 have c24:=jU (N:=N) (n:=8) xf3 hfl hfh;obtain⟨T3,hT3⟩:∃T3,T3=pZ h3.length (h3.length+1) df:=⟨_,rfl⟩;obtain⟨h4,hh4⟩:∃h4,h4=h3++[.list (df.insts.map gY),.list (df.heads.map .int)]:=⟨_,rfl⟩;rw[<-hT3,<-hh4] at c24;have xf4:=xf3.mono (h':=h4) (by rw[hh4];exact Le.app _ _)
 have t24:exec (av aw N 10) N B4 (LE fl s l m px il ln text hl p many z a17 (some (.ref q)) a19 (some (.ref f)) (some (.ref D)) (some (.ref f)) none) h3=some (.next,LE fl s l m px il ln text hl p many z (some T3) (some (.ref q)) a19 (some (.ref f)) (some (.ref D)) (some (.ref f)) (some (.bool false)),h4):=by
  have ct:=tW (b:=.lit (.bool false)) (y:=.bool false) (aO:=h4) (i8 (call:=av aw N 10) (f:=21) (k:=20) (e:=LE fl s l m px il ln text hl p many z a17 (some (.ref q)) a19 (some (.ref f)) (some (.ref D)) (some (.ref f)) none) (v:=.ref f) rfl c24) (by rw[DT])
  exact fh ct rfl (db (bk (aj rfl)) (db (bk (aj rfl)) j3))
 have t25:exec (av aw N 10) N B3 (LE fl s l m px il ln text hl p many z (some T3) (some (.ref q)) a19 (some (.ref f)) (some (.ref D)) (some (.ref f)) (some (.bool false))) h4=some (.next,LE fl s l m px il ln text hl p many z (some T3) (some (.ref q)) a19 (some (.ref f)) (some (.ref D)) (some (.ref f)) (some (.bool true)),h4):=by
  have e20:(LE fl s l m px il ln text hl p many z (some T3) (some (.ref q)) a19 (some (.ref f)) (some (.ref D)) (some (.ref f)) (some (.bool false)))[20]?=some (some (.ref f)):=rfl;have ha:gS h4 (.ref f) 1 6=some (.bool true):=by rw[yc,xf4.obj,hff];rfl
  refine CM.trans ?_;rw[e20]
  dsimp only
  rw[ha]
  rfl
 have c26:=jU (N:=N) (n:=8) xf4 hfl hfh;obtain⟨h5,hh5⟩:∃h5,h5=h4++[.list (df.insts.map gY),.list (df.heads.map .int)]:=⟨_,rfl⟩;rw[<-hh5] at c26;have le45:Le h4 h5:=by rw[hh5];exact Le.app _ _
 have pe:=qz (H:=h5) (r1:=h4.length) (q1:=h4.length+1) (r2:=h3.length) (q2:=h3.length+1) (d:=df) (by rw[hh5];exact bC _ _ _) (by rw[hh5,bz];rfl) (le45 _ _ (by rw[hh4];exact bC _ _ _)) (le45 _ _ (by rw[hh4,bz];rfl))
 rw[<-hT3] at pe;obtain⟨e,he⟩:∃e,e=LE fl s l m px il ln text hl p many z (some T3) (some (.ref q)) a19 (some (.ref f)) (some (.ref D)) (some (.ref f)) (some (.bool true)):=⟨_,rfl⟩;have e17:e[17]?=some (some T3):=by rw[he];rfl
 have e20:e[20]?=some (some (.ref f)):=by rw[he];rfl
 have e23:e[23]?=some (some (.bool true)):=by rw[he];rfl
 have t26:exec (av aw N 10) N B2 e h4=some (.ret (.bool true),e,h5):=by have cs:=i8 (call:=av aw N 10) (f:=16) (k:=20) (e:=e) (v:=.ref f) e20 (sT (N:=N) (n:=9) xf4 hff);have ct:=i8 (call:=av aw N 10) (f:=21) (k:=20) (e:=e) (v:=.ref f) e20 c26;exact bR (bD (cg (ac e23) rfl (cg (az cs (ac e20) (ap rfl)) rfl (ch (az ct (ac e17) pe)))))
 rw[<-he] at t25;exact⟨e,h5,by rw[aC t22,aC t23,aC t24,aC t25,fr t26]⟩
end
section
variable {N:Nat}
theorem jP {h:H}{p L Hd:Nat}{as:List Nat}{d:PD}(x:PA h p L Hd as d)(hf:d.flat=false)(w:ii d.insts)(hm:d.insts.length≤100){start:Int}(s0:0≤start)(s1:start<d.insts.length){text:List UInt8}{hl:Nat}{holds:List Int}(ht:text.length≤5)(h6:holds.length=6)(hpos:∀x∈holds,0≤x)(hh:h[hl]?=some (.list (holds.map .int)))(hN:900000≤N):
 cD (fun o mk=>Run (dK text holds (mZ d.insts)) [(start,0,k0)] [] o mk) (fun o mk=>fH N h p start text hl (o.map cF)):=by
 obtain⟨o,mk,r1,_,r3⟩:=oJ (N:=N) (h:=h) (p:=p) (hl:=hl) (start:=start) (text:=text) (holds:=holds) (fun Y=>vF (n:=8) (x.mono (Le.app h Y)) hf w.wf) (by lia) hh hpos (BX w hm ht h6) (l7.mpr ⟨.inl (jO.mpr ⟨s0,s1⟩),by show 0<6;decide⟩) (by lia)
 exact⟨o,mk,r1,r3⟩
theorem law_true (script:List Int)(hs:script.length≤63):∃N en' σ',Mine.execs (av aw N 10) N uQ (some (.flist (script.map .int))::List.replicate 23 none) []=some (.ret (.bool true),en',σ'):=by
 obtain⟨N,hN0⟩:∃N,N=900000:=⟨_,rfl⟩;have hN:900000≤N:=by lia
 refine⟨N,?_⟩;obtain⟨c7,c12⟩:=v6 script;obtain⟨C,hC⟩:∃C,C=jT script:=⟨_,rfl⟩;have ha:=C9 (N:=N) (n:=8) script hs;obtain⟨Ha,hHa⟩:∃Ha:H,Ha=[.list (ik.map .int),.list (j8.map .int),.list ((script.take 12).map .int),.list (((script.take 12).map fun x=>x%(10 ^ 12)).map .int),.list ((ik.drop ((script.take 12).map fun x=>x%(10 ^ 12)).length).map .int),.list ((jT script).map .int)]:=⟨_,rfl⟩;rw[<-hHa] at ha;have g1:Ha[1]?=some (.list (j8.map .int)):=by rw[hHa];rfl
 have g5:Ha[5]?=some (.list (C.map .int)):=by rw[hHa,hC];rfl
 rw[<-hC] at c7 c12
 generalize V.flist (script.map .int)=fl at ha
 obtain⟨s,l,m,px,il,ln,text,hd,hl,X,⟨b1,b2,b3,b4,b5⟩,ht,h6,hpos,hhl,hb⟩:=C8 (N:=N) (n:=8) (fl:=fl) g1 g5 c7 c12;obtain⟨H6,hH6⟩:∃H6,H6=Ha++X:=⟨_,rfl⟩;rw[<-hH6] at hb hhl;obtain⟨many,hmany⟩:∃many,many=C.length-1:=⟨_,rfl⟩;have hmi:((C.length:Int)-1)=(many:Int):=by lia
 rw[hmi] at hb;have g5':H6[5]?=some (.list (C.map .int)):=by rw[hH6];exact aY g5 X
 obtain⟨d,as,X1,z16,hc,xp,df,dh,w,dl,s0,l0⟩:=C7 (N:=N) (n:=8) (fl:=fl) (s:=s) (l:=l) (m:=m) (px:=px) (il:=il) (ln:=ln) (text:=text) (hl:=hl) g5' c7 c12 hmany b1 b2 b4;obtain⟨q,nq,Lq,Hq,Ln,Hn,asq,asn,dn,X2,a17,xq,xn,hdn,hd1⟩:=Br (N:=N) xp df dh w dl (by lia) s0 l0 hN (fl:=fl) (s:=s) (l:=l) (m:=m) (px:=px) (il:=il) (ln:=ln) (text:=text) (hl:=hl) (z:=z16)
 have r1:=d8 w s0.1 s0.2;have r2:=d8 w l0.1 l0.2;have wl:=yz w;have ll:(iC d).insts.length=d.insts.length:=aD _;have sl0:0≤(iC d).start/\(iC d).start< (iC d).insts.length:=⟨r1.1,by rw[ll];exact r1.2.1⟩
 have ll0:0≤(iC d).loose/\(iC d).loose< (iC d).insts.length:=⟨r2.1,by rw[ll];exact r2.2.1⟩
 have nf:dn.flat=false:=by
  rcases hdn with rfl | rfl
  ·exact df
  ·exact rfl
 have nh:dn.heads=[]:=by
  rcases hdn with rfl | rfl
  ·exact dh
  ·exact rfl
 have nw:ii dn.insts:=by
  rcases hdn with rfl | rfl
  ·exact w
  ·exact wl
 have nl:dn.insts.length≤11:=by rcases hdn with rfl | rfl<;>lia
 have ns0:0≤dn.start/\dn.start<dn.insts.length:=by
  rcases hdn with rfl | rfl
  ·exact s0
  ·exact sl0
 have nl0:0≤dn.loose/\dn.loose<dn.insts.length:=by
  rcases hdn with rfl | rfl
  ·exact l0
  ·exact ll0
 obtain⟨f,Lf,Hf,asf,R,ow,gs,X3,b17,Y,hF,hsm,xf,hd2⟩:=Bq (N:=N) (p:=H6.length) xn nf nh nw nl ns0 nl0 hN (fl:=fl) (s:=s) (l:=l) (m:=m) (px:=px) (il:=il) (ln:=ln) (text:=text) (hl:=hl) (many:=many) (z:=z16) (a17:=a17) (a18:=some (.ref q));obtain⟨h8,hh8⟩:∃h8,h8=H6++X1++X2++X3:=⟨_,rfl⟩;have xp8:=(xp.mono (Le.app _ X2)).mono (Le.app _ X3);have xq8:=xq.mono (Le.app _ X3);have hl8:(H6++X1++X2++X3)[hl]?=some (.list (hd.map .int)):=aY (aY (aY hhl X1) X2) X3;rw[<-hh8] at xp8 xq8 xf hl8 hd2;obtain⟨o1,mk1,p1,F1⟩:=jP (N:=N) xp8 df w (by lia) s0.1 s0.2 ht h6 hpos hl8 hN
 obtain⟨o2,mk2,p2,F2⟩:=jP (N:=N) xp8 df w (by lia) l0.1 l0.2 ht h6 hpos hl8 hN
 obtain⟨o3,mk3,p3,G1⟩:=jP (N:=N) xq8 rfl wl (by lia) sl0.1 sl0.2 ht h6 hpos hl8 hN
 obtain⟨o4,mk4,p4,G2⟩:=jP (N:=N) xq8 rfl wl (by lia) ll0.1 ll0.2 ht h6 hpos hl8 hN
 have e13:o1=o3:=sL w s0.1 s0.2 p1 p3;have e24:o2=o4:=sL w l0.1 l0.2 p2 p4;subst e13;subst e24
 have n1:∃mk,Run (dK text hd (mZ dn.insts)) [(dn.start,0,k0)] [] o1 mk:=by
  rcases hdn with rfl | rfl
  ·exact⟨_,p1⟩
  ·exact⟨_,p3⟩
 have n2:∃mk,Run (dK text hd (mZ dn.insts)) [(dn.loose,0,k0)] [] o2 mk:=by
  rcases hdn with rfl | rfl
  ·exact⟨_,p2⟩
  ·exact⟨_,p4⟩
 obtain⟨mk5,n1⟩:=n1;obtain⟨mk6,n2⟩:=n2;have XN:=tD nw ns0.1 ns0.2 nl0.1 nl0.2 Y;have FO:=qh XN Y.nd Y.pre hF (by lia) hsm
 have FS:=sF XN Y.nd hF;have hRl:=bW Y.nd XN.rr
 have hhl':(dt dn R gs).heads.length≤100:=by
  show(R.map (cz (bF R gs))).length≤100
  rw[aD];lia
 have LF:=fun Y':H=>tE (N:=N) (n:=8) (xf.mono (Le.app h8 Y')) FO XN Y.nd hF (by lia) hsm hN
 obtain⟨o5,mk7,p5,_,K1⟩:=oJ (N:=N) (hl:=hl) (start:=(dt dn R gs).start) (text:=text) (holds:=hd) LF (by lia) hl8 hpos (uV FO hhl' ht h6) (l7.mpr ⟨.inl FO.st,by show 0<6;decide⟩) (by lia)
 obtain⟨o6,mk8,p6,_,K2⟩:=oJ (N:=N) (hl:=hl) (start:=(dt dn R gs).loose) (text:=text) (holds:=hd) LF (by lia) hl8 hpos (uV FO hhl' ht h6) (l7.mpr ⟨.inl FO.lo,by show 0<6;decide⟩) (by lia)
 have e15:o1=o5:=qj FS (Y.pre.subset nD) n1 p5;have e26:o2=o6:=qj FS (Y.pre.subset nF) n2 p6;subst e15;subst e26;obtain⟨en',σ',he⟩:=Bp (N:=N) xp8 xq8 xf rfl (by have:=FO.small;lia) (by have:=FO.hl;lia) F1 F2 G1 G2 K1 K2 (fl:=fl) (s:=s) (l:=l) (m:=m) (px:=px) (il:=il) (ln:=ln) (many:=many) (z:=z16) (a17:=b17) (a19:=some (.ref nq))
 refine⟨en',σ',?_⟩;rw[yb];refine(ha _).trans ((hb _).trans ((hc _).trans ((hd1 _).trans ((hd2 _).trans he))))
end
end Mine
section
open PySem PySem.W PyProof.Rows
set_option tactic.hygienic true
namespace Mine
theorem DV:OpenLaw.wellSaid PySem.Challenge.rw_xw0282_01=true:=by kernel_rfl!
theorem uC {h:Heap}:∀ {is:List Int} {l:List Value} {as:List Addr},ReadsAllW [] (fun y=>none) h l (is.map WData.int) as->IntsAre l is
 | [],l,as,hr=>by cases hr;exact .nil
 | i::is,l,as,hr=>by
   cases hr with
   | cons h1 hr=>cases h1;exact .cons _ _ (uC hr)
theorem steps_of {mg:Str->Option Value}{h:Heap}(V:LooseAre [(Str.ofString "FLATTEN_STEPS",WData.tuple [WData.int 1,WData.int 2,WData.int 3])] mg h):dU (fun a vs=>mg (Str.ofString "FLATTEN_STEPS")=some (.ref a)) (fun a vs=>IsTup h a (List.toArray vs)) (fun a vs=>IntsAre vs [1,2,3]):=by
 obtain⟨v,h1,h2⟩:=V.val _ (.head _);cases h2 with
 | tuple ho hc hd hr=>
   rename_i a o us n;refine⟨a,us.toList,h1,⟨o,ho,hc,n,by simpa using hd⟩,?_⟩
   exact uC (is:=[1,2,3]) hr
end Mine
end
open PySem PySem.W PyProof.Rows Mine in
set_option tactic.hygienic true in
theorem PySem.Challenge.cw_xw0282_01_holds : PySem.Challenge.rw_xw0282_01.Holds := by
 refine holds_law DV fun sd=> ?_;refine holds_open (r:=rr) (q:=qv) (loose:=DG) (Xt:=fun s=>xlAt qv DF s&&recOk (RowW.records (OpenRow.toRowW rr)) s) (XP:=XL qv DF) (Yf:=hk.obs) (Ya:=hk.val) (YP:=hk.says) (N:=3900) Eg hk.of hk.keeps (fun s e=>xl_of s (Bool.and_eq_true_iff.mp e).1) XL.keeps (by rfl) (by rfl) (by rfl) (fun s e=>recFacts_of (Bool.and_eq_true_iff.mp e).2) (by rfl) sd (by decide+kernel) ⟨rfl,rfl,rfl,rfl,rfl,by decide+kernel⟩ ?hw ?hc
 case hw=>exact⟨[WData.list []],by decide+kernel,by decide+kernel⟩
 case hc=>
  intro w Fd aR mg mb G Y fa o pm cd doc dV kV ho hd hcd hD hmg hg args vals as hpre hlay hrd hwl hlo;have KX:=kIn_of Y;have V:=(Ground.X G).2;refine Ground.open G ?_;intro T B D TE TW;obtain⟨_,_,M⟩:=bmod_of_top T;have TA:=at_of_top T;obtain⟨_,_,he,B0⟩:=based_of_top T rfl hmg ho hd;have he':cd=_:=he;subst he'
  clear he
  clear hmg
  wrow_args hpre hlay hrd hwl hlo
  refine enter_call ?_
  w_top on
  refine codeAny_mono ?_ (fun y y g=>GoodW.toG g);have K0:=below_caller (Top.heap T)
  w_call any ho hd hcd hD T F
  clear hd TA
  k_drop
  rename_i w10 w9 w8 w7 script hs hlay0 hL1 hr1 hl2 w5 w4 l vs w1 hL ra w1' r0 hI hr hcond' hcond ak tk₁ wc right N0 X0;obtain⟨hc,_⟩:=N0 _ (.head _);refine wpAny_mono (Mine.law_walk (P:=w.params) (fa:=fa) (l:=l) (vs:=vs) (script:=script) KX T.g T.b T.nolimit T.builtins (Mine.steps_of V) F ?_ hL hI hc right ((Mine.law_true script (by omega)).elim fun a ⟨b,c,d⟩=>⟨a,b,c,d⟩)) (fun f s' z=> ?_) fun y y z=>z.elim
  ·rfl
  ·obtain⟨rfl,z1,z2,z3⟩:=z
   refine⟨.inl ⟨_,_,_,rfl,fun y=>rfl,.bool true,?_,unshared_nil⟩,z1,z3,z2.trans hg⟩
   wrow_post

import PyProof.Rows.All
import Wide.All
import OpenK.AllK
import Wide.FinOn
import KE.KPairTest
import PySem.Challenge.RW_nt0262_01
open PySem PySem.W PySem.Calls PyProof.Rows
set_option Elab.async false
set_option maxRecDepth 100000
set_option maxHeartbeats 4000000
set_option linter.all false
set_option genInjectivity false
set_option compiler.extract_closed false
set_option bootstrap.genMatcherCode false
set_option genSizeOf false
set_option tactic.hygienic false
section
namespace Mine.Hd
set_option backward.match.sparseCases false
section
noncomputable abbrev pg:Program:=PySem.Challenge.pw_nt0262_01
noncomputable abbrev r (a:Addr):Value:=.ref a
noncomputable abbrev i (n:Int):Value:=.int n 0
noncomputable abbrev j (n:Int) (t:Nat):Value:=.int n t
noncomputable abbrev z (s:String) (t:Nat):Value:=.str (Str.ofString s) t
noncomputable abbrev L {α:Type} (l:List α):Array α:=⟨l⟩
noncomputable abbrev e (P:Params) (x:String) (t:Nat) (v:Value):DictEntry:=⟨PyData.keyHash P (Str.ofString x),.str (Str.ofString x) t,v⟩
noncomputable def stm (n:Nat):Stmt:=(pg.main.body[n]?).getD (.Pass ⟨0,0,0,0⟩)
noncomputable def a20 (n m:Nat):Stmt:=match stm n with
 | .ClassDef _ _ _ b _ _ _ _ _ _ _=>(b[m]?).getD (.Pass ⟨0,0,0,0⟩)
 |s=>s
noncomputable def fd (s:Stmt) (qual:String) (g:Addr) (dV kV doc pm cd ct:Value):FuncData:=match s with
 | .FunctionDef n a b _ _ _ sc _ _ _=>{name:=n,qualname:=Str.ofString qual,params:=a,body:=.stmts b,scope:=sc,globals:=g,closure:=[],defaults:=dV,kwdefaults:=kV,doc:=doc,pyModule:=pm,code:=cd,closureTuple:=ct}
 | _=>default
noncomputable abbrev cd (n:String) (bs mro:List Value) (ns:Addr) (q:String) (hd:Bool) (sub:List Value):ClassData:={name:=Str.ofString n,bases:=bs,mro:=mro,ns:=ns,qualname:=Str.ofString q,hasDict:=hd,subclasses:=sub}
noncomputable abbrev t0:Obj:=⟨.type "tuple",none,.seq (L []) 0,#[]⟩
noncomputable abbrev n0:Obj:=⟨.none,none,.fields (L []),#[]⟩
noncomputable abbrev nf (l:List Value):Obj:=⟨.none,none,.fields (L l),#[]⟩
noncomputable abbrev fl (c:String) (l:List Value):Obj:=⟨.type c,none,.fields (L l),#[]⟩
noncomputable abbrev dc (l:List DictEntry) (n:Nat):Obj:=⟨.type "dict",none,.dict (L l) n,#[]⟩
noncomputable abbrev tp (l:List Value):Obj:=⟨.type "tuple",none,.seq (L l) 0,#[]⟩
noncomputable abbrev zs:List String->Nat->List Value
 |[],_=>[]
 |s::r,t=>z s t::zs r (t+1)
noncomputable abbrev tn (l:List String) (t:Nat):Obj:=tp (zs l t)
noncomputable abbrev fa (s:Stmt) (q:String):Obj:=⟨.none,none,.func (fd s q 0 .none .none .none .none .none .none),#[]⟩
noncomputable abbrev fb (s:Stmt) (q:String) (d:Value) (m:String) (t:Nat) (c:Addr):Obj:=⟨.type "function",none,.func (fd s q 3 d .none .none (z m t) (r c) .none),#[]⟩
noncomputable abbrev co (n q:String) (t:Nat) (l a1 a2 a3 a4:Int) (A:Addr) (b:Bool) (B:Addr) (v1 v2 v3 v4:Value) (u:Nat):Obj:=
 ⟨.type "code",none,.fields (L [z n t,z q (t+1),z "/claim/cut.py" (t+2),i l,i a1,i a2,i a3,i a4,r A,.bool b,i 181,r B,v1,v2,v3,v4,i u,i l,z "/claim/cut.py" (u+1)]),#[]⟩
noncomputable def gf (s:Stmt) (n q:String) (t:Nat) (l a:Int) (A:Nat) (ns:List String) (d:Value) (m:String) (u:Nat) (k:List Obj):List Obj:=t0::n0::tn ns (t+3)::t0::fa s q::co n q t l a 0 0 3 A true (A+1) .none (r (A+2)) (r (A+3)) (r (A+4)) (t+3+ns.length)::fb s q d m u (A+5)::k
noncomputable def gn (s:Stmt) (n:String) (t:Nat) (l a:Int) (A:Nat) (ns:List String) (d:Value) (m:String) (u:Nat) (k:List Obj):List Obj:=gf s n n t l a A ns d m u k
noncomputable def gt (t C:Nat) (k:List Obj):List Obj:=fl "getset_descriptor" [z "__dict__" t,r C,.builtin "function.__dict__",.builtin "function.__dict__#set"]::fl "getset_descriptor" [z "__weakref__" (t+2),r C,.builtin "ExceptionGroup.__weakref__",.none]::fl "super" [r C,r C,r C]::fl "builtin_function_or_method" [.builtin "object.__init_subclass__",r C]::k
noncomputable def gh (k:List Obj):List Obj:=t0::fl "builtin_function_or_method" [.builtin "type.__prepare__",.type "type"]::k
noncomputable def gz (n:String) (t:Nat) (l:Int) (A:Nat) (m:String) (u:Nat) (k:List Obj):List Obj:=co n n t l 0 0 0 0 (A+1) false (A+2) .none .none .none .none (t+3)::⟨.type "frame",none,.plain,(L [some (r (A+3)),some (r 3),some (r A),none,some (z m u),none,some (r 0)])⟩::k
noncomputable def h0 (P:Params) (x2:Obj) (x3:Obj) (x12:Obj) (k:List Obj):List Obj:=boot_o_0 P::boot_o_1 P::x2::x3::boot_o_4 P::boot_o_5 P::boot_o_6 P::boot_o_7 P::boot_o_8 P::boot_o_9 P::boot_o_10 P::t0::x12::co "<module>" "<module>" 182 1 0 0 0 0 11 false 12 .none .none .none .none 185::⟨.type "frame",none,.plain,(L [some (r 13),some (r 3),some (r 3),none,some (z "__main__" 164),none,some (r 0)])⟩::gn (stm 0) "_wall" 187 1 1 15 ["k"] (.none) "__main__" 164 (gh (dc [e P "__module__" 203 (z "scheme.data" 194),e P "__qualname__" 205 (z "Special" 204),e P "__firstlineno__" 207 (j 5 206),e P "__init__" 215 (r 35),e P "__static_attributes__" 217 (r 36)] 5::t0::nf [i 7,i 4,r 34]::gz "Special" 198 5 24 "scheme.data" 194 (gf (a20 2 0) "__init__" "Special.__init__" 208 7 2 29 ["self","title"] (.none) "scheme.data" 194 (tn ["title"] 216::dc [e P "__module__" 203 (z "scheme.data" 194),e P "__firstlineno__" 207 (j 5 206),e P "__init__" 215 (r 35),e P "__static_attributes__" 217 (r 36),e P "__dict__" 219 (r 39),e P "__weakref__" 221 (r 40),e P "__doc__" 222 (.none)] 4::k))))
noncomputable def h1 (P:Params) (k:List Obj):List Obj:=⟨.type "type",none,.cls (cd "Special" [.type "object"] [r 38,.type "object"] 37 "Special" true []),(L [none,none,some (z "Special" 196),some (z "Special" 204),some (.builtin "object.__new__"),some (.bool true)])⟩::gt 218 38 (dc [e P "title" 229 (z "empty" 225)] 1::⟨r 38,(some 43),.plain,#[]⟩::⟨.type "frame",none,.dict (L [e P "self" 226 (r 44),e P "title" 227 (z "empty" 225)]) 2,#[]⟩::dc [e P "title" 235 (z "unspecified" 231)] 1::⟨r 38,(some 46),.plain,#[]⟩::⟨.type "frame",none,.dict (L [e P "self" 232 (r 47),e P "title" 233 (z "unspecified" 231)]) 2,#[]⟩::dc [e P "title" 241 (z "eof" 237)] 1::⟨r 38,(some 49),.plain,#[]⟩::⟨.type "frame",none,.dict (L [e P "self" 238 (r 50),e P "title" 239 (z "eof" 237)]) 2,#[]⟩::gh (dc [e P "__module__" 250 (z "scheme.data" 194),e P "__qualname__" 252 (z "Symbol" 251),e P "__firstlineno__" 254 (j 12 253),e P "__init__" 263 (r 65),e P "__static_attributes__" 266 (r 66)] 5::t0::nf [i 14,i 4,r 64]::gz "Symbol" 245 12 54 "scheme.data" 194 (gf (a20 6 0) "__init__" "Symbol.__init__" 255 14 3 59 ["self","number","text"] (.none) "scheme.data" 194 (tn ["number","text"] 264::dc [e P "__module__" 250 (z "scheme.data" 194),e P "__firstlineno__" 254 (j 12 253),e P "__init__" 263 (r 65),e P "__static_attributes__" 266 (r 66),e P "__dict__" 268 (r 69),e P "__weakref__" 270 (r 70),e P "__doc__" 271 (.none)] 4::⟨.type "type",none,.cls (cd "Symbol" [.type "object"] [r 68,.type "object"] 67 "Symbol" true []),(L [none,none,some (z "Symbol" 243),some (z "Symbol" 251),some (.builtin "object.__new__"),some (.bool true)])⟩::gt 267 68 (gh (dc [e P "__module__" 281 (z "scheme.data" 194),e P "__qualname__" 283 (z "SymbolTable" 282),e P "__firstlineno__" 285 (j 17 284),e P "__init__" 292 (r 86),e P "symbol" 301 (r 93),e P "fresh" 310 (r 100),e P "by_number" 318 (r 107),e P "find" 326 (r 114),e P "is_interned" 334 (r 121),e P "size" 341 (r 128),e P "__static_attributes__" 344 (r 129)] 11::t0::k))))))
noncomputable def h2 (P:Params) (k:List Obj):List Obj:=nf [i 19,i 4,r 85,i 23,i 4,r 92,i 31,i 4,r 99,i 36,i 4,r 106,i 39,i 4,r 113,i 42,i 4,r 120,i 45,i 4,r 127]::gz "SymbolTable" 276 17 75 "scheme.data" 194 (gf (a20 7 0) "__init__" "SymbolTable.__init__" 286 19 1 80 ["self"] (.none) "scheme.data" 194 (gf (a20 7 1) "symbol" "SymbolTable.symbol" 293 23 2 87 ["self","text","found"] (.none) "scheme.data" 194 (gf (a20 7 2) "fresh" "SymbolTable.fresh" 302 31 2 94 ["self","hint","found"] (.none) "scheme.data" 194 (gf (a20 7 3) "by_number" "SymbolTable.by_number" 311 36 2 101 ["self","number"] (.none) "scheme.data" 194 (gf (a20 7 4) "find" "SymbolTable.find" 319 39 2 108 ["self","text"] (.none) "scheme.data" 194 (gf (a20 7 5) "is_interned" "SymbolTable.is_interned" 327 42 2 115 ["self","symbol"] (.none) "scheme.data" 194 (gf (a20 7 6) "size" "SymbolTable.size" 335 45 1 122 ["self"] (.none) "scheme.data" 194 (tn ["by_text","rows"] 342::dc [e P "__module__" 281 (z "scheme.data" 194),e P "__firstlineno__" 285 (j 17 284),e P "__init__" 292 (r 86),e P "symbol" 301 (r 93),e P "fresh" 310 (r 100),e P "by_number" 318 (r 107),e P "find" 326 (r 114),e P "is_interned" 334 (r 121),e P "size" 341 (r 128),e P "__static_attributes__" 344 (r 129),e P "__dict__" 346 (r 132),e P "__weakref__" 348 (r 133),e P "__doc__" 349 (.none)] 4::⟨.type "type",none,.cls (cd "SymbolTable" [.type "object"] [r 131,.type "object"] 130 "SymbolTable" true []),(L [none,none,some (z "SymbolTable" 274),some (z "SymbolTable" 282),some (.builtin "object.__new__"),some (.bool true)])⟩::gt 345 131 (gh (dc [e P "__module__" 359 (z "scheme.data" 194),e P "__qualname__" 361 (z "Pair" 360),e P "__firstlineno__" 363 (j 47 362),e P "__init__" 372 (r 149),e P "__static_attributes__" 375 (r 150)] 5::t0::nf [i 49,i 4,r 148]::gz "Pair" 354 47 138 "scheme.data" 194 (gf (a20 8 0) "__init__" "Pair.__init__" 364 49 3 143 ["self","car","cdr"] (.none) "scheme.data" 194 (tn ["car","cdr"] 373::dc [e P "__module__" 359 (z "scheme.data" 194),e P "__firstlineno__" 363 (j 47 362),e P "__init__" 372 (r 149),e P "__static_attributes__" 375 (r 150),e P "__dict__" 377 (r 153),e P "__weakref__" 379 (r 154),e P "__doc__" 380 (.none)] 4::⟨.type "type",none,.cls (cd "Pair" [.type "object"] [r 152,.type "object"] 151 "Pair" true []),(L [none,none,some (z "Pair" 352),some (z "Pair" 360),some (.builtin "object.__new__"),some (.bool true)])⟩::gt 376 152 (gh k)))))))))))))
noncomputable def h3 (P:Params) (k:List Obj):List Obj:=dc [e P "__module__" 390 (z "scheme.data" 194),e P "__qualname__" 392 (z "Char" 391),e P "__firstlineno__" 394 (j 52 393),e P "__init__" 402 (r 170),e P "__static_attributes__" 404 (r 171)] 5::t0::nf [i 54,i 4,r 169]::gz "Char" 385 52 159 "scheme.data" 194 (gf (a20 9 0) "__init__" "Char.__init__" 395 54 2 164 ["self","code"] (.none) "scheme.data" 194 (tn ["code"] 403::dc [e P "__module__" 390 (z "scheme.data" 194),e P "__firstlineno__" 394 (j 52 393),e P "__init__" 402 (r 170),e P "__static_attributes__" 404 (r 171),e P "__dict__" 406 (r 174),e P "__weakref__" 408 (r 175),e P "__doc__" 409 (.none)] 4::⟨.type "type",none,.cls (cd "Char" [.type "object"] [r 173,.type "object"] 172 "Char" true []),(L [none,none,some (z "Char" 383),some (z "Char" 391),some (.builtin "object.__new__"),some (.bool true)])⟩::gt 405 173 (gh (dc [e P "__module__" 419 (z "scheme.data" 194),e P "__qualname__" 421 (z "Text" 420),e P "__firstlineno__" 423 (j 56 422),e P "__init__" 431 (r 191),e P "__static_attributes__" 433 (r 192)] 5::t0::nf [i 58,i 4,r 190]::gz "Text" 414 56 180 "scheme.data" 194 (gf (a20 10 0) "__init__" "Text.__init__" 424 58 2 185 ["self","codes"] (.none) "scheme.data" 194 (tn ["codes"] 432::dc [e P "__module__" 419 (z "scheme.data" 194),e P "__firstlineno__" 423 (j 56 422),e P "__init__" 431 (r 191),e P "__static_attributes__" 433 (r 192),e P "__dict__" 435 (r 195),e P "__weakref__" 437 (r 196),e P "__doc__" 438 (.none)] 4::⟨.type "type",none,.cls (cd "Text" [.type "object"] [r 194,.type "object"] 193 "Text" true []),(L [none,none,some (z "Text" 412),some (z "Text" 420),some (.builtin "object.__new__"),some (.bool true)])⟩::gt 434 194 (gh (dc [e P "__module__" 448 (z "scheme.data" 194),e P "__qualname__" 450 (z "Vector" 449),e P "__firstlineno__" 452 (j 60 451),e P "__init__" 460 (r 212),e P "__static_attributes__" 462 (r 213)] 5::t0::nf [i 62,i 4,r 211]::gz "Vector" 443 60 201 "scheme.data" 194 k))))))))
noncomputable def h4 (P:Params) (k:List Obj):List Obj:=gf (a20 11 0) "__init__" "Vector.__init__" 453 62 2 206 ["self","things"] (.none) "scheme.data" 194 (tn ["things"] 461::dc [e P "__module__" 448 (z "scheme.data" 194),e P "__firstlineno__" 452 (j 60 451),e P "__init__" 460 (r 212),e P "__static_attributes__" 462 (r 213),e P "__dict__" 464 (r 216),e P "__weakref__" 466 (r 217),e P "__doc__" 467 (.none)] 4::⟨.type "type",none,.cls (cd "Vector" [.type "object"] [r 215,.type "object"] 214 "Vector" true []),(L [none,none,some (z "Vector" 441),some (z "Vector" 449),some (.builtin "object.__new__"),some (.bool true)])⟩::gt 463 215 (gh (dc [e P "__module__" 477 (z "scheme.data" 194),e P "__qualname__" 479 (z "Box" 478),e P "__firstlineno__" 481 (j 64 480),e P "__init__" 489 (r 233),e P "__static_attributes__" 491 (r 234)] 5::t0::nf [i 66,i 4,r 232]::gz "Box" 472 64 222 "scheme.data" 194 (gf (a20 12 0) "__init__" "Box.__init__" 482 66 2 227 ["self","content"] (.none) "scheme.data" 194 (tn ["content"] 490::dc [e P "__module__" 477 (z "scheme.data" 194),e P "__firstlineno__" 481 (j 64 480),e P "__init__" 489 (r 233),e P "__static_attributes__" 491 (r 234),e P "__dict__" 493 (r 237),e P "__weakref__" 495 (r 238),e P "__doc__" 496 (.none)] 4::⟨.type "type",none,.cls (cd "Box" [.type "object"] [r 236,.type "object"] 235 "Box" true []),(L [none,none,some (z "Box" 470),some (z "Box" 478),some (.builtin "object.__new__"),some (.bool true)])⟩::gt 492 236 (gh (dc [e P "__module__" 506 (z "scheme.data" 194),e P "__qualname__" 508 (z "Promise" 507),e P "__firstlineno__" 510 (j 68 509),e P "__init__" 519 (r 254),e P "__static_attributes__" 522 (r 255)] 5::t0::nf [i 70,i 4,r 253]::gz "Promise" 501 68 243 "scheme.data" 194 (gf (a20 13 0) "__init__" "Promise.__init__" 511 70 3 248 ["self","is_done","content"] (.none) "scheme.data" 194 (tn ["content","is_done"] 520::dc [e P "__module__" 506 (z "scheme.data" 194),e P "__firstlineno__" 510 (j 68 509),e P "__init__" 519 (r 254),e P "__static_attributes__" 522 (r 255),e P "__dict__" 524 (r 258),e P "__weakref__" 526 (r 259),e P "__doc__" 527 (.none)] 4::⟨.type "type",none,.cls (cd "Promise" [.type "object"] [r 257,.type "object"] 256 "Promise" true []),(L [none,none,some (z "Promise" 499),some (z "Promise" 507),some (.builtin "object.__new__"),some (.bool true)])⟩::k)))))))))
noncomputable def h5 (P:Params) (x299:Obj) (k:List Obj):List Obj:=gt 523 257 (gh (dc [e P "__module__" 537 (z "scheme.data" 194),e P "__qualname__" 539 (z "PortRef" 538),e P "__firstlineno__" 541 (j 73 540),e P "__init__" 549 (r 275),e P "__static_attributes__" 551 (r 276)] 5::t0::nf [i 75,i 4,r 274]::gz "PortRef" 532 73 264 "scheme.data" 194 (gf (a20 14 0) "__init__" "PortRef.__init__" 542 75 2 269 ["self","number"] (.none) "scheme.data" 194 (tn ["number"] 550::dc [e P "__module__" 537 (z "scheme.data" 194),e P "__firstlineno__" 541 (j 73 540),e P "__init__" 549 (r 275),e P "__static_attributes__" 551 (r 276),e P "__dict__" 553 (r 279),e P "__weakref__" 555 (r 280),e P "__doc__" 556 (.none)] 4::⟨.type "type",none,.cls (cd "PortRef" [.type "object"] [r 278,.type "object"] 277 "PortRef" true []),(L [none,none,some (z "PortRef" 530),some (z "PortRef" 538),some (.builtin "object.__new__"),some (.bool true)])⟩::gt 552 278 (gh (dc [e P "__module__" 566 (z "scheme.data" 194),e P "__qualname__" 568 (z "Procedure" 567),e P "__firstlineno__" 570 (j 77 569),e P "__init__" 578 (r 296),e P "__static_attributes__" 580 (r 297)] 5::t0::nf [i 79,i 4,r 295]::gz "Procedure" 561 77 285 "scheme.data" 194 (gf (a20 15 0) "__init__" "Procedure.__init__" 571 79 2 290 ["self","title"] (.none) "scheme.data" 194 (tn ["title"] 579::dc [e P "__module__" 566 (z "scheme.data" 194),e P "__firstlineno__" 570 (j 77 569),e P "__init__" 578 (r 296),e P "__static_attributes__" 580 (r 297),e P "__dict__" 582 (r 300),e P "__weakref__" 584 (r 301),e P "__doc__" 585 (.none)] 4::x299::gt 581 299 (tp [r 299]::fl "builtin_function_or_method" [.builtin "type.__prepare__",.type "type"]::dc [e P "__module__" 595 (z "scheme.data" 194),e P "__qualname__" 597 (z "Primitive" 596),e P "__firstlineno__" 599 (j 81 598),e P "__init__" 608 (r 317),e P "__static_attributes__" 610 (r 318)] 5::k)))))))))
noncomputable def h6 (P:Params) (k:List Obj):List Obj:=t0::nf [i 83,i 4,r 316]::gz "Primitive" 590 81 306 "scheme.data" 194 (gf (a20 16 0) "__init__" "Primitive.__init__" 600 83 3 311 ["self","op","title"] (.none) "scheme.data" 194 (tn ["op"] 609::dc [e P "__module__" 595 (z "scheme.data" 194),e P "__firstlineno__" 599 (j 81 598),e P "__init__" 608 (r 317),e P "__static_attributes__" 610 (r 318),e P "__doc__" 611 (.none)] 2::⟨.type "type",none,.cls (cd "Primitive" [r 299] [r 320,r 299,.type "object"] 319 "Primitive" true []),(L [some (r 304),none,some (z "Primitive" 588),some (z "Primitive" 596),some (.builtin "object.__new__"),some (.bool true)])⟩::fl "super" [r 320,r 320,r 320]::fl "builtin_function_or_method" [.builtin "object.__init_subclass__",r 320]::t0::n0::fa (stm 17) "make_text"::co "make_text" "make_text" 614 86 1 0 0 3 323 true 324 .none .none .none (r 325) 617::fb (stm 17) "make_text" (.none) "scheme.data" 194 326::t0::n0::fa (stm 18) "python_text"::co "python_text" "python_text" 620 88 1 0 0 3 328 true 329 .none .none .none (r 330) 623::fb (stm 18) "python_text" (.none) "scheme.data" 194 331::tp [r 44]::gn (stm 19) "list_of" 626 90 2 334 ["things","tail","found","place"] (r 333) "scheme.data" 194 (gn (stm 20) "is_boolean" 636 95 1 341 ["datum"] (.none) "scheme.data" 194 (tp [.type "Exception"]::fl "builtin_function_or_method" [.builtin "type.__prepare__",.type "type"]::k))))
noncomputable def h7 (P:Params) (x364:Obj) (k:List Obj):List Obj:=dc [e P "__module__" 652 (z "scheme.errors" 643),e P "__qualname__" 654 (z "SchemeError" 653),e P "__firstlineno__" 656 (j 98 655),e P "__init__" 665 (r 361),e P "__static_attributes__" 668 (r 362)] 5::t0::nf [i 100,i 4,r 360]::gz "SchemeError" 647 98 350 "scheme.errors" 643 (gf (a20 22 0) "__init__" "SchemeError.__init__" 657 100 3 355 ["self","word","irritants"] (.none) "scheme.errors" 643 (tn ["irritants","word"] 666::dc [e P "__module__" 652 (z "scheme.errors" 643),e P "__firstlineno__" 656 (j 98 655),e P "__init__" 665 (r 361),e P "__static_attributes__" 668 (r 362),e P "__weakref__" 670 (r 365),e P "__doc__" 671 (.none)] 3::x364::fl "getset_descriptor" [z "__weakref__" 669,r 364,.builtin "ExceptionGroup.__weakref__",.none]::fl "super" [r 364,r 364,r 364]::fl "builtin_function_or_method" [.builtin "object.__init_subclass__",r 364]::tp [r 364]::fl "builtin_function_or_method" [.builtin "type.__prepare__",.type "type"]::dc [e P "__module__" 683 (z "scheme.errors" 643),e P "__qualname__" 685 (z "LexError" 684),e P "__firstlineno__" 687 (j 103 686),e P "__init__" 696 (r 381),e P "__static_attributes__" 699 (r 382)] 5::t0::nf [i 105,i 4,r 380]::gz "LexError" 678 103 370 "scheme.errors" 643 (gf (a20 23 0) "__init__" "LexError.__init__" 688 105 3 375 ["self","reason","place"] (.none) "scheme.errors" 643 (tn ["place","reason"] 697::dc [e P "__module__" 683 (z "scheme.errors" 643),e P "__firstlineno__" 687 (j 103 686),e P "__init__" 696 (r 381),e P "__static_attributes__" 699 (r 382),e P "__doc__" 700 (.none)] 2::⟨.type "type",none,.cls (cd "LexError" [r 364] [r 384,r 364,.type "Exception",.type "BaseException",.type "object"] 383 "LexError" true []),(L [some (r 368),none,some (z "LexError" 676),some (z "LexError" 684),some (.builtin "Exception.__new__"),some (.bool true)])⟩::fl "super" [r 384,r 384,r 384]::fl "builtin_function_or_method" [.builtin "object.__init_subclass__",r 384]::tp [r 364]::k))))
noncomputable def h8 (P:Params) (k:List Obj):List Obj:=fl "builtin_function_or_method" [.builtin "type.__prepare__",.type "type"]::dc [e P "__module__" 710 (z "scheme.errors" 643),e P "__qualname__" 712 (z "ReadError" 711),e P "__firstlineno__" 714 (j 109 713),e P "__init__" 723 (r 400),e P "__static_attributes__" 726 (r 401)] 5::t0::nf [i 111,i 4,r 399]::gz "ReadError" 705 109 389 "scheme.errors" 643 (gf (a20 24 0) "__init__" "ReadError.__init__" 715 111 3 394 ["self","reason","place"] (.none) "scheme.errors" 643 (tn ["place","reason"] 724::dc [e P "__module__" 710 (z "scheme.errors" 643),e P "__firstlineno__" 714 (j 109 713),e P "__init__" 723 (r 400),e P "__static_attributes__" 726 (r 401),e P "__doc__" 727 (.none)] 2::⟨.type "type",none,.cls (cd "ReadError" [r 364] [r 403,r 364,.type "Exception",.type "BaseException",.type "object"] 402 "ReadError" true []),(L [some (r 387),none,some (z "ReadError" 703),some (z "ReadError" 711),some (.builtin "Exception.__new__"),some (.bool true)])⟩::fl "super" [r 403,r 403,r 403]::fl "builtin_function_or_method" [.builtin "object.__init_subclass__",r 403]::tp [r 364]::fl "builtin_function_or_method" [.builtin "type.__prepare__",.type "type"]::dc [e P "__module__" 737 (z "scheme.errors" 643),e P "__qualname__" 739 (z "TooLong" 738),e P "__firstlineno__" 741 (j 115 740),e P "__init__" 749 (r 419),e P "__static_attributes__" 751 (r 420)] 5::t0::nf [i 117,i 4,r 418]::gz "TooLong" 732 115 408 "scheme.errors" 643 (gf (a20 25 0) "__init__" "TooLong.__init__" 742 117 2 413 ["self","limit"] (.none) "scheme.errors" 643 (tn ["limit"] 750::dc [e P "__module__" 737 (z "scheme.errors" 643),e P "__firstlineno__" 741 (j 115 740),e P "__init__" 749 (r 419),e P "__static_attributes__" 751 (r 420),e P "__doc__" 752 (.none)] 2::⟨.type "type",none,.cls (cd "TooLong" [r 364] [r 422,r 364,.type "Exception",.type "BaseException",.type "object"] 421 "TooLong" true []),(L [some (r 406),none,some (z "TooLong" 730),some (z "TooLong" 738),some (.builtin "Exception.__new__"),some (.bool true)])⟩::fl "super" [r 422,r 422,r 422]::fl "builtin_function_or_method" [.builtin "object.__init_subclass__",r 422]::tp [r 364]::k))))
noncomputable def h9 (P:Params) (k:List Obj):List Obj:=fl "builtin_function_or_method" [.builtin "type.__prepare__",.type "type"]::dc [e P "__module__" 762 (z "scheme.errors" 643),e P "__qualname__" 764 (z "OutOfRange" 763),e P "__firstlineno__" 766 (j 120 765),e P "__init__" 776 (r 438),e P "__static_attributes__" 780 (r 439)] 5::t0::nf [i 122,i 4,r 437]::gz "OutOfRange" 757 120 427 "scheme.errors" 643 (gf (a20 26 0) "__init__" "OutOfRange.__init__" 767 122 4 432 ["self","name","place","datum"] (.none) "scheme.errors" 643 (tn ["datum","name","place"] 777::dc [e P "__module__" 762 (z "scheme.errors" 643),e P "__firstlineno__" 766 (j 120 765),e P "__init__" 776 (r 438),e P "__static_attributes__" 780 (r 439),e P "__doc__" 781 (.none)] 2::⟨.type "type",none,.cls (cd "OutOfRange" [r 364] [r 441,r 364,.type "Exception",.type "BaseException",.type "object"] 440 "OutOfRange" true []),(L [some (r 425),none,some (z "OutOfRange" 755),some (z "OutOfRange" 763),some (.builtin "Exception.__new__"),some (.bool true)])⟩::fl "super" [r 441,r 441,r 441]::fl "builtin_function_or_method" [.builtin "object.__init_subclass__",r 441]::gh (dc [e P "__module__" 797 (z "scheme.binary" 784),e P "__qualname__" 799 (z "Real" 798),e P "__firstlineno__" 801 (j 129 800),e P "__init__" 810 (r 457),e P "__static_attributes__" 813 (r 458)] 5::t0::nf [i 131,i 4,r 456]::gz "Real" 792 129 446 "scheme.binary" 784 (gf (a20 29 0) "__init__" "Real.__init__" 802 131 3 451 ["self","mantissa","exponent"] (.none) "scheme.binary" 784 (tn ["exponent","mantissa"] 811::dc [e P "__module__" 797 (z "scheme.binary" 784),e P "__firstlineno__" 801 (j 129 800),e P "__init__" 810 (r 457),e P "__static_attributes__" 813 (r 458),e P "__dict__" 815 (r 461),e P "__weakref__" 817 (r 462),e P "__doc__" 818 (.none)] 4::⟨.type "type",none,.cls (cd "Real" [.type "object"] [r 460,.type "object"] 459 "Real" true []),(L [none,none,some (z "Real" 790),some (z "Real" 798),some (.builtin "object.__new__"),some (.bool true)])⟩::gt 814 460 (gn (stm 30) "is_real" 821 134 1 465 ["value"] (.none) "scheme.binary" 784 (gn (stm 31) "size_of" 828 136 1 472 ["number"] (.none) "scheme.binary" 784 (gn (stm 32) "sign_of_whole" 835 138 1 479 ["number"] (.none) "scheme.binary" 784 k))))))))
noncomputable def h10 (P:Params) (k:List Obj):List Obj:=gn (stm 33) "zeros_below" 842 140 1 486 ["number"] (.none) "scheme.binary" 784 (gn (stm 34) "lean" 849 142 2 493 ["mantissa","exponent","gone","place"] (.none) "scheme.binary" 784 (gn (stm 35) "nearest_shift" 859 149 2 500 ["number","gone","kept","rest","half"] (.none) "scheme.binary" 784 (gn (stm 36) "shifted_round" 870 154 3 507 ["precision","mantissa","exponent","gone"] (.none) "scheme.binary" 784 (gn (stm 37) "with_sticky" 880 159 2 514 ["number","is_more"] (.none) "scheme.binary" 784 (gn (stm 38) "rounded" 888 161 3 521 ["precision","top","bottom","shift","kept","rest"] (.none) "scheme.binary" 784 (gn (stm 39) "exact_parts" 900 170 1 528 ["real"] (.none) "scheme.binary" 784 (gn (stm 40) "place_of" 907 174 1 535 ["real"] (.none) "scheme.binary" 784 (gn (stm 41) "sign_of" 914 176 1 542 ["real"] (.none) "scheme.binary" 784 (gn (stm 42) "magnitude" 921 178 1 549 ["real"] (.none) "scheme.binary" 784 (gn (stm 43) "full_mantissa" 928 180 2 556 ["precision","real","shift"] (.none) "scheme.binary" 784 (gh (dc [e P "__module__" 946 (z "scheme.exact" 937),e P "__qualname__" 948 (z "Ratio" 947),e P "__firstlineno__" 950 (j 184 949),e P "__init__" 959 (r 576),e P "__static_attributes__" 962 (r 577)] 5::t0::nf [i 186,i 4,r 575]::gz "Ratio" 941 184 565 "scheme.exact" 937 (gf (a20 45 0) "__init__" "Ratio.__init__" 951 186 3 570 ["self","top","bottom"] (.none) "scheme.exact" 937 (tn ["bottom","top"] 960::dc [e P "__module__" 946 (z "scheme.exact" 937),e P "__firstlineno__" 950 (j 184 949),e P "__init__" 959 (r 576),e P "__static_attributes__" 962 (r 577),e P "__dict__" 964 (r 580),e P "__weakref__" 966 (r 581),e P "__doc__" 967 (.none)] 4::⟨.type "type",none,.cls (cd "Ratio" [.type "object"] [r 579,.type "object"] 578 "Ratio" true []),(L [none,none,some (z "Ratio" 939),some (z "Ratio" 947),some (.builtin "object.__new__"),some (.bool true)])⟩::gt 963 579 (gn (stm 46) "gcd_of" 970 189 2 584 ["one","other"] (.none) "scheme.exact" 937 (gn (stm 47) "made" 978 194 2 591 ["top","bottom"] (.none) "scheme.exact" 937 (gn (stm 48) "ratio_of" 986 196 2 598 ["top","bottom","common"] (.none) "scheme.exact" 937 k)))))))))))))))))
noncomputable def h11 (P:Params) (k:List Obj):List Obj:=dc [e P "b" 999 (j 2 1000),e P "o" 1001 (j 8 1002),e P "d" 1003 (j 10 1004),e P "x" 1005 (j 16 1006)] 4::gn (stm 56) "figures_of" 1020 208 2 606 ["number","radix","found","figure"] (.none) "scheme.numtext" 995 (gn (stm 57) "whole_text" 1030 216 2 613 ["number","radix"] (.none) "scheme.numtext" 995 (gn (stm 58) "exact_text" 1038 218 2 620 ["number","radix"] (.none) "scheme.numtext" 995 (gh (dc [e P "__module__" 1053 (z "scheme.numtext" 995),e P "__qualname__" 1055 (z "Surroundings" 1054),e P "__firstlineno__" 1057 (j 222 1056),e P "__init__" 1069 (r 640),e P "over_power" 1078 (r 647),e P "least_multiple" 1090 (r 654),e P "greatest_multiple" 1102 (r 661),e P "gap" 1113 (r 668),e P "nearest_multiple" 1125 (r 675),e P "__static_attributes__" 1132 (r 676)] 10::t0::nf [i 224,i 4,r 639,i 233,i 4,r 646,i 238,i 4,r 653,i 243,i 4,r 660,i 248,i 4,r 667,i 252,i 4,r 674]::gz "Surroundings" 1048 222 629 "scheme.numtext" 995 (gf (a20 59 0) "__init__" "Surroundings.__init__" 1058 224 3 634 ["self","precision","real","mantissa","exponent","is_power"] (.none) "scheme.numtext" 995 (gf (a20 59 1) "over_power" "Surroundings.over_power" 1070 233 3 641 ["self","parts","power"] (.none) "scheme.numtext" 995 (gf (a20 59 2) "least_multiple" "Surroundings.least_multiple" 1079 238 2 648 ["self","power","top","bottom","found","rest"] (.none) "scheme.numtext" 995 (gf (a20 59 3) "greatest_multiple" "Surroundings.greatest_multiple" 1091 243 2 655 ["self","power","top","bottom","found","rest"] (.none) "scheme.numtext" 995 (gf (a20 59 4) "gap" "Surroundings.gap" 1103 248 3 662 ["self","multiple","power","top","bottom"] (.none) "scheme.numtext" 995 (gf (a20 59 5) "nearest_multiple" "Surroundings.nearest_multiple" 1114 252 2 669 ["self","power","top","bottom","found","rest"] (.none) "scheme.numtext" 995 (tn ["bottom","has_ends","here","high","low","top"] 1126::dc [e P "__module__" 1053 (z "scheme.numtext" 995),e P "__firstlineno__" 1057 (j 222 1056),e P "__init__" 1069 (r 640),e P "over_power" 1078 (r 647),e P "least_multiple" 1090 (r 654),e P "greatest_multiple" 1102 (r 661),e P "gap" 1113 (r 668),e P "nearest_multiple" 1125 (r 675),e P "__static_attributes__" 1132 (r 676),e P "__dict__" 1134 (r 679),e P "__weakref__" 1136 (r 680),e P "__doc__" 1137 (.none)] 4::⟨.type "type",none,.cls (cd "Surroundings" [.type "object"] [r 678,.type "object"] 677 "Surroundings" true []),(L [none,none,some (z "Surroundings" 1046),some (z "Surroundings" 1054),some (.builtin "object.__new__"),some (.bool true)])⟩::gt 1133 678 (gn (stm 60) "with_lower_ones" 1140 258 3 683 ["around","found","power","least","greatest","other","first","second","left","right"] (.none) "scheme.numtext" 995 (gn (stm 61) "tens_above" 1156 268 1 690 ["real","place"] (.none) "scheme.numtext" 995 (gn (stm 62) "shortest_figures" 1164 271 2 697 ["precision","real","around","power","least","greatest","found"] (.none) "scheme.numtext" 995 (gn (stm 63) "without_noughts" 1177 279 2 704 ["figures","power","kept"] (.none) "scheme.numtext" 995 (gn (stm 64) "laid_out" 1186 282 2 711 ["figures","power","point","behind"] (.none) "scheme.numtext" 995 k))))))))))))))))
noncomputable def h12 (P:Params) (k:List Obj):List Obj:=gn (stm 65) "decimal_text" 1196 292 2 718 ["precision","real","number","power","figures"] (.none) "scheme.numtext" 995 (tp [j 10 1207]::gn (stm 66) "number_text" 1208 298 3 726 ["precision","number","radix","top","bottom"] (r 725) "scheme.numtext" 995 (gn (stm 67) "worth_of" 1219 305 2 733 ["figures","radix","found","sign"] (.none) "scheme.numtext" 995 (t0::n0::fa (stm 68) "are_figures"::co "are_figures" "are_figures" 1229 310 2 0 0 3 740 true 741 .none .none .none (r 742) 1232::fb (stm 68) "are_figures" (.none) "scheme.numtext" 995 743::gn (stm 69) "parted" 1235 312 1 745 ["word","kept"] (.none) "scheme.numtext" 995 (gh (dc [e P "__module__" 1250 (z "scheme.numtext" 995),e P "__qualname__" 1252 (z "Reading" 1251),e P "__firstlineno__" 1254 (j 315 1253),e P "__init__" 1264 (r 765),e P "__static_attributes__" 1268 (r 766)] 5::t0::nf [i 317,i 4,r 764]::gz "Reading" 1245 315 754 "scheme.numtext" 995 (gf (a20 70 0) "__init__" "Reading.__init__" 1255 317 4 759 ["self","top","bottom","is_exact"] (.none) "scheme.numtext" 995 (tn ["bottom","is_exact","top"] 1265::dc [e P "__module__" 1250 (z "scheme.numtext" 995),e P "__firstlineno__" 1254 (j 315 1253),e P "__init__" 1264 (r 765),e P "__static_attributes__" 1268 (r 766),e P "__dict__" 1270 (r 769),e P "__weakref__" 1272 (r 770),e P "__doc__" 1273 (.none)] 4::⟨.type "type",none,.cls (cd "Reading" [.type "object"] [r 768,.type "object"] 767 "Reading" true []),(L [none,none,some (z "Reading" 1243),some (z "Reading" 1251),some (.builtin "object.__new__"),some (.bool true)])⟩::gt 1269 768 (gn (stm 71) "read_whole" 1276 321 2 773 ["word","radix","kept","many"] (.none) "scheme.numtext" 995 (gn (stm 72) "read_ratio" 1286 326 2 780 ["word","radix","parts","high","low"] (.none) "scheme.numtext" 995 (gn (stm 73) "are_decimal_parts" 1297 334 2 787 ["ahead","behind","first","unknown","last"] (.none) "scheme.numtext" 995 (gn (stm 74) "read_exponent" 1308 340 1 794 ["word","figures"] (.none) "scheme.numtext" 995 k)))))))))))
noncomputable def h13 (P:Params) (k:List Obj):List Obj:=t0::n0::fa (stm 75) "mark_place"::co "mark_place" "mark_place" 1316 345 1 0 0 3 801 true 802 .none .none .none (r 803) 1319::fb (stm 75) "mark_place" (.none) "scheme.numtext" 995 804::gn (stm 76) "read_mantissa" 1322 348 1 806 ["word","parts","found","figures"] (.none) "scheme.numtext" 995 (gn (stm 77) "read_decimal" 1332 357 1 813 ["word","place","found","exponent"] (.none) "scheme.numtext" 995 (gn (stm 78) "read_unsigned" 1342 368 2 820 ["word","radix"] (.none) "scheme.numtext" 995 (gn (stm 79) "split_prefixes" 1350 374 2 827 ["word","radix","exactness","has_radix","at","mark"] (.none) "scheme.numtext" 995 (gn (stm 80) "finished" 1362 386 4 834 ["precision","top","bottom","is_exact"] (.none) "scheme.numtext" 995 (tp [j 10 1372]::gn (stm 81) "parse_number" 1373 393 3 842 ["precision","text","radix","found","word","exactness","sign","reading","is_exact"] (r 841) "scheme.numtext" 995 (tn ["+","-","..."] 1406::tn ["space"," "] 1412::tn ["newline","\n"] 1414::tp [r 850,r 851]::tn ["'","quote"] 1417::tn ["`","quasiquote"] 1419::tn [",","unquote"] 1421::tn [",@","unquote-splicing"] 1423::tp [r 853,r 854,r 855,r 856]::gh (dc [e P "__module__" 1433 (z "scheme.lexer" 1388),e P "__qualname__" 1435 (z "Token" 1434),e P "__firstlineno__" 1437 (j 417 1436),e P "__init__" 1448 (r 871),e P "__static_attributes__" 1453 (r 872)] 5::t0::k)))))))
noncomputable def h14 (P:Params) (k:List Obj):List Obj:=nf [i 419,i 4,r 870]::gz "Token" 1428 417 860 "scheme.lexer" 1388 (gf (a20 95 0) "__init__" "Token.__init__" 1438 419 5 865 ["self","word","value","start","end"] (.none) "scheme.lexer" 1388 (tn ["end","start","value","word"] 1449::dc [e P "__module__" 1433 (z "scheme.lexer" 1388),e P "__firstlineno__" 1437 (j 417 1436),e P "__init__" 1448 (r 871),e P "__static_attributes__" 1453 (r 872),e P "__dict__" 1455 (r 875),e P "__weakref__" 1457 (r 876),e P "__doc__" 1458 (.none)] 4::⟨.type "type",none,.cls (cd "Token" [.type "object"] [r 874,.type "object"] 873 "Token" true []),(L [none,none,some (z "Token" 1426),some (z "Token" 1434),some (.builtin "object.__new__"),some (.bool true)])⟩::gt 1454 874 (gn (stm 96) "folded" 1461 424 1 879 ["text","letters","letter","at"] (.none) "scheme.lexer" 1388 (gn (stm 97) "is_first" 1471 430 1 886 ["letter"] (.none) "scheme.lexer" 1388 (gn (stm 98) "is_later" 1478 432 1 893 ["letter"] (.none) "scheme.lexer" 1388 (gn (stm 99) "is_identifier" 1485 434 1 900 ["text","letter"] (.none) "scheme.lexer" 1388 (gn (stm 100) "is_numberlike" 1493 443 1 907 ["text"] (.none) "scheme.lexer" 1388 (gn (stm 101) "sign_named" 1500 445 1 914 ["name","known","letter"] (.none) "scheme.lexer" 1388 (gn (stm 102) "name_of_sign" 1509 450 1 921 ["letter","known","own"] (.none) "scheme.lexer" 1388 (gh (dc [e P "__module__" 1525 (z "scheme.lexer" 1388),e P "__qualname__" 1527 (z "Lexer" 1526),e P "__firstlineno__" 1529 (j 455 1528),e P "__init__" 1540 (r 942),e P "skip" 1549 (r 949),e P "peek" 1556 (r 956),e P "token" 1566 (r 963),e P "found" 1577 (r 970),e P "word_end" 1586 (r 977),e P "word_token" 1597 (r 984),e P "number_in" 1607 (r 991),e P "sharp" 1617 (r 998),e P "sign_token" 1628 (r 1005),e P "string" 1639 (r 1012),e P "__static_attributes__" 1644 (r 1013)] 15::t0::nf [i 457,i 4,r 941,i 463,i 4,r 948,i 474,i 4,r 955,i 477,i 4,r 962,i 494,i 4,r 969,i 499,i 4,r 976,i 507,i 4,r 983,i 520,i 4,r 990,i 526,i 4,r 997,i 540,i 4,r 1004,i 553,i 4,r 1011]::gz "Lexer" 1520 455 930 "scheme.lexer" 1388 (tp [j 53 1530,.bool true]::gf (a20 103 0) "__init__" "Lexer.__init__" 1531 457 4 936 ["self","text","precision","is_folded"] (r 935) "scheme.lexer" 1388 (gf (a20 103 1) "skip" "Lexer.skip" 1541 463 1 943 ["self","letter","end"] (.none) "scheme.lexer" 1388 (gf (a20 103 2) "peek" "Lexer.peek" 1550 474 1 950 ["self"] (.none) "scheme.lexer" 1388 (gf (a20 103 3) "token" "Lexer.token" 1557 477 1 957 ["self","start","letter","word"] (.none) "scheme.lexer" 1388 k)))))))))))))))
noncomputable def h15 (P:Params) (k:List Obj):List Obj:=gf (a20 103 4) "found" "Lexer.found" 1567 494 4 964 ["self","word","value","end","start"] (.none) "scheme.lexer" 1388 (gf (a20 103 5) "word_end" "Lexer.word_end" 1578 499 2 971 ["self","start","at"] (.none) "scheme.lexer" 1388 (gf (a20 103 6) "word_token" "Lexer.word_token" 1587 507 1 978 ["self","start","end","own","name"] (.none) "scheme.lexer" 1388 (gf (a20 103 7) "number_in" "Lexer.number_in" 1598 520 3 985 ["self","own","start","number"] (.none) "scheme.lexer" 1388 (gf (a20 103 8) "sharp" "Lexer.sharp" 1608 526 1 992 ["self","start","second","end"] (.none) "scheme.lexer" 1388 (gf (a20 103 9) "sign_token" "Lexer.sign_token" 1618 540 1 999 ["self","start","end","own","letter"] (.none) "scheme.lexer" 1388 (gf (a20 103 10) "string" "Lexer.string" 1629 553 1 1006 ["self","start","letters","at","letter"] (.none) "scheme.lexer" 1388 (tn ["is_folded","place","precision","text"] 1640::dc [e P "__module__" 1525 (z "scheme.lexer" 1388),e P "__firstlineno__" 1529 (j 455 1528),e P "__init__" 1540 (r 942),e P "skip" 1549 (r 949),e P "peek" 1556 (r 956),e P "token" 1566 (r 963),e P "found" 1577 (r 970),e P "word_end" 1586 (r 977),e P "word_token" 1597 (r 984),e P "number_in" 1607 (r 991),e P "sharp" 1617 (r 998),e P "sign_token" 1628 (r 1005),e P "string" 1639 (r 1012),e P "__static_attributes__" 1644 (r 1013),e P "__dict__" 1646 (r 1016),e P "__weakref__" 1648 (r 1017),e P "__doc__" 1649 (.none)] 4::⟨.type "type",none,.cls (cd "Lexer" [.type "object"] [r 1015,.type "object"] 1014 "Lexer" true []),(L [none,none,some (z "Lexer" 1518),some (z "Lexer" 1526),some (.builtin "object.__new__"),some (.bool true)])⟩::gt 1645 1015 (gh (dc [e P "__module__" 1667 (z "scheme.reader" 1652),e P "__qualname__" 1669 (z "Frame" 1668),e P "__firstlineno__" 1671 (j 576 1670),e P "__init__" 1681 (r 1033),e P "__static_attributes__" 1687 (r 1034)] 5::t0::nf [i 578,i 4,r 1032]::gz "Frame" 1662 576 1022 "scheme.reader" 1652 (gf (a20 108 0) "__init__" "Frame.__init__" 1672 578 4 1027 ["self","word","start","things"] (.none) "scheme.reader" 1652 (tn ["start","state","tail","things","word"] 1682::dc [e P "__module__" 1667 (z "scheme.reader" 1652),e P "__firstlineno__" 1671 (j 576 1670),e P "__init__" 1681 (r 1033),e P "__static_attributes__" 1687 (r 1034),e P "__dict__" 1689 (r 1037),e P "__weakref__" 1691 (r 1038),e P "__doc__" 1692 (.none)] 4::⟨.type "type",none,.cls (cd "Frame" [.type "object"] [r 1036,.type "object"] 1035 "Frame" true []),(L [none,none,some (z "Frame" 1660),some (z "Frame" 1668),some (.builtin "object.__new__"),some (.bool true)])⟩::gt 1688 1036 (gh (dc [e P "__module__" 1702 (z "scheme.reader" 1652),e P "__qualname__" 1704 (z "Reader" 1703),e P "__firstlineno__" 1706 (j 584 1705),e P "__init__" 1718 (r 1055),e P "place" 1725 (r 1062),e P "read" 1734 (r 1069),e P "last" 1743 (r 1076),e P "quoted" 1752 (r 1083),e P "opens" 1762 (r 1090),e P "dot" 1771 (r 1097),e P "closed" 1780 (r 1104),e P "atom" 1788 (r 1111),e P "delivered" 1800 (r 1118),e P "__static_attributes__" 1804 (r 1119)] 14::t0::k)))))))))))))
noncomputable def h16 (P:Params) (k:List Obj):List Obj:=nf [i 586,i 4,r 1054,i 591,i 4,r 1061,i 594,i 4,r 1068,i 611,i 4,r 1075,i 617,i 4,r 1082,i 621,i 4,r 1089,i 634,i 4,r 1096,i 642,i 4,r 1103,i 655,i 4,r 1110,i 658,i 4,r 1117]::gz "Reader" 1697 584 1043 "scheme.reader" 1652 (tp [j 53 1707,.bool true]::gf (a20 109 0) "__init__" "Reader.__init__" 1708 586 5 1049 ["self","text","table","precision","is_folded"] (r 1048) "scheme.reader" 1652 (gf (a20 109 1) "place" "Reader.place" 1719 591 1 1056 ["self"] (.none) "scheme.reader" 1652 (gf (a20 109 2) "read" "Reader.read" 1726 594 1 1063 ["self","token","datum"] (.none) "scheme.reader" 1652 (gf (a20 109 3) "last" "Reader.last" 1735 611 2 1070 ["self","datum","found"] (.none) "scheme.reader" 1652 (gf (a20 109 4) "quoted" "Reader.quoted" 1744 617 2 1077 ["self","datum","frame"] (.none) "scheme.reader" 1652 (gf (a20 109 5) "opens" "Reader.opens" 1753 621 2 1084 ["self","token","sign","name"] (.none) "scheme.reader" 1652 (gf (a20 109 6) "dot" "Reader.dot" 1763 634 2 1091 ["self","token","frame"] (.none) "scheme.reader" 1652 (gf (a20 109 7) "closed" "Reader.closed" 1772 642 2 1098 ["self","token","frame"] (.none) "scheme.reader" 1652 (gf (a20 109 8) "atom" "Reader.atom" 1781 655 2 1105 ["self","token"] (.none) "scheme.reader" 1652 (gf (a20 109 9) "delivered" "Reader.delivered" 1789 658 3 1112 ["self","datum","start","found","at","frame"] (.none) "scheme.reader" 1652 (tn ["frames","lexer","table"] 1801::dc [e P "__module__" 1702 (z "scheme.reader" 1652),e P "__firstlineno__" 1706 (j 584 1705),e P "__init__" 1718 (r 1055),e P "place" 1725 (r 1062),e P "read" 1734 (r 1069),e P "last" 1743 (r 1076),e P "quoted" 1752 (r 1083),e P "opens" 1762 (r 1090),e P "dot" 1771 (r 1097),e P "closed" 1780 (r 1104),e P "atom" 1788 (r 1111),e P "delivered" 1800 (r 1118),e P "__static_attributes__" 1804 (r 1119),e P "__dict__" 1806 (r 1122),e P "__weakref__" 1808 (r 1123),e P "__doc__" 1809 (.none)] 4::⟨.type "type",none,.cls (cd "Reader" [.type "object"] [r 1121,.type "object"] 1120 "Reader" true []),(L [none,none,some (z "Reader" 1695),some (z "Reader" 1703),some (.builtin "object.__new__"),some (.bool true)])⟩::gt 1805 1121 (tp [j 53 1812,.bool true]::gn (stm 110) "read_one" 1813 676 4 1127 ["text","table","precision","is_folded","reader","found","end"] (r 1126) "scheme.reader" 1652 (gn (stm 111) "quotation_sign" 1826 685 2 1134 ["datum","table","sign","name"] (.none) "scheme.reader" 1652 (gn (stm 116) "is_readable_symbol" 1844 696 1 1141 ["text"] (.none) "scheme.printer" 1836 (gn (stm 117) "written_sign" 1851 698 1 1148 ["code","name"] (.none) "scheme.printer" 1836 (gn (stm 118) "written_string" 1859 701 1 1155 ["text","found","letter"] (.none) "scheme.printer" 1836 (gn (stm 119) "other_text" 1868 709 1 1162 ["datum"] (.none) "scheme.printer" 1836 k)))))))))))))))))
noncomputable def h17 (P:Params) (k:List Obj):List Obj:=gh (dc [e P "__module__" 1882 (z "scheme.printer" 1836),e P "__qualname__" 1884 (z "Printer" 1883),e P "__firstlineno__" 1886 (j 719 1885),e P "__init__" 1898 (r 1182),e P "told" 1908 (r 1189),e P "put" 1916 (r 1196),e P "datum" 1925 (r 1203),e P "pair" 1934 (r 1210),e P "tail" 1942 (r 1217),e P "atom" 1951 (r 1224),e P "__static_attributes__" 1960 (r 1225)] 11::t0::nf [i 721,i 4,r 1181,i 731,i 4,r 1188,i 743,i 4,r 1195,i 749,i 4,r 1202,i 762,i 4,r 1209,i 772,i 4,r 1216,i 784,i 4,r 1223]::gz "Printer" 1877 719 1171 "scheme.printer" 1836 (gf (a20 120 0) "__init__" "Printer.__init__" 1887 721 6 1176 ["self","is_written","precision","radix","limit","table"] (.none) "scheme.printer" 1836 (gf (a20 120 1) "told" "Printer.told" 1899 731 2 1183 ["self","datum","word","thing"] (.none) "scheme.printer" 1836 (gf (a20 120 2) "put" "Printer.put" 1909 743 2 1190 ["self","piece"] (.none) "scheme.printer" 1836 (gf (a20 120 3) "datum" "Printer.datum" 1917 749 2 1197 ["self","thing","place"] (.none) "scheme.printer" 1836 (gf (a20 120 4) "pair" "Printer.pair" 1926 762 2 1204 ["self","thing","sign"] (.none) "scheme.printer" 1836 (gf (a20 120 5) "tail" "Printer.tail" 1935 772 2 1211 ["self","thing"] (.none) "scheme.printer" 1836 (gf (a20 120 6) "atom" "Printer.atom" 1943 784 2 1218 ["self","thing","found"] (.none) "scheme.printer" 1836 (tn ["is_written","length","limit","pieces","precision","radix","table","waiting"] 1952::dc [e P "__module__" 1882 (z "scheme.printer" 1836),e P "__firstlineno__" 1886 (j 719 1885),e P "__init__" 1898 (r 1182),e P "told" 1908 (r 1189),e P "put" 1916 (r 1196),e P "datum" 1925 (r 1203),e P "pair" 1934 (r 1210),e P "tail" 1942 (r 1217),e P "atom" 1951 (r 1224),e P "__static_attributes__" 1960 (r 1225),e P "__dict__" 1962 (r 1228),e P "__weakref__" 1964 (r 1229),e P "__doc__" 1965 (.none)] 4::⟨.type "type",none,.cls (cd "Printer" [.type "object"] [r 1227,.type "object"] 1226 "Printer" true []),(L [none,none,some (z "Printer" 1875),some (z "Printer" 1883),some (.builtin "object.__new__"),some (.bool true)])⟩::gt 1961 1227 (tp [j 53 1968,j 10 1969,.none,.none]::gn (stm 121) "write_text" 1970 797 5 1233 ["datum","precision","radix","limit","table"] (r 1232) "scheme.printer" 1836 (tp [j 53 1981,j 10 1982,.none]::gn (stm 122) "display_text" 1983 799 4 1241 ["datum","precision","radix","limit"] (r 1240) "scheme.printer" 1836 (gn (stm 123) "is_readable" 1993 801 2 1248 ["datum","table","waiting","thing"] (.none) "scheme.printer" 1836 (t0::n0::t0::k)))))))))))))
noncomputable def h18 (k:List Obj):List Obj:=t0::fa (stm 125) "_law_marks"::co "_law_marks" "_law_marks" 2005 817 0 0 0 3 1255 true 1256 .none (r 1257) (r 1258) (r 1259) 2008::fb (stm 125) "_law_marks" (.none) "law_nt0262_01" 2003 1260::gn (stm 126) "_law_draw" 2011 819 2 1262 ["deck","many"] (.none) "law_nt0262_01" 2003 (gn (stm 127) "_law_atom" 2019 824 2 1269 ["deck","table","way","number","name","found","some","thing","told"] (.none) "law_nt0262_01" 2003 (t0::n0::fa (stm 128) "_law_next"::co "_law_next" "_law_next" 2034 845 3 0 0 3 1276 true 1277 .none .none .none (r 1278) 2037::fb (stm 128) "_law_next" (.none) "law_nt0262_01" 2003 1279::gn (stm 129) "_law_bounded" 2040 862 3 1281 ["thing","limit","table","error"] (.none) "law_nt0262_01" 2003 (t0::n0::fa (stm 130) "law"::co "law" "law" 2050 867 1 0 0 3 1288 true 1289 .none .none .none (r 1290) 2053::fb (stm 130) "law" (.none) "law_nt0262_01" 2003 1291::k)))
noncomputable def HL (P:Params) (x2 x3 x12 x299 x364:Obj):List Obj:=h0 P x2 x3 x12 (h1 P (h2 P (h3 P (h4 P (h5 P x299 (h6 P (h7 P x364 (h8 P (h9 P (h10 P (h11 P (h12 P (h13 P (h14 P (h15 P (h16 P (h17 P (h18 []))))))))))))))))))
noncomputable def alt:List Obj->Bool->List Obj:=λl=>List.rec (λ_=>[]) (λx _ ih b=>Bool.rec (ih true) (x::ih false) b) l
noncomputable def br:Nat->List Obj->BT:=λn=>Nat.rec (λ_=>.nil) (λ_ ih l=>List.rec .nil (λx r _=>.node x (ih (alt r true)) (ih (alt r false))) l) n
noncomputable def e3 (P:Params):List DictEntry:=[e P "__name__" 165 (z "law_nt0262_01" 2003),e P "__doc__" 166 (.none),e P "__package__" 167 (.none),e P "__loader__" 168 (.builtin "__main__.__loader__#opaque"),e P "__spec__" 169 (.none),e P "__annotations__" 170 (r 6),e P "__builtins__" 171 (r 4),e P "__file__" 173 (z "/claim/cut.py" 172),e P "__cached__" 174 (.none),e P "_wall" 193 (r 21),e P "Special" 224 (r 38),e P "EMPTY" 230 (r 44),e P "UNSPECIFIED" 236 (r 47),e P "EOF" 242 (r 50),e P "Symbol" 273 (r 68),e P "SymbolTable" 351 (r 131),e P "Pair" 382 (r 152),e P "Char" 411 (r 173),e P "Text" 440 (r 194),e P "Vector" 469 (r 215),e P "Box" 498 (r 236),e P "Promise" 529 (r 257),e P "PortRef" 558 (r 278),e P "Procedure" 587 (r 299),e P "Primitive" 613 (r 320),e P "make_text" 619 (r 327),e P "python_text" 625 (r 332),e P "list_of" 635 (r 340),e P "is_boolean" 642 (r 347),e P "SchemeError" 675 (r 364),e P "LexError" 702 (r 384),e P "ReadError" 729 (r 403),e P "TooLong" 754 (r 422),e P "OutOfRange" 783 (r 441),e P "REACH" 789 (j 65536 788),e P "Real" 820 (r 460),e P "is_real" 827 (r 471),e P "size_of" 834 (r 478),e P "sign_of_whole" 841 (r 485),e P "zeros_below" 848 (r 492),e P "lean" 858 (r 499),e P "nearest_shift" 869 (r 506),e P "shifted_round" 879 (r 513),e P "with_sticky" 887 (r 520),e P "rounded" 899 (r 527),e P "exact_parts" 906 (r 534),e P "place_of" 913 (r 541),e P "sign_of" 920 (r 548),e P "magnitude" 927 (r 555),e P "full_mantissa" 936 (r 562),e P "Ratio" 969 (r 579),e P "gcd_of" 977 (r 590),e P "made" 985 (r 597),e P "ratio_of" 994 (r 604),e P "FIGURES_numtext" 998 (z "0123456789abcdef" 997),e P "RADICES" 1011 (r 605),e P "MARKS" 1013 (z "esfdl" 1012),e P "MOST_EXPONENT_FIGURES" 1015 (j 5 1014),e P "MOST_BEFORE_POINT" 1017 (j 21 1016),e P "MOST_NOUGHTS_BEHIND_POINT" 1019 (j 6 1018),e P "figures_of" 1029 (r 612),e P "whole_text" 1037 (r 619),e P "exact_text" 1045 (r 626),e P "Surroundings" 1139 (r 678),e P "with_lower_ones" 1155 (r 689),e P "tens_above" 1163 (r 696),e P "shortest_figures" 1176 (r 703),e P "without_noughts" 1185 (r 710),e P "laid_out" 1195 (r 717),e P "decimal_text" 1206 (r 724),e P "number_text" 1218 (r 732),e P "worth_of" 1228 (r 739),e P "are_figures" 1234 (r 744),e P "parted" 1242 (r 751),e P "Reading" 1275 (r 768),e P "read_whole" 1285 (r 779),e P "read_ratio" 1296 (r 786),e P "are_decimal_parts" 1307 (r 793),e P "read_exponent" 1315 (r 800),e P "mark_place" 1321 (r 805),e P "read_mantissa" 1331 (r 812),e P "read_decimal" 1341 (r 819),e P "read_unsigned" 1349 (r 826),e P "split_prefixes" 1361 (r 833),e P "finished" 1371 (r 840),e P "parse_number" 1387 (r 848),e P "BLANKS" 1391 (z " \n\t\x0d\x0c" 1390),e P "DELIMITERS" 1393 (z " \n\t\x0d\x0c()\";" 1392),e P "RESERVED" 1395 (z "[]{}|" 1394),e P "SMALL" 1397 (z "abcdefghijklmnopqrstuvwxyz" 1396),e P "CAPITALS" 1399 (z "ABCDEFGHIJKLMNOPQRSTUVWXYZ" 1398),e P "FIGURES_lexer" 1401 (z "0123456789" 1400),e P "FIRST_SIGNS" 1403 (z "!$%&*/:<=>?^_~" 1402),e P "LATER_SIGNS" 1405 (z "+-.@" 1404),e P "PECULIAR" 1409 (r 849),e P "PREFIXES" 1411 (z "bodxei" 1410),e P "SIGN_NAMES" 1416 (r 852),e P "QUOTATIONS" 1425 (r 857),e P "Token" 1460 (r 874),e P "folded" 1470 (r 885),e P "is_first" 1477 (r 892),e P "is_later" 1484 (r 899),e P "is_identifier" 1492 (r 906),e P "is_numberlike" 1499 (r 913),e P "sign_named" 1508 (r 920),e P "name_of_sign" 1517 (r 927),e P "Lexer" 1651 (r 1015),e P "NOT_DOTTED" 1655 (j 0 1654),e P "BEHIND_DOT" 1657 (j 1 1656),e P "HAS_TAIL" 1659 (j 2 1658),e P "Frame" 1694 (r 1036),e P "Reader" 1811 (r 1121),e P "read_one" 1825 (r 1133),e P "quotation_sign" 1835 (r 1140),e P "PIECE" 1839 (j 0 1838),e P "DATUM" 1841 (j 1 1840),e P "TAIL" 1843 (j 2 1842),e P "is_readable_symbol" 1850 (r 1147),e P "written_sign" 1858 (r 1154),e P "written_string" 1867 (r 1161),e P "other_text" 1874 (r 1168),e P "Printer" 1967 (r 1227),e P "write_text" 1980 (r 1239),e P "display_text" 1992 (r 1247),e P "is_readable" 2002 (r 1254),e P "_law_marks" 2010 (r 1261),e P "_law_draw" 2018 (r 1268),e P "_law_atom" 2033 (r 1275),e P "_law_next" 2039 (r 1280),e P "_law_bounded" 2049 (r 1287),e P "law" 2055 (r 1292)]
noncomputable def f12:List Value:=[i 1,i 0,r 20,i 5,i 0,r 27,i 12,i 0,r 57,i 17,i 0,r 78,i 47,i 0,r 141,i 52,i 0,r 162,i 56,i 0,r 183,i 60,i 0,r 204,i 64,i 0,r 225,i 68,i 0,r 246,i 73,i 0,r 267,i 77,i 0,r 288,i 81,i 0,r 309,i 86,i 0,r 326,i 88,i 0,r 331,i 90,i 0,r 339,i 95,i 0,r 346,i 98,i 0,r 353,i 103,i 0,r 373,i 109,i 0,r 392,i 115,i 0,r 411,i 120,i 0,r 430,i 129,i 0,r 449,i 134,i 0,r 470,i 136,i 0,r 477,i 138,i 0,r 484,i 140,i 0,r 491,i 142,i 0,r 498,i 149,i 0,r 505,i 154,i 0,r 512,i 159,i 0,r 519,i 161,i 0,r 526,i 170,i 0,r 533,i 174,i 0,r 540,i 176,i 0,r 547,i 178,i 0,r 554,i 180,i 0,r 561,i 184,i 0,r 568,i 189,i 0,r 589,i 194,i 0,r 596,i 196,i 0,r 603,i 208,i 0,r 611,i 216,i 0,r 618,i 218,i 0,r 625,i 222,i 0,r 632,i 258,i 0,r 688,i 268,i 0,r 695,i 271,i 0,r 702,i 279,i 0,r 709,i 282,i 0,r 716,i 292,i 0,r 723,i 298,i 0,r 731,i 305,i 0,r 738,i 310,i 0,r 743,i 312,i 0,r 750,i 315,i 0,r 757,i 321,i 0,r 778,i 326,i 0,r 785,i 334,i 0,r 792,i 340,i 0,r 799,i 345,i 0,r 804,i 348,i 0,r 811,i 357,i 0,r 818,i 368,i 0,r 825,i 374,i 0,r 832,i 386,i 0,r 839,i 393,i 0,r 847,i 417,i 0,r 863,i 424,i 0,r 884,i 430,i 0,r 891,i 432,i 0,r 898,i 434,i 0,r 905,i 443,i 0,r 912,i 445,i 0,r 919,i 450,i 0,r 926,i 455,i 0,r 933,i 576,i 0,r 1025,i 584,i 0,r 1046,i 676,i 0,r 1132,i 685,i 0,r 1139,i 696,i 0,r 1146,i 698,i 0,r 1153,i 701,i 0,r 1160,i 709,i 0,r 1167,i 719,i 0,r 1174,i 797,i 0,r 1238,i 799,i 0,r 1246,i 801,i 0,r 1253,i 817,i 0,r 1260,i 819,i 0,r 1267,i 824,i 0,r 1274,i 845,i 0,r 1279,i 862,i 0,r 1286,i 867,i 0,r 1291]
noncomputable def bl1 (P:Params):Obj:=⟨.none,none,.dict (L []) 0,#[]⟩
noncomputable def v3_0 (P:Params):Obj:=⟨.type "dict",none,.dict (L (((e3 P).set 0 (e P "__name__" 165 (z "__main__" 164))).take 9)) 9,#[]⟩
noncomputable def v12_0 (P:Params):Obj:=⟨.none,none,.fields (L ((f12).take 0)),#[]⟩
noncomputable def aa3 (P:Params):Obj:=⟨.type "type",none,.cls (cd "Procedure" [.type "object"] [r 299,.type "object"] 298 "Procedure" true [r 320]),(L [none,none,some (z "Procedure" 559),some (z "Procedure" 567),some (.builtin "object.__new__"),some (.bool true)])⟩
noncomputable def ad2 (P:Params):Obj:=⟨.type "type",none,.cls (cd "SchemeError" [.type "Exception"] [r 364,.type "Exception",.type "BaseException",.type "object"] 363 "SchemeError" true [r 384,r 403,r 422,r 441]),(L [some (r 348),none,some (z "SchemeError" 645),some (z "SchemeError" 653),some (.builtin "Exception.__new__"),some (.bool true)])⟩
noncomputable def S0 (w:World) (os:OsState):SharedT:=⟨br 11 ((HL w.params (bl1 w.params) (v3_0 w.params) (v12_0 w.params) (aa3 w.params) (ad2 w.params)).take 15),15,{},⟨[]⟩,{},187,os⟩
noncomputable def v3_1 (P:Params):Obj:=⟨.type "dict",none,.dict (L (((e3 P).set 0 (e P "__name__" 165 (z "scheme.data" 194))).take 15)) 15,#[]⟩
noncomputable def v12_1 (P:Params):Obj:=⟨.none,none,.fields (L ((f12).take 9)),#[]⟩
noncomputable def S1 (w:World) (os:OsState):SharedT:=⟨br 11 ((HL w.params (bl1 w.params) (v3_1 w.params) (v12_1 w.params) (aa3 w.params) (ad2 w.params)).take 73),73,{},⟨[]⟩,{},274,os⟩
noncomputable def v3_2 (P:Params):Obj:=⟨.type "dict",none,.dict (L (((e3 P).set 0 (e P "__name__" 165 (z "scheme.data" 194))).take 18)) 18,#[]⟩
noncomputable def v12_2 (P:Params):Obj:=⟨.none,none,.fields (L ((f12).take 18)),#[]⟩
noncomputable def S2 (w:World) (os:OsState):SharedT:=⟨br 11 ((HL w.params (bl1 w.params) (v3_2 w.params) (v12_2 w.params) (aa3 w.params) (ad2 w.params)).take 178),178,{},⟨[]⟩,{},412,os⟩
noncomputable def v3_3 (P:Params):Obj:=⟨.type "dict",none,.dict (L (((e3 P).set 0 (e P "__name__" 165 (z "scheme.data" 194))).take 22)) 22,#[]⟩
noncomputable def v12_3 (P:Params):Obj:=⟨.none,none,.fields (L ((f12).take 30)),#[]⟩
noncomputable def S3 (w:World) (os:OsState):SharedT:=⟨br 11 ((HL w.params (bl1 w.params) (v3_3 w.params) (v12_3 w.params) (aa3 w.params) (ad2 w.params)).take 262),262,{},⟨[]⟩,{},530,os⟩
noncomputable def v3_4 (P:Params):Obj:=⟨.type "dict",none,.dict (L (((e3 P).set 0 (e P "__name__" 165 (z "scheme.errors" 643))).take 29)) 29,#[]⟩
noncomputable def v12_4 (P:Params):Obj:=⟨.none,none,.fields (L ((f12).take 51)),#[]⟩
noncomputable def S4 (w:World) (os:OsState):SharedT:=⟨br 11 ((HL w.params (bl1 w.params) (v3_4 w.params) (v12_4 w.params) (aa3 w.params) (ad2 w.params)).take 348),348,{},⟨[]⟩,{},645,os⟩
noncomputable def b67 (P:Params):Obj:=⟨.none,none,.dict (L [e P "type.__subclasses__.Exception.0" 672 (i 364),e P "type.__subclasses__.Exception.n" 673 (i 1)]) 2,#[]⟩
noncomputable def v3_5 (P:Params):Obj:=⟨.type "dict",none,.dict (L (((e3 P).set 0 (e P "__name__" 165 (z "scheme.errors" 643))).take 33)) 33,#[]⟩
noncomputable def v12_5 (P:Params):Obj:=⟨.none,none,.fields (L ((f12).take 63)),#[]⟩
noncomputable def bl0 (P:Params):Obj:=⟨.type "type",none,.cls (cd "SchemeError" [.type "Exception"] [r 364,.type "Exception",.type "BaseException",.type "object"] 363 "SchemeError" true [r 384,r 403,r 422]),(L [some (r 348),none,some (z "SchemeError" 645),some (z "SchemeError" 653),some (.builtin "Exception.__new__"),some (.bool true)])⟩
noncomputable def S5 (w:World) (os:OsState):SharedT:=⟨br 11 ((HL w.params (b67 w.params) (v3_5 w.params) (v12_5 w.params) (aa3 w.params) (bl0 w.params)).take 425),425,{},⟨[]⟩,{},755,os⟩
noncomputable def v3_6 (P:Params):Obj:=⟨.type "dict",none,.dict (L (((e3 P).set 0 (e P "__name__" 165 (z "scheme.exact" 937))).take 50)) 50,#[]⟩
noncomputable def v12_6 (P:Params):Obj:=⟨.none,none,.fields (L ((f12).take 111)),#[]⟩
noncomputable def S6 (w:World) (os:OsState):SharedT:=⟨br 11 ((HL w.params (b67 w.params) (v3_6 w.params) (v12_6 w.params) (aa3 w.params) (ad2 w.params)).take 563),563,{},⟨[]⟩,{},939,os⟩
noncomputable def v3_7 (P:Params):Obj:=⟨.type "dict",none,.dict (L (((e3 P).set 0 (e P "__name__" 165 (z "scheme.numtext" 995))).take 65)) 65,#[]⟩
noncomputable def v12_7 (P:Params):Obj:=⟨.none,none,.fields (L ((f12).take 138)),#[]⟩
noncomputable def S7 (w:World) (os:OsState):SharedT:=⟨br 11 ((HL w.params (b67 w.params) (v3_7 w.params) (v12_7 w.params) (aa3 w.params) (ad2 w.params)).take 690),690,{},⟨[]⟩,{},1156,os⟩
noncomputable def v3_8 (P:Params):Obj:=⟨.type "dict",none,.dict (L (((e3 P).set 0 (e P "__name__" 165 (z "scheme.lexer" 1388))).take 97)) 97,#[]⟩
noncomputable def v12_8 (P:Params):Obj:=⟨.none,none,.fields (L ((f12).take 201)),#[]⟩
noncomputable def S8 (w:World) (os:OsState):SharedT:=⟨br 11 ((HL w.params (b67 w.params) (v3_8 w.params) (v12_8 w.params) (aa3 w.params) (ad2 w.params)).take 853),853,{},⟨[]⟩,{},1417,os⟩
noncomputable def v3_9 (P:Params):Obj:=⟨.type "dict",none,.dict (L (((e3 P).set 0 (e P "__name__" 165 (z "scheme.lexer" 1388))).take 106)) 106,#[]⟩
noncomputable def v12_9 (P:Params):Obj:=⟨.none,none,.fields (L ((f12).take 225)),#[]⟩
noncomputable def S9 (w:World) (os:OsState):SharedT:=⟨br 11 ((HL w.params (b67 w.params) (v3_9 w.params) (v12_9 w.params) (aa3 w.params) (ad2 w.params)).take 928),928,{},⟨[]⟩,{},1518,os⟩
noncomputable def v3_10 (P:Params):Obj:=⟨.type "dict",none,.dict (L (((e3 P).set 0 (e P "__name__" 165 (z "scheme.reader" 1652))).take 111)) 111,#[]⟩
noncomputable def bl3 (P:Params):Obj:=⟨.none,none,.fields (L ((f12).take 231)),#[]⟩
noncomputable def S10 (w:World) (os:OsState):SharedT:=⟨br 11 ((HL w.params (b67 w.params) (v3_10 w.params) (bl3 w.params) (aa3 w.params) (ad2 w.params)).take 1041),1041,{},⟨[]⟩,{},1695,os⟩
noncomputable def v3_11 (P:Params):Obj:=⟨.type "dict",none,.dict (L (((e3 P).set 0 (e P "__name__" 165 (z "scheme.printer" 1836))).take 121)) 121,#[]⟩
noncomputable def bl2 (P:Params):Obj:=⟨.none,none,.fields (L ((f12).take 252)),#[]⟩
noncomputable def S11 (w:World) (os:OsState):SharedT:=⟨br 11 ((HL w.params (b67 w.params) (v3_11 w.params) (bl2 w.params) (aa3 w.params) (ad2 w.params)).take 1169),1169,{},⟨[]⟩,{},1875,os⟩
noncomputable def bk9 (P:Params):Obj:=⟨.type "dict",none,.dict (L ((e3 P).take 131)) 131,#[]⟩
noncomputable def bb1 (P:Params):Obj:=⟨.none,none,.fields (L f12),#[]⟩
noncomputable def S12 (w:World) (os:OsState):SharedT:=⟨br 11 ((HL w.params (b67 w.params) (bk9 w.params) (bb1 w.params) (aa3 w.params) (ad2 w.params)).take 1293),1293,{},⟨[]⟩,{},2056,os⟩
noncomputable def bd:List Stmt:=behindTheImports pg
noncomputable def env:Env:={scope:=pg.main.scope,locals:=mainNs,globals:=mainNs,cells:=[],code:=.ref 13,frame:=some 14}
noncomputable abbrev q0:Pos:=⟨0,0,0,0⟩
noncomputable abbrev cE:Code:=.body bd env
noncomputable abbrev th (l:List Stmt) (p:Pos):Thread:=piecesOf l env cE p [topFrame q0]
noncomputable abbrev go (w:World) (n:Nat) (s:SharedT) (t:Thread):=PySem.W.Fast.tw10110043849684766642 PySem.W.Fast.tw14364793385576792824 pg w 11 (some (.ref 6)) 1 n s t
theorem of_go {w:World} {n:Nat} {s:SharedT} {t:Thread} {x:Option (Flow × SharedT × Code × Pos)} (h:go w n s t=x):segRunT treeTable pg w 11 (some (.ref 6)) 1 n s t=x:=by
 have e1:=PySem.W.Fast.te10110043849684766642
 have e2:=PySem.W.Fast.te14364793385576792824
 rw[e1,e2]
 exact h
end
end Mine.Hd
end
section
namespace Mine.Hd
theorem g0 (w:World):(λos=>go w 794 (S0 w os) (th ((bd.drop 0).take 7) ⟨0,0,0,0⟩))=λos=>some (Flow.next,S1 w os,cE,⟨12,0,16,24⟩):=by kernel_rfl
theorem g1 (w:World):(λos=>go w 862 (S1 w os) (th ((bd.drop 7).take 3) ⟨12,0,16,24⟩))=λos=>some (Flow.next,S2 w os,cE,⟨52,0,55,24⟩):=by kernel_rfl
theorem g2 (w:World):(λos=>go w 891 (S2 w os) (th ((bd.drop 10).take 4) ⟨52,0,55,24⟩))=λos=>some (Flow.next,S3 w os,cE,⟨68,0,72,30⟩):=by kernel_rfl
theorem g3 (w:World):(λos=>go w 816 (S3 w os) (th ((bd.drop 14).take 8) ⟨68,0,72,30⟩))=λos=>some (Flow.next,S4 w os,cE,⟨97,0,97,8⟩):=by kernel_rfl
theorem g4 (w:World):(λos=>go w 970 (S4 w os) (th ((bd.drop 22).take 4) ⟨97,0,97,8⟩))=λos=>some (Flow.next,S5 w os,cE,⟨115,0,119,26⟩):=by kernel_rfl
theorem g5 (w:World):(λos=>go w 931 (S5 w os) (th ((bd.drop 26).take 19) ⟨115,0,119,26⟩))=λos=>some (Flow.next,S6 w os,cE,⟨183,0,183,8⟩):=by kernel_rfl
theorem g6 (w:World):(λos=>go w 977 (S6 w os) (th ((bd.drop 45).take 16) ⟨183,0,183,8⟩))=λos=>some (Flow.next,S7 w os,cE,⟨258,0,267,25⟩):=byRow2 "special-get-raises" (P:=λw=>(λos=>go w 977 (S6 w os) (th ((bd.drop 45).take 16) ⟨183,0,183,8⟩))=λos=>some (Flow.next,S7 w os,cE,⟨258,0,267,25⟩)) (λw=>by kernel_rfl) (λw=>by kernel_rfl) w
theorem g7 (w:World):(λos=>go w 985 (S7 w os) (th ((bd.drop 61).take 33) ⟨258,0,267,25⟩))=λos=>some (Flow.next,S8 w os,cE,⟨415,0,415,10⟩):=by kernel_rfl
theorem g8 (w:World):(λos=>go w 466 (S8 w os) (th ((bd.drop 94).take 9) ⟨415,0,415,10⟩))=λos=>some (Flow.next,S9 w os,cE,⟨450,0,454,15⟩):=by kernel_rfl
theorem g9 (w:World):(λos=>go w 833 (S9 w os) (th ((bd.drop 103).take 6) ⟨450,0,454,15⟩))=λos=>some (Flow.next,S10 w os,cE,⟨576,0,583,25⟩):=by kernel_rfl
theorem g10 (w:World):(λos=>go w 752 (S10 w os) (th ((bd.drop 109).take 11) ⟨576,0,583,25⟩))=λos=>some (Flow.next,S11 w os,cE,⟨709,0,718,76⟩):=by kernel_rfl
theorem g11 (w:World):(λos=>go w 722 (S11 w os) (th ((bd.drop 120).take 11) ⟨709,0,718,76⟩))=λos=>some (Flow.next,S12 w os,cE,⟨867,0,889,103⟩):=by kernel_rfl
end Mine.Hd
end
section
namespace Mine.Hd
theorem opens:opening pg=plainProg pg.main.scope.names:=by kernel_rfl
theorem fence (s:Shared):fenceModules? pg s=some s:=by kernel_rfl
noncomputable abbrev B:List Frame:=[topFrame q0]
theorem pre (w:World) (os:OsState):topGo treeTable pg w 11 (some (.ref 6)) 12 ⟨boot_heap w.params,⟨[]⟩,boot_drawn,boot_toks,os⟩ (topStub pg)=some ((S0 w os).abs,⟨denote treeTable cE,cE,⟨0,0,0,0⟩,B⟩):=by
 rw[PySem.W.Fast.te15667345088766844465,PySem.W.Fast.te11892475500146522536,PySem.W.Fast.te14364793385576792824]
 kernel_rfl
theorem block (w:World) (os:OsState):segRun treeTable pg w 11 (some (.ref 6)) 1 1 (S0 w os).abs (blockOf bd env cE ⟨0,0,0,0⟩ B)=some (.next,(S0 w os).abs,cE,⟨0,0,0,0⟩):=by
 rw[PySem.W.Fast.te14374325043358763698,PySem.W.Fast.te14364793385576792824]
 kernel_rfl
theorem fin (w:World) (os:OsState):topRun treeTable pg w 11 (some (.ref 6)) 2 (S12 w os).abs ⟨doneF .next,cE,⟨867,0,889,103⟩,B⟩=some (S12 w os).abs:=by
 rw[PySem.W.Fast.te14082659384304107361,PySem.W.Fast.te14364793385576792824]
 kernel_rfl
theorem app {w:World} {os:OsState} {n N a c a':Nat} {p p':Pos} {s s':World->OsState->SharedT} {r:Shared} (h:(λos=>go w n (s w os) (th ((bd.drop a).take c) p))=λos=>some (Flow.next,s' w os,cE,p')) (ha:a+c=a')
  (k:topRun treeTable pg w 11 (some (.ref 6)) N (s' w os).abs (restOf (bd.drop a') env cE p' B)=some r):topRun treeTable pg w 11 (some (.ref 6)) (n+N) (s w os).abs (restOf (bd.drop a) env cE p B)=some r:=by
 have h1:=segRun_of (of_go (congrFun h os))
 have h2:=piece_app (rest:=bd.drop a') h1 k
 rw[<-ha,<-List.drop_drop,List.take_append_drop] at h2
 exact h2
theorem ba0:bd.drop 131=[]:=by kernel_rfl
noncomputable def HP (P:Params):Heap:=absHeap (S12 ⟨λ_ _=>0,P⟩ default).tree 1293 {}
theorem run (w:World) (os:OsState):topRun treeTable pg w 11 (some (.ref 6)) (12+(1+(794+(862+(891+(816+(970+(931+(977+(985+(466+(833+(752+(722+2)))))))))))))) ⟨boot_heap w.params,⟨[]⟩,boot_drawn,boot_toks,os⟩ (topStub pg)=some ⟨HP w.params,⟨[]⟩,{},2056,os⟩:=
 go_top (pre w os) (piece_block (block w os) (app (a:=0) (s:=S0) (s':=S1) (g0 w) (a':=7) (by decide) (app (a:=7) (s:=S1) (s':=S2) (g1 w) (a':=10) (by decide) (app (a:=10) (s:=S2) (s':=S3) (g2 w) (a':=14) (by decide) (app (a:=14) (s:=S3) (s':=S4) (g3 w) (a':=22) (by decide) (app (a:=22) (s:=S4) (s':=S5) (g4 w) (a':=26) (by decide) (app (a:=26) (s:=S5) (s':=S6) (g5 w) (a':=45) (by decide) (app (a:=45) (s:=S6) (s':=S7) (g6 w) (a':=61) (by decide) (app (a:=61) (s:=S7) (s':=S8) (g7 w) (a':=94) (by decide) (app (a:=94) (s:=S8) (s':=S9) (g8 w) (a':=103) (by decide) (app (a:=103) (s:=S9) (s':=S10) (g9 w) (a':=109) (by decide) (app (a:=109) (s:=S10) (s':=S11) (g10 w) (a':=120) (by decide) (app (a:=120) (s:=S11) (s':=S12) (g11 w) (a':=131) (by decide) (by rw[ba0];exact piece_nil (fin w os)))))))))))))))
end Mine.Hd
end
section
namespace Mine.Hd
noncomputable def HF (P:Params):Heap:=⟨⟨HL P (b67 P) (bk9 P) (bb1 P) (aa3 P) (ad2 P)⟩,{}⟩
theorem bh1 (P:Params):HP P=HF P:=by kernel_rfl
noncomputable def q:Program:=view pg [130]
noncomputable def loose:List Str:=[Str.ofString "_wall",Str.ofString "Special",Str.ofString "EMPTY",Str.ofString "UNSPECIFIED",Str.ofString "EOF",Str.ofString "Symbol",Str.ofString "SymbolTable",Str.ofString "Pair",Str.ofString "Char",Str.ofString "Text",Str.ofString "Vector",Str.ofString "Box",Str.ofString "Promise",Str.ofString "PortRef",Str.ofString "Procedure",Str.ofString "Primitive",Str.ofString "make_text",Str.ofString "python_text",Str.ofString "list_of",Str.ofString "is_boolean",Str.ofString "SchemeError",Str.ofString "LexError",Str.ofString "ReadError",Str.ofString "TooLong",Str.ofString "OutOfRange",Str.ofString "REACH",Str.ofString "Real",Str.ofString "is_real",Str.ofString "size_of",Str.ofString "sign_of_whole",Str.ofString "zeros_below",Str.ofString "lean",Str.ofString "nearest_shift",Str.ofString "shifted_round",Str.ofString "with_sticky",Str.ofString "rounded",Str.ofString "exact_parts",Str.ofString "place_of",Str.ofString "sign_of",Str.ofString "magnitude",Str.ofString "full_mantissa",Str.ofString "Ratio",Str.ofString "gcd_of",Str.ofString "made",Str.ofString "ratio_of",Str.ofString "FIGURES_numtext",Str.ofString "RADICES",Str.ofString "MARKS",Str.ofString "MOST_EXPONENT_FIGURES",Str.ofString "MOST_BEFORE_POINT",Str.ofString "MOST_NOUGHTS_BEHIND_POINT",Str.ofString "figures_of",Str.ofString "whole_text",Str.ofString "exact_text",Str.ofString "Surroundings",Str.ofString "with_lower_ones",Str.ofString "tens_above",Str.ofString "shortest_figures",Str.ofString "without_noughts",Str.ofString "laid_out",Str.ofString "decimal_text",Str.ofString "number_text",Str.ofString "worth_of",Str.ofString "are_figures",Str.ofString "parted",Str.ofString "Reading",Str.ofString "read_whole",Str.ofString "read_ratio",Str.ofString "are_decimal_parts",Str.ofString "read_exponent",Str.ofString "mark_place",Str.ofString "read_mantissa",Str.ofString "read_decimal",Str.ofString "read_unsigned",Str.ofString "split_prefixes",Str.ofString "finished",Str.ofString "parse_number",Str.ofString "BLANKS",Str.ofString "DELIMITERS",Str.ofString "RESERVED",Str.ofString "SMALL",Str.ofString "CAPITALS",Str.ofString "FIGURES_lexer",Str.ofString "FIRST_SIGNS",Str.ofString "LATER_SIGNS",Str.ofString "PECULIAR",Str.ofString "PREFIXES",Str.ofString "SIGN_NAMES",Str.ofString "QUOTATIONS",Str.ofString "Token",Str.ofString "folded",Str.ofString "is_first",Str.ofString "is_later",Str.ofString "is_identifier",Str.ofString "is_numberlike",Str.ofString "sign_named",Str.ofString "name_of_sign",Str.ofString "Lexer",Str.ofString "NOT_DOTTED",Str.ofString "BEHIND_DOT",Str.ofString "HAS_TAIL",Str.ofString "Frame",Str.ofString "Reader",Str.ofString "read_one",Str.ofString "quotation_sign",Str.ofString "PIECE",Str.ofString "DATUM",Str.ofString "TAIL",Str.ofString "is_readable_symbol",Str.ofString "written_sign",Str.ofString "written_string",Str.ofString "other_text",Str.ofString "Printer",Str.ofString "write_text",Str.ofString "display_text",Str.ofString "is_readable",Str.ofString "_law_marks",Str.ofString "_law_draw",Str.ofString "_law_atom",Str.ofString "_law_next",Str.ofString "_law_bounded"]
noncomputable def as:List Addr:=[3,2,0,38,68,131,152,173,194,215,236,257,278,299,320,364,384,403,422,441,460,579,678,768,874,1015,1036,1121,1227,37,67,130,151,172,193,214,235,256,277,298,319,363,383,402,421,440,459,578,677,767,873,1014,1035,1120,1226,44,43,47,46,50,49,333,725,841,935,1048,1126,1232,1240,849,850,851,852,853,854,855,856,857,21,35,65,86,93,100,107,114,121,128,149,170,191,212,233,254,275,296,317,327,332,340,347,361,381,400,419,438,457,471,478,485,492,499,506,513,520,527,534,541,548,555,562,576,590,597,604,612,619,626,640,647,654,661,668,675,689,696,703,710,717,724,732,739,744,751,765,779,786,793,800,805,812,819,826,833,840,848,871,885,892,899,906,913,920,927,942,949,956,963,970,977,984,991,998,1005,1012,1033,1055,1062,1069,1076,1083,1090,1097,1104,1111,1118,1133,1140,1147,1154,1161,1168,1182,1189,1196,1203,1210,1217,1224,1239,1247,1254,1261,1268,1275,1280,1287,1292,9,13,20,27,34,57,64,78,85,92,99,106,113,120,127,141,148,162,169,183,190,204,211,225,232,246,253,267,274,288,295,309,316,326,331,339,346,353,360,373,380,392,399,411,418,430,437,449,456,470,477,484,491,498,505,512,519,526,533,540,547,554,561,568,575,589,596,603,611,618,625,632,639,646,653,660,667,674,688,695,702,709,716,723,731,738,743,750,757,764,778,785,792,799,804,811,818,825,832,839,847,863,870,884,891,898,905,912,919,926,933,941,948,955,962,969,976,983,990,997,1004,1011,1025,1032,1046,1054,1061,1068,1075,1082,1089,1096,1103,1110,1117,1132,1139,1146,1153,1160,1167,1174,1181,1188,1195,1202,1209,1216,1223,1238,1246,1253,1260,1267,1274,1279,1286,1291]
noncomputable def K (P:Params):Frag:=as.map λa=>(a,((HF P).objs.toList[a]?).getD t0)
theorem as_K (P:Params):as=(K P).map (·.1):=by kernel_rfl
noncomputable abbrev sF (w:World) (os:OsState):Shared:=⟨HF w.params,⟨[]⟩,{},2056,os⟩
noncomputable abbrev mods:List Str:=importedModules pg.main.body
noncomputable abbrev Xt:Shared->Bool:=λ_=>true
theorem lk0 (w:World) (os:OsState):(staticsOk mods (boot_heap w.params) (HF w.params)&&namesBound pg (HF w.params)&&gensDone (sF w os)&&laidKept (boot_heap w.params) (HF w.params))=true:=by kernel_rfl
theorem lk1 (w:World) (os:OsState):seen ((recsOf q).map (·.name)) (ownsOf q) [] {sF w os with gens:=#[]}=expectedOf q:=by
 rw[PySem.W.Fast.te5160383126252970620,PySem.W.Fast.te5991557255702980513,PySem.W.Fast.te3399658132070893891]
 kernel_rfl
theorem lk2 (w:World) (os:OsState):(sF w os).heap.bltView=bltViewBooted:=by kernel_rfl
theorem lk3 (w:World) (os:OsState):((sF w os).heap.keysOk (looseW q loose) ((recsOf q).map (·.name)) ((litsOf q).map (·.1)) ((clssOf q (looseW q loose)).map (·.name))&&(sF w os).heap.accountedOkI mods&&(sF w os).heap.isNs mainGlobals&&(sF w os).heap.isNs builtinsNs&&tablesOk q (sF w os).heap&&Xt (sF w os)&&(if true then (sF w os).gens.size==0 else !leftWithCleanup (sF w os).gens))=true:=by
 rw[PySem.W.Fast.te10880121769531294198,PySem.W.Fast.te821141287760084731,PySem.W.Fast.te14722251495701143533,PySem.W.Fast.te10994771534591457954,PySem.W.Fast.te7409074990110511671,PySem.W.Fast.te13664370479719496447,PySem.W.Fast.te3399658132070893891]
 kernel_rfl
theorem lk4 (w:World) (os:OsState):tabsOk q (sF w os)=true:=by
 rw[PySem.W.Fast.te479339242167458305]
 kernel_rfl
theorem lk5 (w:World) (os:OsState):pinSeenD q (drecsOf q) (sF w os)=pinGoodD (drecsOf q):=by
 rw[PySem.W.Fast.te16090120013241838585]
 kernel_rfl
theorem lk6 (w:World) (os:OsState):plainSeenE q (looseW q loose) (sF w os)=plainGoodE q (looseW q loose):=by
 rw[PySem.W.Fast.te2386780881361962483,PySem.W.Fast.te821141287760084731]
 kernel_rfl
theorem lk7 (w:World) (os:OsState):plainSeenD q loose (sF w os)=plainGoodD q loose:=by
 rw[PySem.W.Fast.te11698064438423848299]
 kernel_rfl
theorem lk8 (w:World) (os:OsState):wideSeen q (sF w os)=wideGood q:=by
 rw[PySem.W.Fast.te7317090234206586261]
 kernel_rfl
theorem lk9 (w:World) (os:OsState):clsSeenW q loose (sF w os)=clsGoodW q loose:=by
 rw[PySem.W.Fast.te7369524293546568484]
 kernel_rfl
theorem hfl (P:Params):(HF P).objs.toList.length=1293:=by kernel_rfl
theorem hal (P:Params):(HF P).objs.toList.all (λo=>o.alive)=true:=by kernel_rfl
theorem as_lt:as.all (λa=>Nat.ble (a+1) 1293)=true:=by kernel_rfl
theorem lkK (w:World) (os:OsState):as.map (sF w os).heap.get?=(K w.params).map λp=>some p.2:=by
 unfold K
 rw[List.map_map]
 refine List.map_inj_left.mpr λa ha=>?_
 have hl:a<(HF w.params).objs.toList.length:=by rw[hfl];exact Nat.le_of_ble_eq_true (List.all_eq_true.mp as_lt a ha)
 have e:=List.getElem?_eq_getElem hl
 show (HF w.params).get? a=some (((HF w.params).objs.toList[a]?).getD t0)
 rw[e]
 exact (Heap.get?_eq_some _ _ _).mpr ⟨Array.getElem?_toList.symm.trans e,List.all_eq_true.mp (hal w.params) _ (List.getElem_mem hl)⟩
theorem size (w:World):((boot_heap w.params).isNs mainGlobals&&(Array.mk []:Array GenState).size==0,(boot_heap w.params).objs.size,(boot_heap w.params).nsMap mainGlobals "__annotations__")=(true,11,some (.ref 6)):=by kernel_rfl
end Mine.Hd
end
section
namespace Mine.Hd
noncomputable abbrev H:Hook:=kHook K as as_K
noncomputable abbrev rw1:OpenLaw:=PySem.Challenge.rw_nt0262_01
theorem lks (w:World) (os:OsState):openSeen q loose mods Xt true (sF w os)=openGood q loose:=by
 unfold openSeen openGood
 exact looks_pair (lk1 w os) (looks_pair (lk2 w os) (looks_pair (lk3 w os) (looks_pair (lk4 w os) (looks_pair (lk5 w os) (looks_pair (lk6 w os) (looks_pair (lk7 w os) (looks_pair (lk8 w os) (lk9 w os))))))))
theorem left:LeftO pg q loose Xt H.obs H.val 20000:=
 LeftO.of_pieces (H₀:=boot_heap) (H₁:=HF) (gs₀:=⟨[]⟩) (gs₁:=⟨[]⟩) (d₀:=boot_drawn) (d₁:={}) (k₀:=boot_toks) (k₁:=2056) (m₀:=11) (ann:=some (.ref 6))
  (boot_open opens (by decide) fence) size (λw os=>by rw[<-bh1];exact run w os) (by decide)
  (λw=>by
   funext os
   exact looks_pair (lk0 w os) (looks_pair (lks w os) (lkK w os)))
noncomputable def dk:DefRec × List (Str × Expr):=(defOf q "law").getD ⟨⟨"",{posonlyargs:=[],args:=[],vararg:=none,kwonlyargs:=[],kw_defaults:=[],kwarg:=none,defaults:=[]},[],{kind:=.function,names:=[],isGenerator:=false,isCoroutine:=false,more:=[]},⟨0,0,0,0⟩⟩,[]⟩
theorem hdef:defOf q rw1.row.name=some (dk.1,dk.2):=by kernel_rfl
theorem hp:rw1.row.prog.theDef rw1.row.name=some (dk.1.params,dk.1.body,dk.1.scope):=by kernel_rfl
theorem hk:kwWritten? dk.1.params.kwonlyargs dk.1.params.kw_defaults=some dk.2:=by kernel_rfl
noncomputable abbrev rl:OpenLaw:=PySem.Challenge.rw_nt0262_01
theorem p1a:sreFenced pg.main=true:=by kernel_rfl
theorem p1b:((moduleNames pg.main.body).isEmpty||lookedIntoSs (moduleNames pg.main.body) pg.main.body)=true:=by kernel_rfl
theorem p2:namesResolve pg=true:=by kernel_rfl
theorem p3:pg.boundNames.all (λn=>!worldNames.contains n)=true:=by kernel_rfl
theorem p4:noRoadLSs {strict:=!(importedModules pg.main.body).all cThrough.contains,foot:=none,bare:=(["vars","dir","locals"]:List Str).filter (readsOut pg pg.main.body)} pg.main.body=true:=by kernel_rfl
theorem p5:(namesMeet pg pg.main.body λ_ n=>attrL n)=true:=by kernel_rfl
theorem p8:rl.row.prog.boundNames.contains rl.row.name=true:=by kernel_rfl
theorem c1:(decide (rl.foot<=(behindTheImports rl.prog).length))=true:=by kernel_rfl
theorem c1b:rl.footing.all footLine=true:=by kernel_rfl
theorem c2:noClassBlock rl.prog rl.footing=true:=by kernel_rfl
theorem c3:noRoadLSs {strict:=true,foot:=some rl.bound',writes:=rl.writes,may:=rl.may} rl.footing=true:=by kernel_rfl
theorem c4:defStands rl.about rl.above=true:=by kernel_rfl
theorem c5:rl.namesIt=true:=by kernel_rfl
theorem c6:(["type","isinstance","issubclass","getattr","hasattr"]:List Str).all (λn=>rl.about !=[n])=true:=by kernel_rfl
theorem c7:rl.bound'.all (λn=>!builtinNamed n||rl.about==[n]|| !rl.reads n)=true:=by kernel_rfl
theorem c8:(!rl.writes||(rl.prog.main.body.flatMap importedNames).all λn=>!rl.reads n)=true:=by kernel_rfl
theorem c9:((rl.prog.main.body.flatMap importedNames).all (λn=>!rl.reads n||(drawsOf n rl.prog.main.body).all λmn=>mn.2 !=("attrgetter":Str)&&mn.2 !=("methodcaller":Str)))=true:=by kernel_rfl
theorem c10:namesMeet rl.prog rl.footing (λsc n=>(!(["type","isinstance","issubclass","getattr","hasattr"]:List Str).contains n||sc.names.lookup n==some .globalImplicit)&&
  (rl.may !=some n||sc.kind== .module||sc.names.lookup n==some .globalImplicit))=true:=by kernel_rfl
theorem c11:rl.own.contains rl.name=true:=by kernel_rfl
theorem c12:(rl.own.eraseDups.length==rl.own.length)=true:=by kernel_rfl
theorem c13:rl.own.all (λn=>!builtinNamed n)=true:=by kernel_rfl
theorem c14:namesMeet rl.prog rl.above (λ_ n=>!rl.own.contains n)=true:=by kernel_rfl
theorem c15:(namesMeet rl.prog rl.footing λsc n=>sc.kind== .module||sc.names.lookup n !=some .globalExplicit)=true:=by kernel_rfl
theorem lk_:looksOpen rl.row.prog=true:=(look_both (look_both (look_both (look_both (look_both p1a p1b) p2) p3) p4) p5)
theorem part_:rl.row.partSaid=true:=by
 unfold OpenRow.partSaid
 exact (look_both (look_both (look_both (look_both (look_both (look_both (look_both (look_both (look_both (look_both (look_both (look_both (look_both lk_ rfl) rfl) (by kernel_rfl)) (by kernel_rfl)) (by kernel_rfl)) (by kernel_rfl)) (by kernel_rfl)) (by kernel_rfl)) (by kernel_rfl)) (by kernel_rfl)) (by kernel_rfl)) (by kernel_rfl)) (by kernel_rfl))
theorem row_:rl.row.wellSaid=true:=by
 unfold OpenRow.wellSaid
 exact (look_both (look_both part_ p8) (by kernel_rfl))
theorem ws:rl.wellSaid=true:=by
 unfold OpenLaw.wellSaid
 exact (look_both (look_both (look_both (look_both (look_both (look_both (look_both (look_both (look_both (look_both (look_both (look_both (look_both (look_both (look_both (look_both (look_both (look_both row_ c1) c1b) c2) (by kernel_rfl)) (by kernel_rfl)) c3) c4) c5) c6) c7) c8) c9) c10) c11) c12) c13) c14) c15)
theorem ow:opensWell pg=true:=by kernel_rfl
theorem fr_:(frees rl.row.toRowW&&rl.row.within.isEmpty)=true:=by kernel_rfl
theorem ch:chainsOk q=true:=by kernel_rfl
theorem ok:(chainsOk q&&opensWell rw1.row.prog&&(frees rw1.row.toRowW&&rw1.row.within.isEmpty))=true:=look_both (look_both ch ow) fr_
theorem bare:rw1.row.prog.bare:=⟨rfl,rfl,rfl,rfl,rfl,by kernel_rfl⟩
theorem promised:rw1.row.toRowW.promised:=⟨[.list []],by decide+kernel,by decide+kernel⟩
theorem holds (walk:WalkO q loose (λ_ _=>True) H.says rw1.row.toRowW dk.1 dk.2 λf vs=>PySem.call f vs):rw1.Holds:=
 holds_law ws λsaid=>W.holds_open (r:=rw1.row) (q:=q) (loose:=loose) (Xt:=Xt) (XP:=λ_ _=>True) (Yf:=H.obs) (Ya:=H.val) (YP:=H.says) (N:=20000)
  left H.of H.keeps (λ_ _=>trivial) (λ_ _ _ _ _=>trivial) hdef hp hk (λ_ _=>recFacts_nil rfl) rfl said ok bare promised walk
end Mine.Hd
end

namespace Mine
section
inductive X2 {α β:Type} (p:α->β->Prop):Prop |mk (x1:α) (x2:β):p x1 x2->X2 p
inductive X3 {α β γ:Type} (p:α->β->γ->Prop):Prop |mk (x1:α) (x2:β) (x3:γ):p x1 x2 x3->X3 p
inductive X4 {α β γ δ:Type} (p:α->β->γ->δ->Prop):Prop |mk (x1:α) (x2:β) (x3:γ) (x4:δ):p x1 x2 x3 x4->X4 p
inductive X5 {α β γ δ ε:Type} (p:α->β->γ->δ->ε->Prop):Prop |mk (x1:α) (x2:β) (x3:γ) (x4:δ) (x5:ε):p x1 x2 x3 x4 x5->X5 p
inductive X6 {α β γ δ ε ζ:Type} (p:α->β->γ->δ->ε->ζ->Prop):Prop |mk (x1:α) (x2:β) (x3:γ) (x4:δ) (x5:ε) (x6:ζ):p x1 x2 x3 x4 x5 x6->X6 p
inductive X7 {α β γ δ ε ζ η:Type} (p:α->β->γ->δ->ε->ζ->η->Prop):Prop |mk (x1:α) (x2:β) (x3:γ) (x4:δ) (x5:ε) (x6:ζ) (x7:η):p x1 x2 x3 x4 x5 x6 x7->X7 p
inductive X8 {α β γ δ ε ζ η θ:Type} (p:α->β->γ->δ->ε->ζ->η->θ->Prop):Prop |mk (x1:α) (x2:β) (x3:γ) (x4:δ) (x5:ε) (x6:ζ) (x7:η) (x8:θ):p x1 x2 x3 x4 x5 x6 x7 x8->X8 p
inductive X9 {α β γ δ ε ζ η θ ι:Type} (p:α->β->γ->δ->ε->ζ->η->θ->ι->Prop):Prop |mk (x1:α) (x2:β) (x3:γ) (x4:δ) (x5:ε) (x6:ζ) (x7:η) (x8:θ) (x9:ι):p x1 x2 x3 x4 x5 x6 x7 x8 x9->X9 p
inductive X11 {α β γ δ ε ζ η θ ι κ μ:Type} (p:α->β->γ->δ->ε->ζ->η->θ->ι->κ->μ->Prop):Prop |mk (x1:α) (x2:β) (x3:γ) (x4:δ) (x5:ε) (x6:ζ) (x7:η) (x8:θ) (x9:ι) (x10:κ) (x11:μ):p x1 x2 x3 x4 x5 x6 x7 x8 x9 x10 x11->X11 p
inductive X13 {α β γ δ ε ζ η θ ι κ μ ν ξ:Type} (p:α->β->γ->δ->ε->ζ->η->θ->ι->κ->μ->ν->ξ->Prop):Prop |mk (x1:α) (x2:β) (x3:γ) (x4:δ) (x5:ε) (x6:ζ) (x7:η) (x8:θ) (x9:ι) (x10:κ) (x11:μ) (x12:ν) (x13:ξ):p x1 x2 x3 x4 x5 x6 x7 x8 x9 x10 x11 x12 x13->X13 p
inductive A3 (p1 p2 p3:Prop):Prop |mk:p1->p2->p3->A3 p1 p2 p3
inductive A4 (p1 p2 p3 p4:Prop):Prop |mk:p1->p2->p3->p4->A4 p1 p2 p3 p4
inductive A5 (p1 p2 p3 p4 p5:Prop):Prop |mk:p1->p2->p3->p4->p5->A5 p1 p2 p3 p4 p5
inductive A6 (p1 p2 p3 p4 p5 p6:Prop):Prop |mk:p1->p2->p3->p4->p5->p6->A6 p1 p2 p3 p4 p5 p6
inductive A7 (p1 p2 p3 p4 p5 p6 p7:Prop):Prop |mk:p1->p2->p3->p4->p5->p6->p7->A7 p1 p2 p3 p4 p5 p6 p7
inductive A8 (p1 p2 p3 p4 p5 p6 p7 p8:Prop):Prop |mk:p1->p2->p3->p4->p5->p6->p7->p8->A8 p1 p2 p3 p4 p5 p6 p7 p8
inductive A9 (p1 p2 p3 p4 p5 p6 p7 p8 p9:Prop):Prop |mk:p1->p2->p3->p4->p5->p6->p7->p8->p9->A9 p1 p2 p3 p4 p5 p6 p7 p8 p9
inductive A11 (p1 p2 p3 p4 p5 p6 p7 p8 p9 p10 p11:Prop):Prop |mk:p1->p2->p3->p4->p5->p6->p7->p8->p9->p10->p11->A11 p1 p2 p3 p4 p5 p6 p7 p8 p9 p10 p11
inductive A10 (p1 p2 p3 p4 p5 p6 p7 p8 p9 p10:Prop):Prop |mk:p1->p2->p3->p4->p5->p6->p7->p8->p9->p10->A10 p1 p2 p3 p4 p5 p6 p7 p8 p9 p10
theorem nsE {α:Type} {a:α} {P:Prop} (h:(none:Option α)=some a):P:=by cases h
theorem ftE {P:Prop} (h:false=true):P:=by cases h
theorem al1 {α:Type} {a:α} {P:α->Prop} (h:P a):∀c∈[a],P c:=λU q=>List.mem_singleton.mp q▸h
theorem nd1 {α:Type} (a:α):[a].Nodup:=List.nodup_cons.mpr ⟨List.not_mem_nil,List.nodup_nil⟩
theorem neE {α:Type} {a:α} {P:Prop} (h:a∈([]:List α)):P:=absurd h List.not_mem_nil
theorem leT {a b c:Nat} (h:a<=b) (e:Nat.ble b c=true:=by rfl):a<=c:=Nat.le_trans h (Nat.le_of_ble_eq_true e)
theorem ltT {a b c:Nat} (h:a<b) (e:Nat.ble b c=true:=by rfl):a<c:=Nat.lt_of_lt_of_le h (Nat.le_of_ble_eq_true e)
theorem lel {a b c:Nat} (h:a<=b) (e:Nat.ble (b+1) c=true:=by rfl):a<c:=Nat.lt_of_le_of_lt h (Nat.le_of_ble_eq_true e)
theorem ltl {a b c:Nat} (h:a<b) (e:Nat.ble b (c+1)=true:=by rfl):a<=c:=Nat.le_of_lt_succ (Nat.lt_of_lt_of_le h (Nat.le_of_ble_eq_true e))
theorem ilt {a b:Nat} {c:Int} (h:a<b) (e:decide ((b:Int)<=c)=true:=by rfl):(a:Int)<c:=Int.lt_of_lt_of_le (Int.ofNat_lt.mpr h) (of_decide_eq_true e)
theorem ile {a b:Nat} {c:Int} (h:a<=b) (e:decide ((b:Int)<=c)=true:=by rfl):(a:Int)<=c:=Int.le_trans (Int.ofNat_le.mpr h) (of_decide_eq_true e)
theorem ill {a b:Nat} {c:Int} (h:a<=b) (e:decide ((b:Int)<c)=true:=by rfl):(a:Int)<c:=Int.lt_of_le_of_lt (Int.ofNat_le.mpr h) (of_decide_eq_true e)
theorem ngE {a b:Nat}: -(a:Int)<=(b:Int):=Int.le_trans (Int.neg_nonpos_of_nonneg (Int.natCast_nonneg a)) (Int.natCast_nonneg b)
theorem ng0 {a:Nat}: -(a:Int)<=0:=Int.neg_nonpos_of_nonneg (Int.natCast_nonneg a)
theorem bg0 {α β:Type} {f g:α->β}:∀{l:List α},l.map f=l.foldr (λp r=>g p::r) []->∀p∈l,f p=g p
 |[],_,_,h=>neE h
 | _::_,e,_,h=>(List.mem_cons.mp h).elim (λq=>q▸(List.cons.inj e).1) (bg0 (List.cons.inj e).2 _)
theorem bi7 {α:Type} {f:α->Bool} {l:List α} (e:l.all f=true) (p:α) (h:p∈l):f p=true:=List.all_eq_true.mp e p h
theorem aS1 {n i:Nat}:((n:Int) -1 -(i:Int)).toNat=n -(i+1):=by
 rw[Int.sub_sub,Nat.add_comm];exact Int.toNat_sub n (1+i)
theorem absE {a:Int}:(if a<0 then -a else a)=(a.natAbs:Int):=by
 by_cases h:a<0
 ·rw [if_pos h];exact (Int.ofNat_natAbs_of_nonpos (Int.le_of_lt h)).symm
 ·rw [if_neg h];exact (Int.natAbs_of_nonneg (Int.not_lt.mp h)).symm
theorem ixE {i n:Nat} (h:i<n):((0<=if (i:Int)<0 then (i:Int)+n else (i:Int))/\(if (i:Int)<0 then (i:Int)+n else (i:Int))<n)/\(if (i:Int)<0 then (i:Int)+n else (i:Int)).toNat=i:=by
 rw[if_neg (Int.not_lt.mpr (Int.natCast_nonneg i))]
 exact⟨⟨Int.natCast_nonneg i,Int.ofNat_lt.mpr h⟩,Int.toNat_natCast i⟩
theorem absL {n k m:Nat} (h:n<k) (hm:Nat.ble k m=true):((n:Int)).natAbs<m:=by
 rw[Int.natAbs_natCast];exact Nat.lt_of_lt_of_le h (Nat.le_of_ble_eq_true hm)
theorem absL' {n k m:Nat} (h:n<=k) (hm:Nat.ble (k+1) m=true):((n:Int)).natAbs<m:=absL (Nat.lt_succ_of_le h) hm
theorem jrE {n j:Nat} (h:j<n):n -1 -j<n:=Nat.lt_of_le_of_lt (Nat.sub_le _ _) (Nat.sub_lt (Nat.lt_of_le_of_lt (Nat.zero_le j) h) Nat.one_pos)
theorem dropE {n i:Nat} (h:i<n):n+1 -(i+1)<n+1 -i:=Nat.sub_lt_sub_left (Nat.lt_succ_of_lt h) (Nat.lt_succ_self i)
theorem fmE {x:Int} {m n:Nat} (h:x=(n:Int)) (h2:x<(m:Int)):n<m:=Int.ofNat_lt.mp (h▸h2)
end
section
theorem szE {x:Nat} (h:x<=16777216):x<=sizeLine:=sizeLine_eq▸h
noncomputable abbrev pw:Program:=PySem.Challenge.pw_nt0262_01
structure Z where
 gs:Array GenState
 d:Drawn
 os:OsState
noncomputable abbrev sh (z:Z) (h:Heap) (t:Nat):Shared:=⟨h,z.gs,z.d,t,z.os⟩
inductive AO where
 |list (vs:List Value)
 |inst (C dx:Addr) (al:List (Str × Value))
 |tup (vs:List Value)
 |dict (al:List (Str × Value))
 |cell (p:Obj->Prop)
noncomputable def a22 (es:List DictEntry) (al:List (Str × Value)):Prop:=
 es.map (λe=>match e.key with | .str x _=>some (x,e.val)| _=>none)=al.map some
noncomputable def AO.cells:Addr->AO->List Addr
 |a,.inst U dx V=>[a,dx]
 |a,U=>[a]
noncomputable def bj4 (P:Params) (es:List DictEntry) (al:List (Str × Value)):Prop:=
 a22 es al/\∀e∈es,X2 λx t=>e.key= .str x t/\e.hash=PyData.keyHash P x
noncomputable def AO.At (P:Params) (h:Heap):Addr->AO->Prop
 |a,.list vs=>∃n,h.get? a=some (listOf vs.toArray n)
 |a,.inst C dx al=>h.get? a=some (instObj C dx)/\X2 λes n=>A3 (h.get? dx=some (dictOf es n)) (a22 es al) (al.length<=100)
 |a,.tup vs=>∃n,h.get? a=some {cls:=.type "tuple",data:=.seq vs.toArray n}
 |a,.dict al=>X2 λes n=>A3 (h.get? a=some (dictOf es n)) (bj4 P es al) (al.length<=1000)
 |a,.cell p=>∃o,h.get? a=some o/\p o
theorem AO.At.keeps {P:Params} {h h':Heap} {a:Addr} {o:AO} (x:o.At P h a) (k:∀c∈o.cells a,∀ob,h.get? c=some ob->h'.get? c=some ob):o.At P h' a:=by
 induction o using AO.casesOn with
 |list vs=>obtain⟨n,e⟩:=x;exact⟨n,k a (.head _) _ e⟩
 |tup vs=>obtain⟨n,e⟩:=x;exact⟨n,k a (.head _) _ e⟩
 |dict al=>obtain⟨es,n,e,r,r2⟩:=x;exact⟨es,n,k a (.head _) _ e,r,r2⟩
 |cell p=>obtain⟨ob,e,r⟩:=x;exact⟨ob,k a (.head _) _ e,r⟩
 |inst C dx al=>obtain⟨e,es,n,e2,r,r2⟩:=x;exact⟨k a (.head _) _ e,es,n,k dx (.tail _ (.head _)) _ e2,r,r2⟩
theorem AO.At.cell {P:Params} {h:Heap} {a:Addr} {o:AO} (x:o.At P h a):∀c∈o.cells a,∃ob,h.get? c=some ob:=by
 induction o using AO.casesOn with
 |list vs=>obtain⟨n,e⟩:=x;exact al1 ⟨_,e⟩
 |tup vs=>obtain⟨n,e⟩:=x;exact al1 ⟨_,e⟩
 |dict al=>obtain⟨es,n,e,r⟩:=x;exact al1 ⟨_,e⟩
 |cell p=>obtain⟨ob,e,r⟩:=x;exact al1 ⟨_,e⟩
 |inst C dx al=>obtain⟨e,es,n,e2,r⟩:=x;intro c hc;cases hc with
  |head=>exact⟨_,e⟩
  |tail U h=>cases h with |head=>exact⟨_,e2⟩|tail _ h=>cases h
noncomputable abbrev FP:=List (Addr × AO)
noncomputable def FP.cells (fp:FP):List Addr:=fp.flatMap λp=>p.2.cells p.1
noncomputable abbrev Bas:=Addr->Obj->Prop
noncomputable def Bas.of (h:Heap):Bas:=λa o=>h.get? a=some o
noncomputable def Bas.or (x y:Bas):Bas:=λa o=>x a o∨y a o
structure Own (P:Params) (g:Bas) (fp:FP) (h:Heap):Prop where
 at_:∀p∈fp,p.2.At P h p.1
 off:∀c∈fp.cells,∀o,¬ g c o
 nd:fp.cells.Nodup
noncomputable def Sub (x y:Bas):Prop:=∀a o,x a o->y a o
noncomputable def Keeps (g:Bas) (h:Heap):Prop:=∀b o,g b o->h.get? b=some o
noncomputable abbrev a15 (g h:Heap):Prop:=∀b o,g.get? b=some o->h.get? b=some o
theorem a15.trans {a b c:Heap} (x:a15 a b) (y:a15 b c):a15 a c:=λU V e=>y _ _ (x _ _ e)
theorem Keeps.trans {a:Bas} {b c:Heap} (x:Keeps a b) (y:a15 b c):Keeps a c:=λU V e=>y _ _ (x _ _ e)
theorem Sub.trans {a b c:Bas} (x:Sub a b) (y:Sub b c):Sub a c:=λU V e=>y _ _ (x _ _ e)
theorem Sub.keeps {a b:Bas} {h:Heap} (x:Sub a b) (y:Keeps b h):Keeps a h:=λU V e=>y _ _ (x _ _ e)
theorem Sub.keepsH {a b:Heap} {c:Bas} (x:Sub (Bas.of a) c) (y:Keeps c b):a15 a b:=λU V e=>y _ _ (x _ _ e)
structure St (P:Params) (b:Heap) (g:Bas) (L:Addr) (l:List (Str × Value)) (fp:FP) (h:Heap):Prop where
 ns:h.Ns L (λx=>l.lookup x)
 keep:Keeps g h
 base:Sub (Bas.of b) g
 above:b.objs.size<=L
 out:∀o,¬ g L o
 own:Own P g fp h
 nL:L∉fp.cells
section
variable {P:Params} {b h h':Heap} {g:Bas} {L:Addr} {l l':List (Str × Value)} {fp fp':FP}
theorem St.fr (S:St P b g L l fp h):Fr b L h (λx=>l.lookup x):=⟨S.ns,λU V e=>S.keep _ _ (S.base _ _ e),S.above⟩
noncomputable def an7 (b:Heap) (L:Addr) (X:List Addr) (h:Heap):List (Addr × Obj):=
 (List.range h.objs.size).filterMap λa=>if a=L∨a∈X∨(b.get? a).isSome then none else (h.get? a).map λo=>(a,o)
theorem aj9 {b h:Heap} {L:Addr} {X:List Addr} {p:Addr × Obj}:p∈an7 b L X h↔h.get? p.1=some p.2/\p.1≠L/\p.1∉X/\b.get? p.1=none:=by
 unfold an7
 rw[List.mem_filterMap]
 constructor
 ·rintro ⟨a,ha,e⟩
  split at e
  ·cases e
  ·rename_i hn
   obtain⟨o,ho,rfl⟩:=Option.map_eq_some_iff.mp e
   simp only[not_or,Option.isSome_iff_ne_none,ne_eq,Decidable.not_not] at hn
   exact⟨ho,hn.1,hn.2.1,by simpa using hn.2.2⟩
 ·rintro ⟨e,n1,n2,n3⟩
  refine⟨p.1,List.mem_range.mpr (Heap.lt_size e),?_⟩
  rw[if_neg (by simp [n1,n2,n3]),e]
  rfl
theorem a90 {b h:Heap} {L:Addr} {X:List Addr}:News b L h (an7 b L X h):=λp hp=>by
 have:=aj9.mp hp
 exact⟨this.1,this.2.1,this.2.2.2⟩
theorem aB9 {b h h':Heap} {L:Addr} {X:List Addr} {m:Str->Option Value} {ns:List (Addr × Obj)} (F':Fr b L h' m) (N':News b L h' ns) (hs:∀p∈an7 b L X h,p∈ns)
  (kb:a15 b h):∀a o,h.get? a=some o->a≠L->a∉X->h'.get? a=some o:=by
 intro a o e n1 n2
 cases q:b.get? a with
 |some o'=>have:=kb _ _ q;rw[e] at this;cases this;exact F'.keep _ _ q
 |none=>exact (N' (a,o) (hs _ (aj9.mpr ⟨e,n1,n2,q⟩))).1
theorem FP.cells_mem {fp:FP} {p:Addr × AO} (hp:p∈fp) {c:Addr} (hc:c∈p.2.cells p.1):c∈fp.cells:=List.mem_flatMap.mpr ⟨p,hp,hc⟩
theorem Own.keeps {P:Params} {g:Bas} {h h':Heap} {fp:FP} (O:Own P g fp h) (k:∀c∈fp.cells,∀o,h.get? c=some o->h'.get? c=some o):Own P g fp h':=
 ⟨λp hp=>(O.at_ p hp).keeps λc hc=>k c (FP.cells_mem hp hc),O.off,O.nd⟩
theorem St.loc (S:St P b g L l fp h) (hn:h'.Ns L (λx=>l'.lookup x)) (k:∀a o,h.get? a=some o->a≠L->h'.get? a=some o):St P b g L l' fp h':=
 ⟨hn,λa o e=>k a o (S.keep _ _ e) (λq=>by subst q;exact S.out _ e),S.base,S.above,S.out,S.own.keeps λc hc o e=>k c o e (λq=>S.nL (q▸hc)),S.nL⟩
theorem St.grow (S:St P b g L l fp h) (k:a15 h h'):St P b g L l fp h':=
 ⟨S.ns.keeps k,S.keep.trans k,S.base,S.above,S.out,S.own.keeps λc U o e=>k c o e,S.nL⟩
noncomputable def b01 (x:Str) (v:Value):List (Str × Value)->List (Str × Value)
 |[]=>[(x,v)]
 |p::r=>if p.1==x then (x,v)::r else p::b01 x v r
end
end
section
structure a01 (w:World) (K:Frag) (b:Heap):Prop where
 kin:K.In b
 glob:∃mg,b.Ns mainGlobals mg
 blt:∃mb,b.Ns builtinsNs mb/\∀x:Str,x≠"__name__"->mb x=bootBuiltins x
 nolim:b.NoLimit
 low:sysModules<b.objs.size
section
variable {w:World} {K:Frag} {A:Around} {E:Value->Shared->Prop} {z:Z} {b h:Heap} {g:Bas} {t:Nat} {L f:Addr} {l:List (Str × Value)} {fp:FP} {q:Str} {sc:Scope} {cd:Value}
theorem St.kin (S:St w.params b g L l fp h) (X:a01 w K b):K.In h:=X.kin.keeps (S.base.keepsH S.keep)
theorem r_int {i:Int} {n:Nat} {pos:Pos} {env:Env} {Q:Value->Shared->Prop} (k:∀tk,Q (.int i tk) (sh z h (t+1))):wpAny (model pw w) A (eval (.Constant (.int i) n pos) env) Q E (sh z h t):=wpAny_Constant_int (k t)
theorem aZ5 {x:Str} {n:Nat} {pos:Pos} {env:Env} {Q:Value->Shared->Prop} (k:∀tk,Q (.str x tk) (sh z h (t+1))):wpAny (model pw w) A (eval (.Constant (.str x) n pos) env) Q E (sh z h t):=Calls.Constant_str (k t)
noncomputable def am6 (h:Heap) (x C:Addr) (al:List (Str × Value)):Prop:=X3 λdx es n=>A3 (h.get? x=some (instObj C dx)) (h.get? dx=some (dictOf es n)) (a22 es al)
theorem AO.At.inst {P:Params} {h:Heap} {x C dx:Addr} {al:List (Str × Value)} (o:(AO.inst C dx al).At P h x):am6 h x C al:=by
 obtain⟨a,es,n,c,r,_⟩:=o
 exact⟨dx,es,n,a,c,r⟩
theorem St.inst (S:St w.params b g L l fp h) (i:Nat) {x C dx:Addr} {al:List (Str × Value)} (e:fp[i]?=some (x,.inst C dx al)):am6 h x C al:=
 (S.own.at_ _ (List.mem_of_getElem? e)).inst
noncomputable def a00 (g:Bas) (x C:Addr) (al:List (Str × Value)):Prop:=X3 λdx es n=>A3 (g x (instObj C dx)) (g dx (dictOf es n)) (a22 es al)
theorem a00.sub {g g':Bas} {x C:Addr} {al:List (Str × Value)} (I:a00 g x C al) (k:Sub g g'):a00 g' x C al:=by
 obtain⟨dx,es,n,a,c,r⟩:=I
 exact⟨dx,es,n,k _ _ a,k _ _ c,r⟩
theorem a00.inst {g:Bas} {h:Heap} {x C:Addr} {al:List (Str × Value)} (I:a00 g x C al) (k:Keeps g h):am6 h x C al:=by
 obtain⟨dx,es,n,a,c,r⟩:=I
 exact⟨dx,es,n,k _ _ a,k _ _ c,r⟩
theorem St.binst (S:St w.params b g L l fp h) {x C:Addr} {al:List (Str × Value)} (I:a00 g x C al):am6 h x C al:=I.inst S.keep
theorem aq0 {es:List DictEntry} {al:List (Str × Value)} (h:a22 es al) (x:Str):getL x es=some (al.lookup x):=by
 unfold a22 at h
 unfold getL
 induction es generalizing al with
 |nil=>
  induction al using List.casesOn with
  |nil=>rfl
  |cons U V=>simp at h
 |cons e r ih=>
  induction al using List.casesOn with
  |nil=>simp at h
  |cons p al=>
   obtain⟨x',v'⟩:=p
   simp only[List.map_cons,List.cons.injEq] at h
   obtain⟨h1,h2⟩:=h
   have ih:=ih h2
   cases hk:e.key with
   |str y tk=>
    rw[hk] at h1
    simp only[Option.some.injEq,Prod.mk.injEq] at h1
    obtain⟨rfl,rfl⟩:=h1
    have e1:e.key.isStr x=(y==x):=by rw[hk];rfl
    by_cases q:y=x
    ·subst q
     simp only[List.find?_cons,e1,beq_self_eq_true,List.lookup]
    ·have q1:(y==x)=false:=by simpa using q
     have q2:(x==y)=false:=by simpa using Ne.symm q
     have e3:e.refKey=false:=by unfold DictEntry.refKey;rw[hk]
     simp only[List.find?_cons,e1,q1,List.lookup,q2,List.any_cons,e3,Bool.false_or]
     exact ih
   | _=>rw[hk] at h1;simp at h1
noncomputable def aM7 (K:Frag) (C:Addr) (names:List Str):Bool:=
 plainGet K C ""&&hasDictIn K C&&plainOver K C&&(findIn K (.ref C) "__setattr__"==some (some (.builtin "object.__setattr__")))&&names.all λn=>findIn K (.ref C) n==some none&&takerIn K C n==some none
theorem aH8 {K:Frag} {C:Addr} {names:List Str} (h:aM7 K C names=true) {n:Str} (hn:names.contains n=true):
  plainGet K C n=true/\hasDictIn K C=true/\findIn K (.ref C) n=some none/\plainOver K C=true/\findIn K (.ref C) "__setattr__"=some (some (.builtin "object.__setattr__"))/\takerIn K C n=some none:=by
 unfold aM7 at h
 simp only[Bool.and_eq_true,List.all_eq_true,beq_iff_eq] at h
 obtain⟨⟨⟨⟨h1,h2⟩,h3⟩,h4⟩,h5⟩:=h
 have:=h5 n (List.contains_iff_mem.mp hn)
 exact⟨h1,h2,this.1,h3,h4,this.2⟩
theorem am6.at {h:Heap} {x C:Addr} {al:List (Str × Value)} (I:am6 h x C al):X3 λdx es n=>A3 (W.InstAt h x (instObj C dx) C (some (dictOf es n))) (h.get? dx=some (dictOf es n)) (a22 es al):=by
 obtain⟨dx,es,n,a,c,r⟩:=I
 exact⟨dx,es,n,⟨a,rfl,rfl,c⟩,c,r⟩
theorem r_get {names:List Str} {x C:Addr} {al:List (Str × Value)} {n:Str} {v:Value} {expr:Bool} {Q:Value->Shared->Prop} (S:St w.params b g L l fp h) (X:a01 w K b) (I:am6 h x C al) (hc:aM7 K C names=true) (hn:names.contains n=true)
  (hl:al.lookup n=some v) (hv:handedIn v=true) (k:Q v (sh z h (t+1))):wpAny (model pw w) A (getAttr (.ref x) n expr) Q E (sh z h t):=by
 obtain⟨dx,es,m,I',_,ha⟩:=I.at
 obtain⟨a1,a2,a3,_,_,_⟩:=aH8 hc hn
 exact get_own S.fr X.kin I' a1 a2 a3 rfl (by rw[aq0 ha,hl]) hv k
theorem bm9 {names:List Str} {x C fn:Addr} {al:List (Str × Value)} {n:Str} {pl:Sem Bool} {Q:Value × List Value->Shared->Prop} (S:St w.params b g L l fp h) (X:a01 w K b) (I:am6 h x C al) (hc:plainGet K C n=true)
  (hm:findIn K (.ref C) n=some (some (.ref fn))) (hf:isFn K (.ref fn)=true) (hl:al.lookup n=none) (k:Q (.ref fn,[.ref x]) (sh z h t)):wpAny (model pw w) A (getMethod (.ref x) n pl) Q E (sh z h t):=by
 obtain⟨dx,es,m,I',_,ha⟩:=I.at
 exact method_inst S.fr X.kin I' hc hm hf (by rw[aq0 ha,hl]) k
end
end
section
theorem FP.cells_set {fp:FP} {i:Nat} {x:Addr} {o o':AO} (e:fp[i]?=some (x,o)) (hc:o'.cells x=o.cells x):FP.cells (fp.set i (x,o'))=fp.cells:=by
 unfold FP.cells
 induction fp generalizing i with
 |nil=>rfl
 |cons p r ih=>
  induction i using Nat.casesAuxOn with
  |zero=>
   simp only[List.getElem?_cons_zero,Option.some.injEq] at e
   subst e
   simp only[List.set_cons_zero,List.flatMap_cons,hc]
  |succ i=>
   simp only[List.getElem?_cons_succ] at e
   simp only[List.set_cons_succ,List.flatMap_cons,ih e]
theorem ae0 {fp:FP} (nd:fp.cells.Nodup) {i j:Nat} {p q:Addr × AO} (hp:fp[i]?=some p) (hq:fp[j]?=some q) (hij:i≠j):∀c∈p.2.cells p.1,c∉q.2.cells q.1:=by
 induction fp generalizing i j with
 |nil=>simp at hp
 |cons a r ih=>
  unfold FP.cells at nd
  rw[List.flatMap_cons,List.nodup_append] at nd
  obtain⟨n1,n2,n3⟩:=nd
  intro c hc hc'
  induction i using Nat.casesAuxOn with
  |zero=>
   induction j using Nat.casesAuxOn with
   |zero=>exact hij rfl
   |succ j=>
    simp only[List.getElem?_cons_zero,Option.some.injEq] at hp
    simp only[List.getElem?_cons_succ] at hq
    subst hp
    exact n3 c hc c (List.mem_flatMap.mpr ⟨q,List.mem_of_getElem? hq,hc'⟩) rfl
  |succ i=>
   induction j using Nat.casesAuxOn with
   |zero=>
    simp only[List.getElem?_cons_zero,Option.some.injEq] at hq
    simp only[List.getElem?_cons_succ] at hp
    subst hq
    exact n3 c hc' c (List.mem_flatMap.mpr ⟨p,List.mem_of_getElem? hp,hc⟩) rfl
   |succ j=>
    simp only[List.getElem?_cons_succ] at hp hq
    exact ih n2 hp hq (λq=>hij (by rw[q])) c hc hc'
theorem aG1 {fp:FP} (nd:fp.cells.Nodup) {p:Addr × AO} (hp:p∈fp):(p.2.cells p.1).Nodup:=by
 induction fp with
 |nil=>cases hp
 |cons a r ih=>
  unfold FP.cells at nd
  rw[List.flatMap_cons,List.nodup_append] at nd
  cases hp with
  |head=>exact nd.1
  |tail U h=>exact ih nd.2.1 h
section
variable {w:World} {K:Frag} {A:Around} {E:Value->Shared->Prop} {z:Z} {b h h':Heap} {g:Bas} {t:Nat} {L f:Addr} {l:List (Str × Value)} {fp:FP} {q:Str} {sc:Scope} {cd:Value}
theorem St.upd {P:Params} (S:St P b g L l fp h) {i:Nat} {x c:Addr} {o o':AO} (e:fp[i]?=some (x,o)) (hc:o'.cells x=o.cells x) (hm:c∈o.cells x)
  (hn:h'.Ns L (λx=>l.lookup x)) (k:∀a ob,h.get? a=some ob->a≠L->a≠c->h'.get? a=some ob) (ho:o'.At P h' x):St P b g L l (fp.set i (x,o')) h':=by
 have hcells:=FP.cells_set e hc
 have hcf:c∈fp.cells:=FP.cells_mem (List.mem_of_getElem? e) hm
 refine⟨hn,λa ob ea=>k a ob (S.keep _ _ ea) (λq=>by subst q;exact S.out _ ea) (λq=>by subst q;exact S.own.off _ hcf _ ea),S.base,S.above,S.out,⟨?_,by rw[hcells];exact S.own.off,by rw[hcells];exact S.own.nd⟩,by rw[hcells];exact S.nL⟩
 intro p hp
 obtain⟨j,hj⟩:=List.getElem?_of_mem hp
 by_cases hij:i=j
 ·subst hij
  rw[List.getElem?_set_self (by have:=(List.getElem?_eq_some_iff.mp e).1;exact this)] at hj
  cases hj
  exact ho
 ·rw [List.getElem?_set_ne hij] at hj
  have hpf:=List.mem_of_getElem? hj
  refine (S.own.at_ p hpf).keeps λd hd ob ed=>k d ob ed (λq=>S.nL (q▸FP.cells_mem hpf hd)) (λq=>?_)
  subst q
  exact ae0 S.own.nd e hj hij d hm hd
theorem aH9 {es:List DictEntry} {al:List (Str × Value)} (h:a22 es al) (x:Str) (hs:Int) (tk:Nat) (v:Value):a22 (putL x hs (.str x tk) v es) (b01 x v al):=by
 unfold a22 at h ⊢
 induction es generalizing al with
 |nil=>
  induction al using List.casesOn with
  |nil=>rfl
  |cons U V=>simp at h
 |cons e r ih=>
  induction al using List.casesOn with
  |nil=>simp at h
  |cons p al=>
   obtain⟨x',v'⟩:=p
   simp only[List.map_cons,List.cons.injEq] at h
   obtain⟨h1,h2⟩:=h
   have ih:=ih h2
   cases hk:e.key with
   |str y tk'=>
    rw[hk] at h1
    simp only[Option.some.injEq,Prod.mk.injEq] at h1
    obtain⟨rfl,rfl⟩:=h1
    have e1:e.key.isStr x=(y==x):=by rw[hk];rfl
    unfold putL b01
    rw[e1]
    by_cases q:(y==x)=true
    ·have:=eq_of_beq q
     subst this
     simp only[q,if_true,List.map_cons,hk,h2]
    ·simp only[q,Bool.false_eq_true,if_false,List.map_cons,hk,ih]
   | _=>rw[hk] at h1;simp at h1
theorem b44 {es:List DictEntry} {al:List (Str × Value)} (h:a22 es al):es.length=al.length:=by
 have:=congrArg List.length h
 simpa using this
theorem aO8 (x:Str) (v:Value):∀al:List (Str × Value),(b01 x v al).length<=al.length+1
 |[]=>by simp [b01]
 |p::r=>by
  unfold b01
  have:=aO8 x v r
  split<;>simp<;>assumption
theorem aZ7 {names:List Str} {x C dx:Addr} {al:List (Str × Value)} {n:Str} {v:Value} {Q:Unit->Shared->Prop} (i:Nat) (S:St w.params b g L l fp h) (X:a01 w K b) (e:fp[i]?=some (x,.inst C dx al)) (hc:aM7 K C names=true) (hn:names.contains n=true)
  (hz:(b01 n v al).length<=100:=by decide)
  (k:∀h',St w.params b g L l (fp.set i (x,.inst C dx (b01 n v al))) h'->Q () (sh z h' (t+2))):wpAny (model pw w) A (setAttr (.ref x) n v) Q E (sh z h t):=by
 obtain⟨a1,a2,a3,a4,a5,a6⟩:=aH8 hc hn
 obtain⟨hx,es,m,hdx,ha,hlen⟩:=S.own.at_ _ (List.mem_of_getElem? e)
 have hcx:x∈fp.cells:=FP.cells_mem (List.mem_of_getElem? e) (by exact .head _)
 have hcd:dx∈fp.cells:=FP.cells_mem (List.mem_of_getElem? e) (by exact .tail _ (.head _))
 have N:News b L h ((dx,dictOf es m)::an7 b L [dx] h):=by
  intro p hp
  cases hp with
  |head=>exact⟨hdx,λq=>S.nL (by rw[<-q];exact hcd),by
    cases q:b.get? dx with
    |none=>rfl
    |some o=>exact absurd (S.base _ _ q) (S.own.off _ hcd _)⟩
  |tail U hp=>exact a90 p hp
 have I:W.InstAt h x (instObj C dx) C (some (dictOf es m)):=⟨hx,rfl,rfl,hdx⟩
 refine set_dict S.fr X.kin N I rfl a5 a4 a6 a2 (by rw[aq0 ha];rfl) rfl (Upd.head λp hp=>?_) ?_ ?_
 ·have:=(aj9.mp hp).2.2.1
  intro q;exact this (by rw[q];exact .head _)
 ·rw [b44 (aH9 ha n _ _ v)];exact Nat.le_trans hz (by decide)
 ·intro h' F' N'
  refine k h' (S.upd e rfl (c:=dx) (.tail _ (.head _)) F'.ns (λa ob ea n1 n2=>aB9 F' N' (λp hp=>.tail _ hp) (S.base.keepsH S.keep) a ob ea n1 (λq=>by cases q with |head=>exact n2 rfl |tail _ h=>cases h)) ?_)
  have hd':=(N' _ (.head _)).1
  refine⟨?_,_,_,hd',aH9 ha n _ _ v,hz⟩
  have hne:x≠dx:=by
   intro q
   have this:=aG1 S.own.nd (List.mem_of_getElem? e)
   simp only[AO.cells,List.nodup_cons,List.mem_singleton] at this
   exact this.1 q
  exact aB9 F' N' (λp hp=>.tail _ hp) (S.base.keepsH S.keep) x _ hx (λq=>S.nL (q▸hcx)) (λq=>by cases q with |head=>exact hne rfl |tail _ h=>cases h)
end
end
section
noncomputable def msk:List Bool->FP->FP × FP
 |true::m,p::r=>(p::(msk m r).1,(msk m r).2)
 |false::m,p::r=>((msk m r).1,p::(msk m r).2)
 |[],r=>([],r)
 |U::V,[]=>([],[])
theorem aB6:∀(m:List Bool) (fp:FP),((msk m fp).1++(msk m fp).2).Perm fp
 |true::m,p::r=>by simp only[msk,List.cons_append];exact (aB6 m r).cons p
 |false::m,p::r=>by simp only[msk];exact List.perm_middle.trans ((aB6 m r).cons p)
 |[],r=>by simp [msk]
 |U::V,[]=>by simp [msk]
theorem Own.perm {P:Params} {g:Bas} {h:Heap} {fp fp':FP} (O:Own P g fp h) (p:fp'.Perm fp):Own P g fp' h:=by
 have pc:(FP.cells fp').Perm (FP.cells fp):=List.Perm.flatMap_right _ p
 exact⟨λx hx=>O.at_ x (p.mem_iff.mp hx),λc hc=>O.off c (pc.mem_iff.mp hc),pc.nodup_iff.mpr O.nd⟩
theorem St.perm {P:Params} {b h:Heap} {g:Bas} {L:Addr} {l:List (Str × Value)} {fp fp':FP} (S:St P b g L l fp h) (p:fp'.Perm fp):St P b g L l fp' h:=by
 have pc:(FP.cells fp').Perm (FP.cells fp):=List.Perm.flatMap_right _ p
 exact⟨S.ns,S.keep,S.base,S.above,S.out,S.own.perm p,λq=>S.nL (pc.mem_iff.mp q)⟩
structure Sit (P:Params) (b:Heap) (g:Bas) (fp:FP) (h:Heap):Prop where
 base:Sub (Bas.of b) g
 keep:Keeps g h
 own:Own P g fp h
 sz:b.objs.size<=h.objs.size
theorem St.sit {P:Params} {b h:Heap} {g:Bas} {L:Addr} {l:List (Str × Value)} {fp:FP} (S:St P b g L l fp h):Sit P b g fp h:=
 ⟨S.base,S.keep,S.own,by obtain⟨o,_,_,e,_⟩:=S.ns;exact Nat.le_trans S.above (Nat.le_of_lt (Heap.lt_size e))⟩
theorem a51 (a c:FP):FP.cells (a++c)=FP.cells a++FP.cells c:=by unfold FP.cells;exact List.flatMap_append
section
variable {w:World} {K:Frag} {A:Around} {E:Value->Shared->Prop} {z:Z} {b h h':Heap} {g d:Bas} {t:Nat} {L f:Addr} {l:List (Str × Value)} {fp:FP} {q:Str} {sc:Scope} {cd:Value}
noncomputable def rest (h:Heap) (cs:List Addr):Bas:=λa o=>h.get? a=some o/\a∉cs
structure a48 (P:Params) (b:Heap) (fr d d':Bas) (fp':FP) (h':Heap):Prop where
 mono:Sub d d'
 new:∀a o,d' a o->d a o∨∀o',¬ fr a o'
 sit:Sit P b (fr.or d') fp' h'
theorem a48.same {P:Params} {fr:Bas} {fp':FP} (T:Sit P b (fr.or d) fp' h'):a48 P b fr d d fp' h':=⟨λU V e=>e,λU V e=>.inl e,T⟩
theorem Sit.anti {P:Params} {g':Bas} (T:Sit P b g fp h) (s:Sub g' g) (hb:Sub (Bas.of b) g'):Sit P b g' fp h:=
 ⟨hb,s.keeps T.keep,⟨T.own.at_,λc hc o e=>T.own.off c hc o (s _ _ e),T.own.nd⟩,T.sz⟩
theorem St.anti {P:Params} {g':Bas} (S:St P b g L l fp h) (s:Sub g' g) (hb:Sub (Bas.of b) g'):St P b g' L l fp h:=
 ⟨S.ns,s.keeps S.keep,hb,S.above,λo e=>S.out o (s _ _ e),⟨S.own.at_,λc hc o e=>S.own.off c hc o (s _ _ e),S.own.nd⟩,S.nL⟩
theorem St.split {P:Params} {fp₁ fp₂:FP} (S:St P b g L l (fp₁++fp₂) h):Sub g (rest h fp₁.cells)/\Sit P b (rest h fp₁.cells) fp₁ h/\
  ∀d d' h' fp',Sub d g->a48 P b (rest h fp₁.cells) d d' fp' h'->St P b (g.or d') L l (fp'++fp₂) h':=by
 have hc:=a51 fp₁ fp₂
 have off1:∀c∈fp₁.cells,∀o,¬ g c o:=λc hc'=>S.own.off c (by rw[hc];exact List.mem_append_left _ hc')
 have kgg:Sub g (rest h fp₁.cells):=λa o e=>⟨S.keep _ _ e,λq=>off1 a q o e⟩
 have nd:=S.own.nd
 rw[hc,List.nodup_append] at nd
 have O1:Own P (rest h fp₁.cells) fp₁ h:=⟨λp hp=>S.own.at_ p (List.mem_append_left _ hp),λc hc' o e=>e.2 hc',nd.1⟩
 have nL1:L∉fp₁.cells:=λq=>S.nL (by rw[hc];exact List.mem_append_left _ q)
 refine⟨kgg,⟨S.base.trans kgg,λU V e=>e.1,O1,S.sit.sz⟩,λd d' h' fp' hd B=>?_⟩
 have T:=B.sit
 have kfr:Keeps (rest h fp₁.cells) h':=λa o e=>T.keep _ _ (.inl e)
 obtain⟨oL,es,ep,hL,r⟩:=S.ns
 have hLg:rest h fp₁.cells L oL:=⟨hL,nL1⟩
 have apart:∀c∈fp₂.cells,∀o,h.get? c=some o->rest h fp₁.cells c o:=λc hc' o e=>⟨e,λq=>nd.2.2 c q c hc' rfl⟩
 have O2:Own P g fp₂ h:=⟨λp hp=>S.own.at_ p (List.mem_append_right _ hp),λc hc'=>S.own.off c (by rw[hc];exact List.mem_append_right _ hc'),nd.2.1⟩
 have O2':Own P g fp₂ h':=O2.keeps λc hc' o e=>kfr _ _ (apart c hc' o e)
 have ex2:∀c∈fp₂.cells,∃o,h.get? c=some o:=λc hc'=>by
  obtain⟨p,hp,hcp⟩:=List.mem_flatMap.mp hc'
  exact (O2.at_ p hp).cell c hcp
 refine⟨⟨oL,es,ep,kfr _ _ hLg,r⟩,λa o e=>?_,λa o e=>.inl (S.base _ _ e),S.above,λo e=>?_,⟨λp hp=>?_,λc hc' o e=>?_,?_⟩,?_⟩
 ·rcases e with e |e
  ·exact kfr _ _ (kgg _ _ e)
  ·exact T.keep _ _ (.inr e)
 ·rcases e with e |e
  ·exact S.out _ e
  ·rcases B.new _ _ e with q |q
   ·exact S.out _ (hd _ _ q)
   ·exact q _ hLg
 ·rcases List.mem_append.mp hp with hp |hp
  ·exact T.own.at_ p hp
  ·exact O2'.at_ p hp
 ·rw [a51] at hc'
  rcases List.mem_append.mp hc' with hc' |hc'
  ·rcases e with e |e
   ·exact T.own.off c hc' o (.inl (kgg _ _ e))
   ·exact T.own.off c hc' o (.inr e)
  ·rcases e with e |e
   ·exact O2.off c hc' o e
   ·rcases B.new _ _ e with q |q
    ·exact O2.off c hc' o (hd _ _ q)
    ·obtain ⟨ob,eo⟩:=ex2 c hc'
     exact q _ (apart c hc' ob eo)
 ·rw [a51,List.nodup_append]
  refine⟨T.own.nd,O2.nd,λc h1 c2 h2 e=>?_⟩
  subst e
  obtain⟨ob,eo⟩:=ex2 c h2
  exact T.own.off c h1 ob (.inl (apart c h2 ob eo))
 ·rw [a51,List.mem_append,not_or]
  exact⟨λq=>T.own.off L q oL (.inl hLg),λq=>S.nL (by rw[hc];exact List.mem_append_right _ q)⟩
noncomputable def a07 (w:World) (A:Around) (z:Z) (f:Value) (args:List Value) (h:Heap) (t:Nat) (Post:Value->Heap->Prop):Prop:=
 codeAny (model pw w) A (.call f ⟨args,[]⟩) (λr s'=>X3 λv h' t'=>A3 (r= .ok (.ret v)) (s'=sh z h' t') (Post v h')) (sh z h t)
theorem bb3 {f:Value} {args:List Value} {Post:Value->Bas->FP->Prop} {Q:Value->Shared->Prop} (m:List Bool) (d:Bas) (S:St w.params b g L l fp h) (hd:Sub d g)
  (sp:∀fr,Sub g fr->Sit w.params b (fr.or d) (msk m fp).1 h->a07 w A z f args h t (λv h'=>X2 λd' fp'=>a48 w.params b fr d d' fp' h'/\Post v d' fp'))
  (k:∀v h' t' d' fp',Sub d d'->St w.params b (g.or d') L l (fp'++(msk m fp).2) h'->Post v d' fp'->Q v (sh z h' t')):wpAny (model pw w) A (call f args) Q E (sh z h t):=by
 obtain⟨a,c,e⟩:=(S.perm (aB6 m fp)).split
 have T:Sit w.params b ((rest h (msk m fp).1.cells).or d) (msk m fp).1 h:=
  c.anti (λa' o e'=>e'.elim id λe'=>a _ _ (hd _ _ e')) λa' o e'=>.inl (c.base _ _ e')
 refine wpAny_call (codeAny_mono (sp _ a T) ?_)
 rintro r s' ⟨v,h',t',rfl,rfl,d',fp',B,hp⟩
 exact k v h' t' d' fp' B.mono (e d d' h' fp' hd B) hp
structure FI where
 name:Str
 qual:Str
 params:Arguments
 body:List Stmt
 scope:Scope
 dV:Value
 pm:Value
 cd:Value
noncomputable abbrev FI.fd (i:FI):FuncData:=fnOf i.name i.qual i.params i.body i.scope i.dV .none .none i.pm none i.cd .none
noncomputable def FI.obj (i:FI):Obj:=⟨.type "function",none,.func i.fd,#[]⟩
structure a31 (K:Frag) (f:Addr) (i:FI):Prop where
 at_:K.lookup f=some i.obj
 code:codeIn K i.cd i.qual=true
 keep:keepIn K (.ref f)=true
 isFn:isFn K (.ref f)=true
noncomputable def retv:Flow->Value
 | .ret v=>v
 | _=>.none
theorem bq0 {i:FI} {args:Args} {binds:List (Str × Value)} {R:Result->Shared->Prop} (F:a31 K f i) (X:a01 w K b) (T:Sit w.params b g fp h) (room:A.depth<recursionLimit)
  (hbind:BindsTo (sh z h t) i.fd args binds) (hloc:∀y∈binds,i.scope.names.lookup y.1=some .local)
  (k:∀L h₁,St w.params b g L binds.reverse fp h₁->wpAny (model pw w) (A.deeper (envOf i.qual i.scope L f i.cd)) (execs i.body (envOf i.qual i.scope L f i.cd))
   (λfl s'=>R (.ok (.ret (retv fl))) s')
   (λe s'=>wpAny (model pw w) (A.deeper (envOf i.qual i.scope L f i.cd)) (leaving (envOf i.qual i.scope L f i.cd) e) (λU s''=>R (.error e) s'') (λe' s''=>R (.error e') s'') s')
   (sh z h₁ (t+binds.length)))
  (hcell:∀x∈i.scope.names,x.2≠ .cell:=by decide)
  (hco:i.scope.isCoroutine=false:=by rfl) (hgen:i.scope.isGenerator=false:=by rfl) (hk:i.scope.kind= .function:=by rfl):
  codeAny (model pw w) A (.call (.ref f) args) R (sh z h t):=by
 have kbh:=T.base.keepsH T.keep
 have KH:=X.kin.keeps kbh
 refine codeAny_call_def (fd:=i.fd) (body:=i.body) (binds:=binds) room (KH _ _ F.at_) rfl (X.nolim.keeps kbh) (codeRec_of KH F.code) rfl hbind hcell hloc (λh₁ hns hk₁=>?_) hco hgen hk
 have noL:∀c ob,h.get? c=some ob->c≠h.objs.size:=λc ob e q=>by subst q;exact absurd (Heap.lt_size e) (Nat.lt_irrefl _)
 refine wpAny_mono (k h.objs.size h₁ ⟨hns,λa o e=>hk₁ _ _ (T.keep _ _ e),T.base,T.sz,?_,T.own.keeps λc U o e=>hk₁ _ _ e,λq=>?_⟩) (λfl s' y=>?_) λU V y=>y
 ·exact λo q=>absurd rfl (noL _ _ (T.keep _ _ q))
 ·obtain ⟨p,hp,hcp⟩:=List.mem_flatMap.mp q
  obtain⟨ob,eo⟩:=(T.own.at_ p hp).cell _ hcp
  exact noL _ _ eo rfl
 ·induction fl using Flow.casesOn<;>exact y
end
end
section
noncomputable def stm (i:Nat):Stmt:=(pw.main.body[i]?).getD (.Pass ⟨0,0,0,0⟩)
set_option backward.match.sparseCases false in
noncomputable def a20 (i j:Nat):Stmt:=match stm i with
 | .ClassDef _ _ _ b _ _ _ _ _ _ _=>(b[j]?).getD (.Pass ⟨0,0,0,0⟩)
 |s=>s
set_option backward.match.sparseCases false in
noncomputable def a35 (s:Stmt) (qual:Str) (dV pm cd:Value):FI:=match s with
 | .FunctionDef n a b _ _ _ sc _ _ _=>⟨n,qual,a,b,sc,dV,pm,cd⟩
 | _=>⟨"",qual,{posonlyargs:=[],args:=[],vararg:=none,kwonlyargs:=[],kw_defaults:=[],kwarg:=none,defaults:=[]},[],{kind:=.function,names:=[],isGenerator:=false,isCoroutine:=false,more:=[]},dV,pm,cd⟩
noncomputable def ay1:FI:=a35 (a20 2 0) (Str.ofString "Special.__init__") (.none) (.str (Str.ofString "scheme.data") 194) (.ref 34)
noncomputable def af0:FI:=a35 (a20 6 0) (Str.ofString "Symbol.__init__") (.none) (.str (Str.ofString "scheme.data") 194) (.ref 64)
noncomputable def a59:FI:=a35 (a20 7 0) (Str.ofString "SymbolTable.__init__") (.none) (.str (Str.ofString "scheme.data") 194) (.ref 85)
noncomputable def a50:FI:=a35 (a20 7 1) (Str.ofString "SymbolTable.symbol") (.none) (.str (Str.ofString "scheme.data") 194) (.ref 92)
noncomputable def a53:FI:=a35 (a20 7 2) (Str.ofString "SymbolTable.fresh") (.none) (.str (Str.ofString "scheme.data") 194) (.ref 99)
noncomputable def a37:FI:=a35 (a20 7 5) (Str.ofString "SymbolTable.is_interned") (.none) (.str (Str.ofString "scheme.data") 194) (.ref 120)
noncomputable def am2:FI:=a35 (a20 8 0) (Str.ofString "Pair.__init__") (.none) (.str (Str.ofString "scheme.data") 194) (.ref 148)
noncomputable def am3:FI:=a35 (a20 9 0) (Str.ofString "Char.__init__") (.none) (.str (Str.ofString "scheme.data") 194) (.ref 169)
noncomputable def am1:FI:=a35 (a20 10 0) (Str.ofString "Text.__init__") (.none) (.str (Str.ofString "scheme.data") 194) (.ref 190)
noncomputable def ae9:FI:=a35 (a20 11 0) (Str.ofString "Vector.__init__") (.none) (.str (Str.ofString "scheme.data") 194) (.ref 211)
noncomputable def ar0:FI:=a35 (a20 12 0) (Str.ofString "Box.__init__") (.none) (.str (Str.ofString "scheme.data") 194) (.ref 232)
noncomputable def ac1:FI:=a35 (a20 13 0) (Str.ofString "Promise.__init__") (.none) (.str (Str.ofString "scheme.data") 194) (.ref 253)
noncomputable def ac7:FI:=a35 (a20 14 0) (Str.ofString "PortRef.__init__") (.none) (.str (Str.ofString "scheme.data") 194) (.ref 274)
noncomputable def a76:FI:=a35 (a20 15 0) (Str.ofString "Procedure.__init__") (.none) (.str (Str.ofString "scheme.data") 194) (.ref 295)
noncomputable def a77:FI:=a35 (a20 16 0) (Str.ofString "Primitive.__init__") (.none) (.str (Str.ofString "scheme.data") 194) (.ref 316)
noncomputable def al9:FI:=a35 (stm 17) (Str.ofString "make_text") (.none) (.str (Str.ofString "scheme.data") 194) (.ref 326)
noncomputable def ae5:FI:=a35 (stm 18) (Str.ofString "python_text") (.none) (.str (Str.ofString "scheme.data") 194) (.ref 331)
noncomputable def ai4:FI:=a35 (stm 19) (Str.ofString "list_of") (.ref 333) (.str (Str.ofString "scheme.data") 194) (.ref 339)
noncomputable def ai5:FI:=a35 (stm 20) (Str.ofString "is_boolean") (.none) (.str (Str.ofString "scheme.data") 194) (.ref 346)
noncomputable def a60:FI:=a35 (a20 22 0) (Str.ofString "SchemeError.__init__") (.none) (.str (Str.ofString "scheme.errors") 643) (.ref 360)
noncomputable def ab7:FI:=a35 (a20 25 0) (Str.ofString "TooLong.__init__") (.none) (.str (Str.ofString "scheme.errors") 643) (.ref 418)
noncomputable def aw6:FI:=a35 (stm 30) (Str.ofString "is_real") (.none) (.str (Str.ofString "scheme.binary") 784) (.ref 470)
noncomputable def aD6:FI:=a35 (stm 46) (Str.ofString "gcd_of") (.none) (.str (Str.ofString "scheme.exact") 937) (.ref 589)
noncomputable def b53:FI:=a35 (stm 47) (Str.ofString "made") (.none) (.str (Str.ofString "scheme.exact") 937) (.ref 596)
noncomputable def aq3:FI:=a35 (stm 48) (Str.ofString "ratio_of") (.none) (.str (Str.ofString "scheme.exact") 937) (.ref 603)
noncomputable def ai6:FI:=a35 (stm 56) (Str.ofString "figures_of") (.none) (.str (Str.ofString "scheme.numtext") 995) (.ref 611)
noncomputable def ai0:FI:=a35 (stm 57) (Str.ofString "whole_text") (.none) (.str (Str.ofString "scheme.numtext") 995) (.ref 618)
noncomputable def ai7:FI:=a35 (stm 58) (Str.ofString "exact_text") (.none) (.str (Str.ofString "scheme.numtext") 995) (.ref 625)
noncomputable def ae6:FI:=a35 (stm 66) (Str.ofString "number_text") (.ref 725) (.str (Str.ofString "scheme.numtext") 995) (.ref 731)
noncomputable def aq1:FI:=a35 (stm 67) (Str.ofString "worth_of") (.none) (.str (Str.ofString "scheme.numtext") 995) (.ref 738)
noncomputable def ae8:FI:=a35 (stm 68) (Str.ofString "are_figures") (.none) (.str (Str.ofString "scheme.numtext") 995) (.ref 743)
noncomputable def aD5:FI:=a35 (stm 69) (Str.ofString "parted") (.none) (.str (Str.ofString "scheme.numtext") 995) (.ref 750)
noncomputable def ab8:FI:=a35 (a20 70 0) (Str.ofString "Reading.__init__") (.none) (.str (Str.ofString "scheme.numtext") 995) (.ref 764)
noncomputable def ai1:FI:=a35 (stm 71) (Str.ofString "read_whole") (.none) (.str (Str.ofString "scheme.numtext") 995) (.ref 778)
noncomputable def ai3:FI:=a35 (stm 75) (Str.ofString "mark_place") (.none) (.str (Str.ofString "scheme.numtext") 995) (.ref 804)
noncomputable def a96:FI:=a35 (stm 78) (Str.ofString "read_unsigned") (.none) (.str (Str.ofString "scheme.numtext") 995) (.ref 825)
noncomputable def a74:FI:=a35 (stm 79) (Str.ofString "split_prefixes") (.none) (.str (Str.ofString "scheme.numtext") 995) (.ref 832)
noncomputable def aq9:FI:=a35 (stm 80) (Str.ofString "finished") (.none) (.str (Str.ofString "scheme.numtext") 995) (.ref 839)
noncomputable def ab4:FI:=a35 (stm 81) (Str.ofString "parse_number") (.ref 841) (.str (Str.ofString "scheme.numtext") 995) (.ref 847)
noncomputable def ai8:FI:=a35 (a20 95 0) (Str.ofString "Token.__init__") (.none) (.str (Str.ofString "scheme.lexer") 1388) (.ref 870)
noncomputable def aD7:FI:=a35 (stm 96) (Str.ofString "folded") (.none) (.str (Str.ofString "scheme.lexer") 1388) (.ref 884)
noncomputable def aq8:FI:=a35 (stm 97) (Str.ofString "is_first") (.none) (.str (Str.ofString "scheme.lexer") 1388) (.ref 891)
noncomputable def aq7:FI:=a35 (stm 98) (Str.ofString "is_later") (.none) (.str (Str.ofString "scheme.lexer") 1388) (.ref 898)
noncomputable def a98:FI:=a35 (stm 99) (Str.ofString "is_identifier") (.none) (.str (Str.ofString "scheme.lexer") 1388) (.ref 905)
noncomputable def a97:FI:=a35 (stm 100) (Str.ofString "is_numberlike") (.none) (.str (Str.ofString "scheme.lexer") 1388) (.ref 912)
noncomputable def aI8:FI:=a35 (stm 101) (Str.ofString "sign_named") (.none) (.str (Str.ofString "scheme.lexer") 1388) (.ref 919)
noncomputable def ab5:FI:=a35 (stm 102) (Str.ofString "name_of_sign") (.none) (.str (Str.ofString "scheme.lexer") 1388) (.ref 926)
noncomputable def aj0:FI:=a35 (a20 103 0) (Str.ofString "Lexer.__init__") (.ref 935) (.str (Str.ofString "scheme.lexer") 1388) (.ref 941)
noncomputable def ai9:FI:=a35 (a20 103 1) (Str.ofString "Lexer.skip") (.none) (.str (Str.ofString "scheme.lexer") 1388) (.ref 948)
noncomputable def af6:FI:=a35 (a20 103 3) (Str.ofString "Lexer.token") (.none) (.str (Str.ofString "scheme.lexer") 1388) (.ref 962)
noncomputable def af8:FI:=a35 (a20 103 4) (Str.ofString "Lexer.found") (.none) (.str (Str.ofString "scheme.lexer") 1388) (.ref 969)
noncomputable def a78:FI:=a35 (a20 103 5) (Str.ofString "Lexer.word_end") (.none) (.str (Str.ofString "scheme.lexer") 1388) (.ref 976)
noncomputable def a62:FI:=a35 (a20 103 6) (Str.ofString "Lexer.word_token") (.none) (.str (Str.ofString "scheme.lexer") 1388) (.ref 983)
noncomputable def a66:FI:=a35 (a20 103 7) (Str.ofString "Lexer.number_in") (.none) (.str (Str.ofString "scheme.lexer") 1388) (.ref 990)
noncomputable def af7:FI:=a35 (a20 103 8) (Str.ofString "Lexer.sharp") (.none) (.str (Str.ofString "scheme.lexer") 1388) (.ref 997)
noncomputable def a36:FI:=a35 (a20 103 9) (Str.ofString "Lexer.sign_token") (.none) (.str (Str.ofString "scheme.lexer") 1388) (.ref 1004)
noncomputable def ac8:FI:=a35 (a20 103 10) (Str.ofString "Lexer.string") (.none) (.str (Str.ofString "scheme.lexer") 1388) (.ref 1011)
noncomputable def aj1:FI:=a35 (a20 108 0) (Str.ofString "Frame.__init__") (.none) (.str (Str.ofString "scheme.reader") 1652) (.ref 1032)
noncomputable def af3:FI:=a35 (a20 109 0) (Str.ofString "Reader.__init__") (.ref 1048) (.str (Str.ofString "scheme.reader") 1652) (.ref 1054)
noncomputable def ab9:FI:=a35 (a20 109 1) (Str.ofString "Reader.place") (.none) (.str (Str.ofString "scheme.reader") 1652) (.ref 1061)
noncomputable def af1:FI:=a35 (a20 109 2) (Str.ofString "Reader.read") (.none) (.str (Str.ofString "scheme.reader") 1652) (.ref 1068)
noncomputable def af2:FI:=a35 (a20 109 3) (Str.ofString "Reader.last") (.none) (.str (Str.ofString "scheme.reader") 1652) (.ref 1075)
noncomputable def a99:FI:=a35 (a20 109 4) (Str.ofString "Reader.quoted") (.none) (.str (Str.ofString "scheme.reader") 1652) (.ref 1082)
noncomputable def ac0:FI:=a35 (a20 109 5) (Str.ofString "Reader.opens") (.none) (.str (Str.ofString "scheme.reader") 1652) (.ref 1089)
noncomputable def aI9:FI:=a35 (a20 109 6) (Str.ofString "Reader.dot") (.none) (.str (Str.ofString "scheme.reader") 1652) (.ref 1096)
noncomputable def aa0:FI:=a35 (a20 109 7) (Str.ofString "Reader.closed") (.none) (.str (Str.ofString "scheme.reader") 1652) (.ref 1103)
noncomputable def af4:FI:=a35 (a20 109 8) (Str.ofString "Reader.atom") (.none) (.str (Str.ofString "scheme.reader") 1652) (.ref 1110)
noncomputable def a61:FI:=a35 (a20 109 9) (Str.ofString "Reader.delivered") (.none) (.str (Str.ofString "scheme.reader") 1652) (.ref 1117)
noncomputable def aq2:FI:=a35 (stm 110) (Str.ofString "read_one") (.ref 1126) (.str (Str.ofString "scheme.reader") 1652) (.ref 1132)
noncomputable def a75:FI:=a35 (stm 111) (Str.ofString "quotation_sign") (.none) (.str (Str.ofString "scheme.reader") 1652) (.ref 1139)
noncomputable def a49:FI:=a35 (stm 116) (Str.ofString "is_readable_symbol") (.none) (.str (Str.ofString "scheme.printer") 1836) (.ref 1146)
noncomputable def ab3:FI:=a35 (stm 117) (Str.ofString "written_sign") (.none) (.str (Str.ofString "scheme.printer") 1836) (.ref 1153)
noncomputable def a73:FI:=a35 (stm 118) (Str.ofString "written_string") (.none) (.str (Str.ofString "scheme.printer") 1836) (.ref 1160)
noncomputable def ai2:FI:=a35 (stm 119) (Str.ofString "other_text") (.none) (.str (Str.ofString "scheme.printer") 1836) (.ref 1167)
noncomputable def ac5:FI:=a35 (a20 120 0) (Str.ofString "Printer.__init__") (.none) (.str (Str.ofString "scheme.printer") 1836) (.ref 1181)
noncomputable def ac2:FI:=a35 (a20 120 1) (Str.ofString "Printer.told") (.none) (.str (Str.ofString "scheme.printer") 1836) (.ref 1188)
noncomputable def af5:FI:=a35 (a20 120 2) (Str.ofString "Printer.put") (.none) (.str (Str.ofString "scheme.printer") 1836) (.ref 1195)
noncomputable def aa1:FI:=a35 (a20 120 3) (Str.ofString "Printer.datum") (.none) (.str (Str.ofString "scheme.printer") 1836) (.ref 1202)
noncomputable def ac4:FI:=a35 (a20 120 4) (Str.ofString "Printer.pair") (.none) (.str (Str.ofString "scheme.printer") 1836) (.ref 1209)
noncomputable def ac3:FI:=a35 (a20 120 5) (Str.ofString "Printer.tail") (.none) (.str (Str.ofString "scheme.printer") 1836) (.ref 1216)
noncomputable def ac6:FI:=a35 (a20 120 6) (Str.ofString "Printer.atom") (.none) (.str (Str.ofString "scheme.printer") 1836) (.ref 1223)
noncomputable def a69:FI:=a35 (stm 121) (Str.ofString "write_text") (.ref 1232) (.str (Str.ofString "scheme.printer") 1836) (.ref 1238)
noncomputable def ab6:FI:=a35 (stm 122) (Str.ofString "display_text") (.ref 1240) (.str (Str.ofString "scheme.printer") 1836) (.ref 1246)
noncomputable def ae7:FI:=a35 (stm 123) (Str.ofString "is_readable") (.none) (.str (Str.ofString "scheme.printer") 1836) (.ref 1253)
noncomputable def am0:FI:=a35 (stm 125) (Str.ofString "_law_marks") (.none) (.str (Str.ofString "law_nt0262_01") 2003) (.ref 1260)
noncomputable def aq5:FI:=a35 (stm 126) (Str.ofString "_law_draw") (.none) (.str (Str.ofString "law_nt0262_01") 2003) (.ref 1267)
noncomputable def aq6:FI:=a35 (stm 127) (Str.ofString "_law_atom") (.none) (.str (Str.ofString "law_nt0262_01") 2003) (.ref 1274)
noncomputable def aq4:FI:=a35 (stm 128) (Str.ofString "_law_next") (.none) (.str (Str.ofString "law_nt0262_01") 2003) (.ref 1279)
noncomputable def a82:FI:=a35 (stm 129) (Str.ofString "_law_bounded") (.none) (.str (Str.ofString "law_nt0262_01") 2003) (.ref 1286)
noncomputable def ao8:FI:=a35 (stm 130) (Str.ofString "law") (.none) (.str (Str.ofString "law_nt0262_01") 2003) (.ref 1291)
noncomputable def ftab:List (Addr × FI):=
([
 (35,ay1),
 (65,af0),
 (86,a59),
 (93,a50),
 (100,a53),
 (121,a37),
 (149,am2),
 (170,am3),
 (191,am1),
 (212,ae9),
 (233,ar0),
 (254,ac1),
 (275,ac7),
 (296,a76),
 (317,a77),
 (327,al9),
 (332,ae5),
 (340,ai4),
 (347,ai5),
 (361,a60),
 (419,ab7),
 (471,aw6),
 (590,aD6),
 (597,b53),
 (604,aq3),
 (612,ai6),
 (619,ai0),
 (626,ai7),
 (732,ae6),
 (739,aq1)]:List (Addr × FI))++([
 (744,ae8),
 (751,aD5),
 (765,ab8),
 (779,ai1),
 (805,ai3),
 (826,a96),
 (833,a74),
 (840,aq9),
 (848,ab4),
 (871,ai8),
 (885,aD7),
 (892,aq8),
 (899,aq7),
 (906,a98),
 (913,a97),
 (920,aI8),
 (927,ab5),
 (942,aj0),
 (949,ai9),
 (963,af6),
 (970,af8),
 (977,a78),
 (984,a62),
 (991,a66),
 (998,af7),
 (1005,a36),
 (1012,ac8),
 (1033,aj1),
 (1055,af3),
 (1062,ab9)]:List (Addr × FI))++([
 (1069,af1),
 (1076,af2),
 (1083,a99),
 (1090,ac0),
 (1097,aI9),
 (1104,aa0),
 (1111,af4),
 (1118,a61),
 (1133,aq2),
 (1140,a75),
 (1147,a49),
 (1154,ab3),
 (1161,a73),
 (1168,ai2),
 (1182,ac5),
 (1189,ac2),
 (1196,af5),
 (1203,aa1),
 (1210,ac4),
 (1217,ac3),
 (1224,ac6),
 (1239,a69),
 (1247,ab6),
 (1254,ae7),
 (1261,am0),
 (1268,aq5),
 (1275,aq6),
 (1280,aq4),
 (1287,a82),
 (1292,ao8)]:List (Addr × FI))
noncomputable def gtab:List (Str × Option Value):=
([
 (Str.ofString "_wall",some (Value.ref 21)),
 (Str.ofString "Special",some (Value.ref 38)),
 (Str.ofString "EMPTY",some (Value.ref 44)),
 (Str.ofString "UNSPECIFIED",some (Value.ref 47)),
 (Str.ofString "EOF",some (Value.ref 50)),
 (Str.ofString "Symbol",some (Value.ref 68)),
 (Str.ofString "SymbolTable",some (Value.ref 131)),
 (Str.ofString "Pair",some (Value.ref 152)),
 (Str.ofString "Char",some (Value.ref 173)),
 (Str.ofString "Text",some (Value.ref 194)),
 (Str.ofString "Vector",some (Value.ref 215)),
 (Str.ofString "Box",some (Value.ref 236)),
 (Str.ofString "Promise",some (Value.ref 257)),
 (Str.ofString "PortRef",some (Value.ref 278)),
 (Str.ofString "Procedure",some (Value.ref 299)),
 (Str.ofString "Primitive",some (Value.ref 320)),
 (Str.ofString "make_text",some (Value.ref 327)),
 (Str.ofString "python_text",some (Value.ref 332)),
 (Str.ofString "list_of",some (Value.ref 340)),
 (Str.ofString "is_boolean",some (Value.ref 347)),
 (Str.ofString "SchemeError",some (Value.ref 364)),
 (Str.ofString "LexError",some (Value.ref 384)),
 (Str.ofString "ReadError",some (Value.ref 403)),
 (Str.ofString "TooLong",some (Value.ref 422)),
 (Str.ofString "OutOfRange",some (Value.ref 441)),
 (Str.ofString "REACH",some (Value.int 65536 788)),
 (Str.ofString "Real",some (Value.ref 460)),
 (Str.ofString "is_real",some (Value.ref 471)),
 (Str.ofString "size_of",some (Value.ref 478)),
 (Str.ofString "sign_of_whole",some (Value.ref 485))]:List (Str × Option Value))++([
 (Str.ofString "zeros_below",some (Value.ref 492)),
 (Str.ofString "lean",some (Value.ref 499)),
 (Str.ofString "nearest_shift",some (Value.ref 506)),
 (Str.ofString "shifted_round",some (Value.ref 513)),
 (Str.ofString "with_sticky",some (Value.ref 520)),
 (Str.ofString "rounded",some (Value.ref 527)),
 (Str.ofString "exact_parts",some (Value.ref 534)),
 (Str.ofString "place_of",some (Value.ref 541)),
 (Str.ofString "sign_of",some (Value.ref 548)),
 (Str.ofString "magnitude",some (Value.ref 555)),
 (Str.ofString "full_mantissa",some (Value.ref 562)),
 (Str.ofString "Ratio",some (Value.ref 579)),
 (Str.ofString "gcd_of",some (Value.ref 590)),
 (Str.ofString "made",some (Value.ref 597)),
 (Str.ofString "ratio_of",some (Value.ref 604)),
 (Str.ofString "FIGURES_numtext",some (Value.str (Str.ofString "0123456789abcdef") 997)),
 (Str.ofString "RADICES",some (Value.ref 605)),
 (Str.ofString "MARKS",some (Value.str (Str.ofString "esfdl") 1012)),
 (Str.ofString "MOST_EXPONENT_FIGURES",some (Value.int 5 1014)),
 (Str.ofString "MOST_BEFORE_POINT",some (Value.int 21 1016)),
 (Str.ofString "MOST_NOUGHTS_BEHIND_POINT",some (Value.int 6 1018)),
 (Str.ofString "figures_of",some (Value.ref 612)),
 (Str.ofString "whole_text",some (Value.ref 619)),
 (Str.ofString "exact_text",some (Value.ref 626)),
 (Str.ofString "Surroundings",some (Value.ref 678)),
 (Str.ofString "with_lower_ones",some (Value.ref 689)),
 (Str.ofString "tens_above",some (Value.ref 696)),
 (Str.ofString "shortest_figures",some (Value.ref 703)),
 (Str.ofString "without_noughts",some (Value.ref 710)),
 (Str.ofString "laid_out",some (Value.ref 717))]:List (Str × Option Value))++([
 (Str.ofString "decimal_text",some (Value.ref 724)),
 (Str.ofString "number_text",some (Value.ref 732)),
 (Str.ofString "worth_of",some (Value.ref 739)),
 (Str.ofString "are_figures",some (Value.ref 744)),
 (Str.ofString "parted",some (Value.ref 751)),
 (Str.ofString "Reading",some (Value.ref 768)),
 (Str.ofString "read_whole",some (Value.ref 779)),
 (Str.ofString "read_ratio",some (Value.ref 786)),
 (Str.ofString "are_decimal_parts",some (Value.ref 793)),
 (Str.ofString "read_exponent",some (Value.ref 800)),
 (Str.ofString "mark_place",some (Value.ref 805)),
 (Str.ofString "read_mantissa",some (Value.ref 812)),
 (Str.ofString "read_decimal",some (Value.ref 819)),
 (Str.ofString "read_unsigned",some (Value.ref 826)),
 (Str.ofString "split_prefixes",some (Value.ref 833)),
 (Str.ofString "finished",some (Value.ref 840)),
 (Str.ofString "parse_number",some (Value.ref 848)),
 (Str.ofString "BLANKS",some (Value.str (Str.ofString " \n\t\x0d\x0c") 1390)),
 (Str.ofString "DELIMITERS",some (Value.str (Str.ofString " \n\t\x0d\x0c()\";") 1392)),
 (Str.ofString "RESERVED",some (Value.str (Str.ofString "[]{}|") 1394)),
 (Str.ofString "SMALL",some (Value.str (Str.ofString "abcdefghijklmnopqrstuvwxyz") 1396)),
 (Str.ofString "CAPITALS",some (Value.str (Str.ofString "ABCDEFGHIJKLMNOPQRSTUVWXYZ") 1398)),
 (Str.ofString "FIGURES_lexer",some (Value.str (Str.ofString "0123456789") 1400)),
 (Str.ofString "FIRST_SIGNS",some (Value.str (Str.ofString "!$%&*/:<=>?^_~") 1402)),
 (Str.ofString "LATER_SIGNS",some (Value.str (Str.ofString "+-.@") 1404)),
 (Str.ofString "PECULIAR",some (Value.ref 849)),
 (Str.ofString "PREFIXES",some (Value.str (Str.ofString "bodxei") 1410)),
 (Str.ofString "SIGN_NAMES",some (Value.ref 852)),
 (Str.ofString "QUOTATIONS",some (Value.ref 857)),
 (Str.ofString "Token",some (Value.ref 874))]:List (Str × Option Value))++([
 (Str.ofString "folded",some (Value.ref 885)),
 (Str.ofString "is_first",some (Value.ref 892)),
 (Str.ofString "is_later",some (Value.ref 899)),
 (Str.ofString "is_identifier",some (Value.ref 906)),
 (Str.ofString "is_numberlike",some (Value.ref 913)),
 (Str.ofString "sign_named",some (Value.ref 920)),
 (Str.ofString "name_of_sign",some (Value.ref 927)),
 (Str.ofString "Lexer",some (Value.ref 1015)),
 (Str.ofString "NOT_DOTTED",some (Value.int 0 1654)),
 (Str.ofString "BEHIND_DOT",some (Value.int 1 1656)),
 (Str.ofString "HAS_TAIL",some (Value.int 2 1658)),
 (Str.ofString "Frame",some (Value.ref 1036)),
 (Str.ofString "Reader",some (Value.ref 1121)),
 (Str.ofString "read_one",some (Value.ref 1133)),
 (Str.ofString "quotation_sign",some (Value.ref 1140)),
 (Str.ofString "PIECE",some (Value.int 0 1838)),
 (Str.ofString "DATUM",some (Value.int 1 1840)),
 (Str.ofString "TAIL",some (Value.int 2 1842)),
 (Str.ofString "is_readable_symbol",some (Value.ref 1147)),
 (Str.ofString "written_sign",some (Value.ref 1154)),
 (Str.ofString "written_string",some (Value.ref 1161)),
 (Str.ofString "other_text",some (Value.ref 1168)),
 (Str.ofString "Printer",some (Value.ref 1227)),
 (Str.ofString "write_text",some (Value.ref 1239)),
 (Str.ofString "display_text",some (Value.ref 1247)),
 (Str.ofString "is_readable",some (Value.ref 1254)),
 (Str.ofString "_law_marks",some (Value.ref 1261)),
 (Str.ofString "_law_draw",some (Value.ref 1268)),
 (Str.ofString "_law_atom",some (Value.ref 1275)),
 (Str.ofString "_law_next",some (Value.ref 1280))]:List (Str × Option Value))++([
 (Str.ofString "_law_bounded",some (Value.ref 1287)),
 (Str.ofString "law",some (Value.ref 1292)),
 (Str.ofString "len",none),
 (Str.ofString "range",none),
 (Str.ofString "isinstance",none),
 (Str.ofString "ord",none),
 (Str.ofString "chr",none),
 (Str.ofString "abs",none),
 (Str.ofString "bool",none),
 (Str.ofString "max",none),
 (Str.ofString "min",none),
 (Str.ofString "str",none),
 (Str.ofString "divmod",none),
 (Str.ofString "reversed",none),
 (Str.ofString "all",none),
 (Str.ofString "enumerate",none),
 (Str.ofString "int",none)]:List (Str × Option Value))
noncomputable def ctab:List (Addr × List Str × Addr):=[
 (38,[Str.ofString "title"],35),
 (68,[Str.ofString "number",Str.ofString "text"],65),
 (131,[Str.ofString "rows",Str.ofString "by_text"],86),
 (152,[Str.ofString "car",Str.ofString "cdr"],149),
 (173,[Str.ofString "code"],170),
 (194,[Str.ofString "codes"],191),
 (215,[Str.ofString "things"],212),
 (236,[Str.ofString "content"],233),
 (257,[Str.ofString "is_done",Str.ofString "content"],254),
 (278,[Str.ofString "number"],275),
 (320,[Str.ofString "title",Str.ofString "op"],317),
 (768,[Str.ofString "top",Str.ofString "bottom",Str.ofString "is_exact"],765),
 (874,[Str.ofString "word",Str.ofString "value",Str.ofString "start",Str.ofString "end"],871),
 (1015,[Str.ofString "text",Str.ofString "precision",Str.ofString "place",Str.ofString "is_folded"],942),
 (1036,[Str.ofString "word",Str.ofString "start",Str.ofString "things",Str.ofString "state",Str.ofString "tail"],1033),
 (1121,[Str.ofString "lexer",Str.ofString "table",Str.ofString "frames"],1055),
 (1227,[Str.ofString "is_written",Str.ofString "precision",Str.ofString "radix",Str.ofString "limit",Str.ofString "table",Str.ofString "pieces",Str.ofString "length",Str.ofString "waiting"],1182)]
noncomputable def mtab:List (Addr × Str × Addr):=[
 (131,Str.ofString "symbol",93),
 (131,Str.ofString "fresh",100),
 (131,Str.ofString "is_interned",121),
 (1015,Str.ofString "skip",949),
 (1015,Str.ofString "token",963),
 (1015,Str.ofString "found",970),
 (1015,Str.ofString "word_end",977),
 (1015,Str.ofString "word_token",984),
 (1015,Str.ofString "number_in",991),
 (1015,Str.ofString "sharp",998),
 (1015,Str.ofString "sign_token",1005),
 (1015,Str.ofString "string",1012),
 (1121,Str.ofString "place",1062),
 (1121,Str.ofString "read",1069),
 (1121,Str.ofString "last",1076),
 (1121,Str.ofString "quoted",1083),
 (1121,Str.ofString "opens",1090),
 (1121,Str.ofString "dot",1097),
 (1121,Str.ofString "closed",1104),
 (1121,Str.ofString "atom",1111),
 (1121,Str.ofString "delivered",1118),
 (1227,Str.ofString "told",1189),
 (1227,Str.ofString "put",1196),
 (1227,Str.ofString "datum",1203),
 (1227,Str.ofString "pair",1210),
 (1227,Str.ofString "tail",1217),
 (1227,Str.ofString "atom",1224)]
noncomputable def ttab:List (Addr × List Value):=[
 (333,[.ref 44]),
 (725,[.int 10 1207]),
 (841,[.int 10 1372]),
 (935,[.int 53 1530,.bool true]),
 (1048,[.int 53 1707,.bool true]),
 (1126,[.int 53 1812,.bool true]),
 (1232,[.int 53 1968,.int 10 1969,.none,.none]),
 (1240,[.int 53 1981,.int 10 1982,.none]),
 (849,[.str (Str.ofString "+") 1406,.str (Str.ofString "-") 1407,.str (Str.ofString "...") 1408]),
 (850,[.str (Str.ofString "space") 1412,.str (Str.ofString " ") 1413]),
 (851,[.str (Str.ofString "newline") 1414,.str (Str.ofString "\n") 1415]),
 (852,[.ref 850,.ref 851]),
 (853,[.str (Str.ofString "'") 1417,.str (Str.ofString "quote") 1418]),
 (854,[.str (Str.ofString "`") 1419,.str (Str.ofString "quasiquote") 1420]),
 (855,[.str (Str.ofString ",") 1421,.str (Str.ofString "unquote") 1422]),
 (856,[.str (Str.ofString ",@") 1423,.str (Str.ofString "unquote-splicing") 1424]),
 (857,[.ref 853,.ref 854,.ref 855,.ref 856])]
noncomputable def stab:List (Addr × Addr × Str × Tok):=[
 (44,43,Str.ofString "empty",225),
 (47,46,Str.ofString "unspecified",231),
 (50,49,Str.ofString "eof",237)]
noncomputable def xtab:List (Addr × Addr):=[(299,296),(364,361)]
noncomputable def aJ0:List Addr:=[38,68,152,173,194,215,236,257,278,320]
noncomputable def aV9:List Addr:=[152,215,68,194,173,38,299,257,236,278,579,460]
noncomputable def rel (D C:Addr):Bool:=Nat.beq D C||(Nat.beq D 320&&Nat.beq C 299)
structure ad7 (K:Frag) (C:Addr) (names:List Str) (fI:Addr):Prop where
 cls:aM7 K C names=true
 makes:makesIn K C=true
 init:findIn K (.ref C) "__init__"=some (some (.ref fI))
 isFn:isFn K (.ref fI)=true
 keep:keepIn K (.ref C)=true
 pg:plainGet K C ""=true
noncomputable def aQ4 (K:Frag) (D:Addr):Bool:=plainGet K D "__class__"&&hasDictIn K D&&findIn K (.ref D) "__class__"==some (some (.builtin "object.__class__"))&&mroIn K D (.type "object")==some true&&kin_notT K D "bool"
noncomputable def a41 (x:Str) (t:Tok):List (Str × Value):=[("title",.str x t)]
structure KOk (K:Frag):Prop where
 tu:∀(i:Nat) (p:Addr × List Value),ttab[i]?=some p->∃n,K.lookup p.1=some {cls:=.type "tuple",data:=.seq p.2.toArray n}
 sp:∀(i:Nat) (p:Addr × Addr × Str × Tok),stab[i]?=some p->K.lookup p.1=some (instObj 38 p.2.1)/\X2 λes n=>K.lookup p.2.1=some (dictOf es n)/\a22 es (a41 p.2.2.1 p.2.2.2)
 cl:∀(i:Nat) (p:Addr × List Str × Addr),ctab[i]?=some p->ad7 K p.1 p.2.1 p.2.2
 me:∀(i:Nat) (p:Addr × Str × Addr),mtab[i]?=some p->findIn K (.ref p.1) p.2.1=some (some (.ref p.2.2))
 isa:∀D∈aJ0,∀C∈aV9,if rel D C=true then isIn K (.ref D) C=true else kin_not K D C=true
 cm:∀(i:Nat) (p:Addr × Addr),xtab[i]?=some p->specialIn K (.ref p.1) "__getattribute__"=some (some (.builtin "type.__getattribute__"))/\readsIn K p.1 (.type "type")=true/\findCls K (.ref p.1) (.type "type") "__init__"=some (.val (.ref p.2))
 isc:∀D∈aJ0,aQ4 K D=true
 ocg:specialIn K (.builtin "object.__class__") "__get__"=some (some (.builtin "getset_descriptor.__get__"))/\takesIn K (.builtin "object.__class__")=some true
 isp:∀T∈["int","str","bool"],∀C∈aV9,isNotIn K T C=true
 fn:∀(i:Nat) (p:Addr × FI),ftab[i]?=some p->a31 K p.1 p.2
 gl:∀(i:Nat) (p:Str × Option Value),gtab[i]?=some p->nsIn K mainGlobals p.1=some p.2
section
variable {K:Frag} (G:KOk K)
include G
theorem KOk.bt4:a31 K 65 af0:=G.fn 1 (65,af0) (by kernel_rfl)
theorem KOk.bw2:a31 K 86 a59:=G.fn 2 (86,a59) (by kernel_rfl)
theorem KOk.bw5:a31 K 93 a50:=G.fn 3 (93,a50) (by kernel_rfl)
theorem KOk.bC9:a31 K 100 a53:=G.fn 4 (100,a53) (by kernel_rfl)
theorem KOk.bv2:a31 K 121 a37:=G.fn 5 (121,a37) (by kernel_rfl)
theorem KOk.by9:a31 K 149 am2:=G.fn 6 (149,am2) (by kernel_rfl)
theorem KOk.bC8:a31 K 170 am3:=G.fn 7 (170,am3) (by kernel_rfl)
theorem KOk.bC5:a31 K 191 am1:=G.fn 8 (191,am1) (by kernel_rfl)
theorem KOk.by0:a31 K 212 ae9:=G.fn 9 (212,ae9) (by kernel_rfl)
theorem KOk.bw7:a31 K 233 ar0:=G.fn 10 (233,ar0) (by kernel_rfl)
theorem KOk.bu4:a31 K 254 ac1:=G.fn 11 (254,ac1) (by kernel_rfl)
theorem KOk.bu1:a31 K 275 ac7:=G.fn 12 (275,ac7) (by kernel_rfl)
theorem KOk.bt9:a31 K 296 a76:=G.fn 13 (296,a76) (by kernel_rfl)
theorem KOk.bB1:a31 K 317 a77:=G.fn 14 (317,a77) (by kernel_rfl)
theorem KOk.bD1:a31 K 327 al9:=G.fn 15 (327,al9) (by kernel_rfl)
theorem KOk.bC0:a31 K 332 ae5:=G.fn 16 (332,ae5) (by kernel_rfl)
theorem KOk.bD4:a31 K 340 ai4:=G.fn 17 (340,ai4) (by kernel_rfl)
theorem KOk.bC3:a31 K 347 ai5:=G.fn 18 (347,ai5) (by kernel_rfl)
theorem KOk.bt3:a31 K 361 a60:=G.fn 19 (361,a60) (by kernel_rfl)
theorem KOk.bt6:a31 K 419 ab7:=G.fn 20 (419,ab7) (by kernel_rfl)
theorem KOk.bz0:a31 K 471 aw6:=G.fn 21 (471,aw6) (by kernel_rfl)
theorem KOk.bB4:a31 K 590 aD6:=G.fn 22 (590,aD6) (by kernel_rfl)
theorem KOk.bC7:a31 K 597 b53:=G.fn 23 (597,b53) (by kernel_rfl)
theorem KOk.bA5:a31 K 604 aq3:=G.fn 24 (604,aq3) (by kernel_rfl)
theorem KOk.bx5:a31 K 612 ai6:=G.fn 25 (612,ai6) (by kernel_rfl)
theorem KOk.bz1:a31 K 619 ai0:=G.fn 26 (619,ai0) (by kernel_rfl)
theorem KOk.bt7:a31 K 626 ai7:=G.fn 27 (626,ai7) (by kernel_rfl)
theorem KOk.bs6:a31 K 732 ae6:=G.fn 28 (732,ae6) (by kernel_rfl)
theorem KOk.bx9:a31 K 739 aq1:=G.fn 29 (739,aq1) (by kernel_rfl)
theorem KOk.bC1:a31 K 744 ae8:=G.fn 30 (744,ae8) (by kernel_rfl)
theorem KOk.by3:a31 K 751 aD5:=G.fn 31 (751,aD5) (by kernel_rfl)
theorem KOk.bx8:a31 K 765 ab8:=G.fn 32 (765,ab8) (by kernel_rfl)
theorem KOk.bu6:a31 K 779 ai1:=G.fn 33 (779,ai1) (by kernel_rfl)
theorem KOk.bD0:a31 K 805 ai3:=G.fn 34 (805,ai3) (by kernel_rfl)
theorem KOk.bu3:a31 K 826 a96:=G.fn 35 (826,a96) (by kernel_rfl)
theorem KOk.bz3:a31 K 833 a74:=G.fn 36 (833,a74) (by kernel_rfl)
theorem KOk.bD5:a31 K 840 aq9:=G.fn 37 (840,aq9) (by kernel_rfl)
theorem KOk.bC4:a31 K 848 ab4:=G.fn 38 (848,ab4) (by kernel_rfl)
theorem KOk.bA3:a31 K 871 ai8:=G.fn 39 (871,ai8) (by kernel_rfl)
theorem KOk.bw3:a31 K 885 aD7:=G.fn 40 (885,aD7) (by kernel_rfl)
theorem KOk.bz4:a31 K 892 aq8:=G.fn 41 (892,aq8) (by kernel_rfl)
theorem KOk.bD2:a31 K 899 aq7:=G.fn 42 (899,aq7) (by kernel_rfl)
theorem KOk.bw0:a31 K 906 a98:=G.fn 43 (906,a98) (by kernel_rfl)
theorem KOk.bw9:a31 K 913 a97:=G.fn 44 (913,a97) (by kernel_rfl)
theorem KOk.by2:a31 K 927 ab5:=G.fn 46 (927,ab5) (by kernel_rfl)
theorem KOk.bs2:a31 K 942 aj0:=G.fn 47 (942,aj0) (by kernel_rfl)
theorem KOk.bv5:a31 K 949 ai9:=G.fn 48 (949,ai9) (by kernel_rfl)
theorem KOk.bt8:a31 K 963 af6:=G.fn 49 (963,af6) (by kernel_rfl)
theorem KOk.bz9:a31 K 970 af8:=G.fn 50 (970,af8) (by kernel_rfl)
theorem KOk.bB2:a31 K 977 a78:=G.fn 51 (977,a78) (by kernel_rfl)
theorem KOk.bs5:a31 K 984 a62:=G.fn 52 (984,a62) (by kernel_rfl)
theorem KOk.bs3:a31 K 991 a66:=G.fn 53 (991,a66) (by kernel_rfl)
theorem KOk.bs9:a31 K 998 af7:=G.fn 54 (998,af7) (by kernel_rfl)
theorem KOk.bB3:a31 K 1005 a36:=G.fn 55 (1005,a36) (by kernel_rfl)
theorem KOk.bz5:a31 K 1012 ac8:=G.fn 56 (1012,ac8) (by kernel_rfl)
theorem KOk.bA6:a31 K 1033 aj1:=G.fn 57 (1033,aj1) (by kernel_rfl)
theorem KOk.bv0:a31 K 1055 af3:=G.fn 58 (1055,af3) (by kernel_rfl)
theorem KOk.bA4:a31 K 1062 ab9:=G.fn 59 (1062,ab9) (by kernel_rfl)
theorem KOk.bA1:a31 K 1069 af1:=G.fn 60 (1069,af1) (by kernel_rfl)
theorem KOk.bs0:a31 K 1076 af2:=G.fn 61 (1076,af2) (by kernel_rfl)
theorem KOk.by7:a31 K 1083 a99:=G.fn 62 (1083,a99) (by kernel_rfl)
theorem KOk.bx0:a31 K 1090 ac0:=G.fn 63 (1090,ac0) (by kernel_rfl)
theorem KOk.bv7:a31 K 1104 aa0:=G.fn 65 (1104,aa0) (by kernel_rfl)
theorem KOk.bv3:a31 K 1111 af4:=G.fn 66 (1111,af4) (by kernel_rfl)
theorem KOk.bx6:a31 K 1118 a61:=G.fn 67 (1118,a61) (by kernel_rfl)
theorem KOk.bw6:a31 K 1133 aq2:=G.fn 68 (1133,aq2) (by kernel_rfl)
theorem KOk.bB0:a31 K 1140 a75:=G.fn 69 (1140,a75) (by kernel_rfl)
theorem KOk.bw1:a31 K 1147 a49:=G.fn 70 (1147,a49) (by kernel_rfl)
theorem KOk.bv4:a31 K 1154 ab3:=G.fn 71 (1154,ab3) (by kernel_rfl)
theorem KOk.bB8:a31 K 1161 a73:=G.fn 72 (1161,a73) (by kernel_rfl)
theorem KOk.by8:a31 K 1168 ai2:=G.fn 73 (1168,ai2) (by kernel_rfl)
theorem KOk.bx1:a31 K 1182 ac5:=G.fn 74 (1182,ac5) (by kernel_rfl)
theorem KOk.bA7:a31 K 1189 ac2:=G.fn 75 (1189,ac2) (by kernel_rfl)
theorem KOk.bB5:a31 K 1196 af5:=G.fn 76 (1196,af5) (by kernel_rfl)
theorem KOk.bt1:a31 K 1203 aa1:=G.fn 77 (1203,aa1) (by kernel_rfl)
theorem KOk.bs4:a31 K 1210 ac4:=G.fn 78 (1210,ac4) (by kernel_rfl)
theorem KOk.bu7:a31 K 1217 ac3:=G.fn 79 (1217,ac3) (by kernel_rfl)
theorem KOk.bs7:a31 K 1224 ac6:=G.fn 80 (1224,ac6) (by kernel_rfl)
theorem KOk.bz2:a31 K 1239 a69:=G.fn 81 (1239,a69) (by kernel_rfl)
theorem KOk.bs8:a31 K 1247 ab6:=G.fn 82 (1247,ab6) (by kernel_rfl)
theorem KOk.bx2:a31 K 1254 ae7:=G.fn 83 (1254,ae7) (by kernel_rfl)
theorem KOk.bv8:a31 K 1261 am0:=G.fn 84 (1261,am0) (by kernel_rfl)
theorem KOk.bw4:a31 K 1268 aq5:=G.fn 85 (1268,aq5) (by kernel_rfl)
theorem KOk.bA0:a31 K 1275 aq6:=G.fn 86 (1275,aq6) (by kernel_rfl)
theorem KOk.bA8:a31 K 1280 aq4:=G.fn 87 (1280,aq4) (by kernel_rfl)
theorem KOk.by4:a31 K 1287 a82:=G.fn 88 (1287,a82) (by kernel_rfl)
theorem KOk.bv9:a31 K 1292 ao8:=G.fn 89 (1292,ao8) (by kernel_rfl)
theorem KOk.by1:nsIn K mainGlobals (Str.ofString "Procedure")=some (some (Value.ref 299)):=G.gl 14 (Str.ofString "Procedure",some (Value.ref 299)) (by kernel_rfl)
theorem KOk.bz7:nsIn K mainGlobals (Str.ofString "TooLong")=some (some (Value.ref 422)):=G.gl 23 (Str.ofString "TooLong",some (Value.ref 422)) (by kernel_rfl)
theorem KOk.bw8:nsIn K mainGlobals (Str.ofString "FIGURES_numtext")=some (some (Value.str (Str.ofString "0123456789abcdef") 997)):=G.gl 45 (Str.ofString "FIGURES_numtext",some (Value.str (Str.ofString "0123456789abcdef") 997)) (by kernel_rfl)
theorem KOk.bt2:nsIn K mainGlobals (Str.ofString "MARKS")=some (some (Value.str (Str.ofString "esfdl") 1012)):=G.gl 47 (Str.ofString "MARKS",some (Value.str (Str.ofString "esfdl") 1012)) (by kernel_rfl)
theorem KOk.bx4:nsIn K mainGlobals (Str.ofString "law")=some (some (Value.ref 1292)):=G.gl 121 (Str.ofString "law",some (Value.ref 1292)) (by kernel_rfl)
theorem KOk.bu2:nsIn K mainGlobals (Str.ofString "ord")=some none:=G.gl 125 (Str.ofString "ord",none) (by kernel_rfl)
theorem KOk.bC6:nsIn K mainGlobals (Str.ofString "chr")=some none:=G.gl 126 (Str.ofString "chr",none) (by kernel_rfl)
theorem KOk.bA2:nsIn K mainGlobals (Str.ofString "abs")=some none:=G.gl 127 (Str.ofString "abs",none) (by kernel_rfl)
theorem KOk.bu5:ad7 K 68 [Str.ofString "number",Str.ofString "text"] 65:=G.cl 1 (68,[Str.ofString "number",Str.ofString "text"],65) (by kernel_rfl)
theorem KOk.bB9:ad7 K 131 [Str.ofString "rows",Str.ofString "by_text"] 86:=G.cl 2 (131,[Str.ofString "rows",Str.ofString "by_text"],86) (by kernel_rfl)
theorem KOk.bu9:ad7 K 152 [Str.ofString "car",Str.ofString "cdr"] 149:=G.cl 3 (152,[Str.ofString "car",Str.ofString "cdr"],149) (by kernel_rfl)
theorem KOk.bB7:ad7 K 173 [Str.ofString "code"] 170:=G.cl 4 (173,[Str.ofString "code"],170) (by kernel_rfl)
theorem KOk.bu0:ad7 K 194 [Str.ofString "codes"] 191:=G.cl 5 (194,[Str.ofString "codes"],191) (by kernel_rfl)
theorem KOk.bt5:ad7 K 215 [Str.ofString "things"] 212:=G.cl 6 (215,[Str.ofString "things"],212) (by kernel_rfl)
theorem KOk.bu8:ad7 K 236 [Str.ofString "content"] 233:=G.cl 7 (236,[Str.ofString "content"],233) (by kernel_rfl)
theorem KOk.bB6:ad7 K 257 [Str.ofString "is_done",Str.ofString "content"] 254:=G.cl 8 (257,[Str.ofString "is_done",Str.ofString "content"],254) (by kernel_rfl)
theorem KOk.bz6:ad7 K 278 [Str.ofString "number"] 275:=G.cl 9 (278,[Str.ofString "number"],275) (by kernel_rfl)
theorem KOk.bt0:ad7 K 320 [Str.ofString "title",Str.ofString "op"] 317:=G.cl 10 (320,[Str.ofString "title",Str.ofString "op"],317) (by kernel_rfl)
theorem KOk.by5:ad7 K 768 [Str.ofString "top",Str.ofString "bottom",Str.ofString "is_exact"] 765:=G.cl 11 (768,[Str.ofString "top",Str.ofString "bottom",Str.ofString "is_exact"],765) (by kernel_rfl)
theorem KOk.bv6:ad7 K 874 [Str.ofString "word",Str.ofString "value",Str.ofString "start",Str.ofString "end"] 871:=G.cl 12 (874,[Str.ofString "word",Str.ofString "value",Str.ofString "start",Str.ofString "end"],871) (by kernel_rfl)
theorem KOk.bx3:ad7 K 1015 [Str.ofString "text",Str.ofString "precision",Str.ofString "place",Str.ofString "is_folded"] 942:=G.cl 13 (1015,[Str.ofString "text",Str.ofString "precision",Str.ofString "place",Str.ofString "is_folded"],942) (by kernel_rfl)
theorem KOk.by6:ad7 K 1036 [Str.ofString "word",Str.ofString "start",Str.ofString "things",Str.ofString "state",Str.ofString "tail"] 1033:=G.cl 14 (1036,[Str.ofString "word",Str.ofString "start",Str.ofString "things",Str.ofString "state",Str.ofString "tail"],1033) (by kernel_rfl)
theorem KOk.bC2:ad7 K 1121 [Str.ofString "lexer",Str.ofString "table",Str.ofString "frames"] 1055:=G.cl 15 (1121,[Str.ofString "lexer",Str.ofString "table",Str.ofString "frames"],1055) (by kernel_rfl)
theorem KOk.bx7:ad7 K 1227 [Str.ofString "is_written",Str.ofString "precision",Str.ofString "radix",Str.ofString "limit",Str.ofString "table",Str.ofString "pieces",Str.ofString "length",Str.ofString "waiting"] 1182:=G.cl 16 (1227,[Str.ofString "is_written",Str.ofString "precision",Str.ofString "radix",Str.ofString "limit",Str.ofString "table",Str.ofString "pieces",Str.ofString "length",Str.ofString "waiting"],1182) (by kernel_rfl)
theorem KOk.t_333:∃n,K.lookup 333=some {cls:=.type "tuple",data:=.seq ([.ref 44]:List Value).toArray n}:=G.tu 0 (333,[.ref 44]) (by kernel_rfl)
theorem KOk.t_725:∃n,K.lookup 725=some {cls:=.type "tuple",data:=.seq ([.int 10 1207]:List Value).toArray n}:=G.tu 1 (725,[.int 10 1207]) (by kernel_rfl)
theorem KOk.t_841:∃n,K.lookup 841=some {cls:=.type "tuple",data:=.seq ([.int 10 1372]:List Value).toArray n}:=G.tu 2 (841,[.int 10 1372]) (by kernel_rfl)
theorem KOk.t_935:∃n,K.lookup 935=some {cls:=.type "tuple",data:=.seq ([.int 53 1530,.bool true]:List Value).toArray n}:=G.tu 3 (935,[.int 53 1530,.bool true]) (by kernel_rfl)
theorem KOk.t_1048:∃n,K.lookup 1048=some {cls:=.type "tuple",data:=.seq ([.int 53 1707,.bool true]:List Value).toArray n}:=G.tu 4 (1048,[.int 53 1707,.bool true]) (by kernel_rfl)
theorem KOk.t_1126:∃n,K.lookup 1126=some {cls:=.type "tuple",data:=.seq ([.int 53 1812,.bool true]:List Value).toArray n}:=G.tu 5 (1126,[.int 53 1812,.bool true]) (by kernel_rfl)
theorem KOk.t_1232:∃n,K.lookup 1232=some {cls:=.type "tuple",data:=.seq ([.int 53 1968,.int 10 1969,.none,.none]:List Value).toArray n}:=G.tu 6 (1232,[.int 53 1968,.int 10 1969,.none,.none]) (by kernel_rfl)
theorem KOk.t_1240:∃n,K.lookup 1240=some {cls:=.type "tuple",data:=.seq ([.int 53 1981,.int 10 1982,.none]:List Value).toArray n}:=G.tu 7 (1240,[.int 53 1981,.int 10 1982,.none]) (by kernel_rfl)
theorem KOk.t_849:∃n,K.lookup 849=some {cls:=.type "tuple",data:=.seq ([.str (Str.ofString "+") 1406,.str (Str.ofString "-") 1407,.str (Str.ofString "...") 1408]:List Value).toArray n}:=G.tu 8 (849,[.str (Str.ofString "+") 1406,.str (Str.ofString "-") 1407,.str (Str.ofString "...") 1408]) (by kernel_rfl)
theorem KOk.t_850:∃n,K.lookup 850=some {cls:=.type "tuple",data:=.seq ([.str (Str.ofString "space") 1412,.str (Str.ofString " ") 1413]:List Value).toArray n}:=G.tu 9 (850,[.str (Str.ofString "space") 1412,.str (Str.ofString " ") 1413]) (by kernel_rfl)
theorem KOk.t_851:∃n,K.lookup 851=some {cls:=.type "tuple",data:=.seq ([.str (Str.ofString "newline") 1414,.str (Str.ofString "\n") 1415]:List Value).toArray n}:=G.tu 10 (851,[.str (Str.ofString "newline") 1414,.str (Str.ofString "\n") 1415]) (by kernel_rfl)
theorem KOk.t_852:∃n,K.lookup 852=some {cls:=.type "tuple",data:=.seq ([.ref 850,.ref 851]:List Value).toArray n}:=G.tu 11 (852,[.ref 850,.ref 851]) (by kernel_rfl)
theorem KOk.t_853:∃n,K.lookup 853=some {cls:=.type "tuple",data:=.seq ([.str (Str.ofString "'") 1417,.str (Str.ofString "quote") 1418]:List Value).toArray n}:=G.tu 12 (853,[.str (Str.ofString "'") 1417,.str (Str.ofString "quote") 1418]) (by kernel_rfl)
theorem KOk.t_854:∃n,K.lookup 854=some {cls:=.type "tuple",data:=.seq ([.str (Str.ofString "`") 1419,.str (Str.ofString "quasiquote") 1420]:List Value).toArray n}:=G.tu 13 (854,[.str (Str.ofString "`") 1419,.str (Str.ofString "quasiquote") 1420]) (by kernel_rfl)
theorem KOk.t_855:∃n,K.lookup 855=some {cls:=.type "tuple",data:=.seq ([.str (Str.ofString ",") 1421,.str (Str.ofString "unquote") 1422]:List Value).toArray n}:=G.tu 14 (855,[.str (Str.ofString ",") 1421,.str (Str.ofString "unquote") 1422]) (by kernel_rfl)
theorem KOk.t_856:∃n,K.lookup 856=some {cls:=.type "tuple",data:=.seq ([.str (Str.ofString ",@") 1423,.str (Str.ofString "unquote-splicing") 1424]:List Value).toArray n}:=G.tu 15 (856,[.str (Str.ofString ",@") 1423,.str (Str.ofString "unquote-splicing") 1424]) (by kernel_rfl)
theorem KOk.t_857:∃n,K.lookup 857=some {cls:=.type "tuple",data:=.seq ([.ref 853,.ref 854,.ref 855,.ref 856]:List Value).toArray n}:=G.tu 16 (857,[.ref 853,.ref 854,.ref 855,.ref 856]) (by kernel_rfl)
theorem KOk.bD3:K.lookup 44=some (instObj 38 43)/\X2 λes n=>K.lookup 43=some (dictOf es n)/\a22 es (a41 (Str.ofString "empty") 225):=G.sp 0 (44,43,Str.ofString "empty",225) (by kernel_rfl)
theorem KOk.bA9:K.lookup 47=some (instObj 38 46)/\X2 λes n=>K.lookup 46=some (dictOf es n)/\a22 es (a41 (Str.ofString "unspecified") 231):=G.sp 1 (47,46,Str.ofString "unspecified",231) (by kernel_rfl)
theorem KOk.bz8:K.lookup 50=some (instObj 38 49)/\X2 λes n=>K.lookup 49=some (dictOf es n)/\a22 es (a41 (Str.ofString "eof") 237):=G.sp 2 (50,49,Str.ofString "eof",237) (by kernel_rfl)
theorem KOk.bv1:specialIn K (.ref 299) "__getattribute__"=some (some (.builtin "type.__getattribute__"))/\readsIn K 299 (.type "type")=true/\findCls K (.ref 299) (.type "type") "__init__"=some (.val (.ref 296)):=G.cm 0 (299,296) (by kernel_rfl)
end
end
section
section
variable {w:World} {K:Frag} {A:Around} {E:Value->Shared->Prop} {z:Z} {b h h':Heap} {g:Bas} {t:Nat} {L f:Addr} {l:List (Str × Value)} {fp:FP} {q:Str} {sc:Scope} {cd:Value} {env:Env}
theorem x_add {a c:Int} {u v:Tok} {Q:Value->Shared->Prop} (k:∀tk,Q (.int (a+c) tk) (sh z h (t+1))):wpAny (model pw w) A (binaryOp .Add (.int a u) (.int c v)) Q E (sh z h t):=add_int (k t)
theorem x_sub {a c:Int} {u v:Tok} {Q:Value->Shared->Prop} (k:∀tk,Q (.int (a -c) tk) (sh z h (t+1))):wpAny (model pw w) A (binaryOp .Sub (.int a u) (.int c v)) Q E (sh z h t):=sub_int (k t)
theorem x_lt {a c:Int} {u v:Tok} {Q:Value->Shared->Prop} (k:Q (.bool (decide (a<c))) (sh z h t)):wpAny (model pw w) A (compareOp .Lt (.int a u) (.int c v)) Q E (sh z h t):=lt_int k
theorem x_gt {a c:Int} {u v:Tok} {Q:Value->Shared->Prop} (k:Q (.bool (decide (c<a))) (sh z h t)):wpAny (model pw w) A (compareOp .Gt (.int a u) (.int c v)) Q E (sh z h t):=gt_int k
theorem aE0 {v:Value} {Q:Value->Shared->Prop} (k:Q (.bool (!(v== .none))) (sh z h t)):wpAny (model pw w) A (compareOp .IsNot v .none) Q E (sh z h t):=isnot_none_gen k
theorem aW4 {v:Value} {Q:Value->Shared->Prop} (k:Q (.bool (v== .none)) (sh z h t)):wpAny (model pw w) A (compareOp .Is v .none) Q E (sh z h t):=is_none_gen k
theorem a09 {x:Str} {u:Tok} {Q:Value->Shared->Prop} (hx:(x.length:Int)<9223372036854775808) (k:∀tk,Q (.int x.length tk) (sh z h (t+2))):wpAny (model pw w) A (call (.builtin "len") [.str x u]) Q E (sh z h t):=SBL.len hx (k _)
theorem bk2 {n:Nat} {pos:Pos} {Q:Value->Shared->Prop} (k:Q .none (sh z h t)):wpAny (model pw w) A (eval (.Constant .none n pos) env) Q E (sh z h t):=wpAny_Constant_none k
theorem St.isList (S:St w.params b g L l fp h) (i:Nat) {a:Addr} {vs:List Value} (e:fp[i]?=some (a,.list vs)):h.IsList a vs.toArray:=by
 obtain⟨n,e⟩:=S.own.at_ _ (List.mem_of_getElem? e)
 exact⟨_,e,rfl,n,rfl⟩
theorem noDict {a:Addr} {vs:List Value} {n:Nat} (e:h.get? a=some (listOf vs.toArray n)):h.NoDictAt (.ref a):=by
 exact⟨_,e,rfl⟩
theorem a02 {a:Addr} {vs:List Value} {v:Value} {Q:Value->Shared->Prop} (i:Nat) (S:St w.params b g L l fp h) (e:fp[i]?=some (a,.list vs)) (hz:vs.length<=sizeLine)
  (k:∀h',St w.params b g L l (fp.set i (a,.list (vs++[v]))) h'->Q .none (sh z h' t)):wpAny (model pw w) A (call (.builtin "list.append") [.ref a,v]) Q E (sh z h t):=by
 obtain⟨n,ea⟩:=S.own.at_ _ (List.mem_of_getElem? e)
 have ha:a∈fp.cells:=FP.cells_mem (List.mem_of_getElem? e) (by exact .head _)
 refine append_at (s:=sh z h t) ea (λh' hs ho=>k h' (S.upd e rfl (c:=a) (.head _) ?_ (λc ob ec U n2=>(hs.2 c n2).trans ec) ⟨n+1,?_⟩)) (by simpa using hz)
 ·obtain ⟨o,es,ep,eL,r⟩:=S.ns
  exact⟨o,es,ep,(hs.2 L (λq=>S.nL (q▸ha))).trans eL,r⟩
 ·rw [ho];simp
theorem aS8 {a:Addr} {vs:List Value} {pl:Sem Bool} {Q:Value × List Value->Shared->Prop} (i:Nat) (S:St w.params b g L l fp h) (e:fp[i]?=some (a,.list vs)) (k:Q (.builtin "list.append",[.ref a]) (sh z h t)):
  wpAny (model pw w) A (getMethod (.ref a) "append" pl) Q E (sh z h t):=by
 obtain⟨n,ea⟩:=S.own.at_ _ (List.mem_of_getElem? e)
 exact getMethod_list_of PySem.F.slot_list_append PySem.F.type_list_append (S.isList i e) (noDict ea) k
end
end
section
section
variable {w:World} {K:Frag} {A:Around} {E:Value->Shared->Prop} {z:Z} {b h h':Heap} {g:Bas} {t:Nat} {L f:Addr} {l:List (Str × Value)} {fp:FP} {q:Str} {sc:Scope} {cd:Value} {env:Env} {s:Shared} {M:Model}
theorem bq1 {value:Expr} {attr:Str} {pos:Pos} {Q:Value->Shared->Prop} (h:wpAny (model pw w) A (eval value env) (λo s₁=>wpAny (model pw w) A (getAttr o attr true) Q E s₁) E s)
  (he:eval (.Attribute value attr pos) env=(do
   let o<-eval value env
   standAt pos.atName
   let r<-holding [o] (getAttr o attr true)
   letTemporaryGo value o r
   pure r):=by kernel_rfl):wpAny (model pw w) A (eval (.Attribute value attr pos) env) Q E s:=Attribute_any_ h he
noncomputable abbrev bb4 (o:Expr) (env:Env):Sem Bool:=do return (<-importBound o env).getD true
theorem b36 {func:Expr} {args:List Expr} {pos:Pos} {Q:Value->Shared->Prop} (h:wpAny M A (eval func env) (λf s₁=>wpAny M A (callWith pos f [] (backTo pos (starEach args env)) []) Q E s₁) E s)
  (he:eval (.Call func args [] pos) env=(do
   let f<-eval func env
   callWith pos f [] (backTo pos (starEach args env)) (backToKw pos (keywordEach [] env))):=by kernel_rfl):wpAny M A (eval (.Call func args [] pos) env) Q E s:=Call_ h he
theorem b48 {e:Expr} {rest:List Expr} {pos:Pos} {Q:List Value->Shared->Prop} (h:wpAny M A (eval e env) (λv s₁=>wpAny M A (spliced (backTo pos (starEach rest env))) (λvs s₂=>Q (v::vs) s₂) E s₁) E s)
  (he:starEach (e::rest) env=(false,eval e env)::starEach rest env:=by kernel_rfl):wpAny M A (spliced (backTo pos (starEach (e::rest) env))) Q E s:=spliced_more h he
end
section
variable {w:World} {K:Frag} {A:Around} {z:Z} {b h:Heap} {g:Bas} {t:Nat} {f:Addr} {fp:FP}
noncomputable def bj3 (z:Z) (Post:Value->Heap->Prop):Flow->Shared->Prop:=λfl s'=>X2 λh' t'=>s'=sh z h' t'/\Post (retv fl) h'
noncomputable def NoE:Value->Shared->Prop:=λU V=>False
theorem aG9 {i:FI} {args:List Value} {binds:List (Str × Value)} {Post:Value->Heap->Prop} (F:a31 K f i) (X:a01 w K b) (T:Sit w.params b g fp h) (room:A.depth<recursionLimit)
  (hbind:BindsTo (sh z h t) i.fd ⟨args,[]⟩ binds) (hloc:(binds.all λx=>decide (i.scope.names.lookup x.1=some .local))=true)
  (k:∀L h₁,St w.params b g L binds.reverse fp h₁->wpAny (model pw w) (A.deeper (envOf i.qual i.scope L f i.cd)) (execs i.body (envOf i.qual i.scope L f i.cd)) (bj3 z Post) NoE (sh z h₁ (t+binds.length)))
  (hcell:(i.scope.names.all λx=>x.2 != .cell)=true:=by kernel_rfl)
  (hco:i.scope.isCoroutine=false:=by kernel_rfl) (hgen:i.scope.isGenerator=false:=by kernel_rfl) (hk:i.scope.kind= .function:=by kernel_rfl):a07 w A z (.ref f) args h t Post:=by
 refine bq0 F X T room hbind (locs hloc) (λL h₁ S=>wpAny_mono (k L h₁ S) (λfl s' y=>?_) λU V y=>y.elim) (λx hx=>?_) hco hgen hk
 ·obtain ⟨h',t',e,p⟩:=y
  exact⟨_,h',t',rfl,e,p⟩
 ·have:=List.all_eq_true.mp hcell x hx
  simpa using this
theorem aA4 {v:Value} {Post:Value->Heap->Prop} (p:Post v h):bj3 z Post (.ret v) (sh z h t):=⟨h,t,rfl,p⟩
theorem aA5 {Post:Value->Heap->Prop} (p:Post .none h):bj3 z Post .next (sh z h t):=⟨h,t,rfl,p⟩
end
end
section
noncomputable def a04 (A:Around) (n:Nat):Prop:=A.depth+n<recursionLimit/\A.units+8*n<cLine
theorem a04.here {A:Around} {n:Nat} (r:a04 A n):A.depth<recursionLimit:=Nat.lt_of_le_of_lt (Nat.le_add_right _ _) r.1
theorem a04.less {A:Around} {n m:Nat} (r:a04 A n) (h:m<=n):a04 A m:=⟨by have:=r.1;lia,by have:=r.2;lia⟩
theorem a04.deeper {A:Around} {n m:Nat} (r:a04 A n) (h:m<n) {env:Env}:a04 (A.deeper env) m:=by
 obtain⟨a,c⟩:=r
 refine⟨?_,?_⟩
 ·show A.depth+1+m<_;lia
 ·show A.units+3+8*m<_;lia
theorem a04.make {A:Around} {n m:Nat} (r:a04 A n) (h:m<n) {C:Addr} {vals:List Value}:a04 (A.under (.builtin "type.__call__" ⟨.ref C::vals,[]⟩)) m:=by
 obtain⟨a,c⟩:=r
 refine⟨?_,?_⟩
 ·show A.depth+1+m<_;lia
 ·have:(Code.builtin "type.__call__" ⟨.ref C::vals,[]⟩).cUnits=1:=rfl
  show A.units+(Code.builtin "type.__call__" ⟨.ref C::vals,[]⟩).cUnits+8*m<_
  lia
section
variable {w:World} {K:Frag} {A:Around} {E:Value->Shared->Prop} {z:Z} {b h h':Heap} {g:Bas} {t:Nat} {L f:Addr} {l:List (Str × Value)} {fp:FP} {q:Str} {sc:Scope} {cd:Value} {env:Env}
theorem aL1 {g:Bas} {h:Heap} (k:Keeps g h) {a:Addr} (ha:h.objs.size<=a):∀o,¬ g a o:=λU q=>absurd (Heap.lt_size (k _ _ q)) (Nat.not_lt.mpr ha)
theorem at1 {P:Params} {g:Bas} {h:Heap} {fp:FP} (O:Own P g fp h) {c:Addr} (hc:c∈fp.cells):c<h.objs.size:=by
 obtain⟨p,hp,hcp⟩:=List.mem_flatMap.mp hc
 obtain⟨ob,eo⟩:=(O.at_ p hp).cell c hcp
 exact Heap.lt_size eo
theorem St.L_lt {P:Params} (S:St P b g L l fp h):L<h.objs.size:=by
 obtain⟨o,_,_,e,_⟩:=S.ns
 exact Heap.lt_size e
theorem St.more {P:Params} (S:St P b g L l fp h) (k:a15 h h') {a:Addr} {ao:AO} (hat:ao.At P h' a) (hc:∀c∈ao.cells a,h.objs.size<=c) (nd:(ao.cells a).Nodup):St P b g L l ((a,ao)::fp) h':=by
 have S':=S.grow k
 have ec:FP.cells ((a,ao)::fp)=ao.cells a++fp.cells:=by unfold FP.cells;rw[List.flatMap_cons]
 refine⟨S'.ns,S'.keep,S'.base,S'.above,S'.out,⟨λp hp=>?_,λc hc'=>?_,?_⟩,?_⟩
 ·cases hp with
  |head=>exact hat
  |tail U hp=>exact S'.own.at_ p hp
 ·rw [ec] at hc'
  rcases List.mem_append.mp hc' with hc' |hc'
  ·exact aL1 S.keep (hc c hc')
  ·exact S'.own.off c hc'
 ·rw [ec,List.nodup_append]
  refine⟨nd,S.own.nd,λc h1 d h2 e=>?_⟩
  subst e
  exact absurd (at1 S.own h2) (Nat.not_lt.mpr (hc c h1))
 ·rw [ec,List.mem_append,not_or]
  exact⟨λq=>absurd S.L_lt (Nat.not_lt.mpr (hc L q)),S.nL⟩
theorem a08 {h:Heap} {o:Obj}:a15 h (h.push o):=λU V e=>Heap.get?_push_of_some _ e
theorem aS7 {vs:List Value} {Q:Value->Shared->Prop} (S:St w.params b g L l fp h) (hz:vs.length<=sizeLine)
  (k:∀a h',St w.params b g L l ((a,.tup vs)::fp) h'->Q (.ref a) (sh z h' t)):wpAny (model pw w) A (newTuple vs) Q E (sh z h t):=
 wpAny_newObj_type (s:=sh z h t) (k h.objs.size (h.push _) (S.more a08 ⟨0,Heap.get?_push_size h rfl⟩ (al1 (Nat.le_refl _)) (nd1 _)))
  (by show vs.toArray.size<=sizeLine;rw[List.size_toArray];exact hz)
theorem aZ8 {vs:List Value} {Q:Value->Shared->Prop} (S:St w.params b g L l fp h) (hz:vs.length<=sizeLine)
  (k:∀a h',St w.params b g L l ((a,.list vs)::fp) h'->Q (.ref a) (sh z h' t)):wpAny (model pw w) A (newList vs) Q E (sh z h t):=
 wpAny_newObj_type (s:=sh z h t) (k h.objs.size (h.push _) (S.more a08 ⟨0,Heap.get?_push_size h rfl⟩ (al1 (Nat.le_refl _)) (nd1 _)))
  (by show vs.toArray.size<=sizeLine;rw[List.size_toArray];exact hz)
theorem bm8 {C fI:Addr} {args:List Value} {Post:Addr->Bas->FP->Prop} {Q:Value->Shared->Prop} (d:Bas) (S:St w.params b g L l fp h) (hd:Sub d g) (X:a01 w K b) (hm:makesIn K C=true) (hi:findIn K (.ref C) "__init__"=some (some (.ref fI))) (hf:isFn K (.ref fI)=true)
  (sp:∀fr x dx h',Sub g fr->Sit w.params b (fr.or d) [(x,.inst C dx [])] h'->a07 w (A.under (.builtin "type.__call__" ⟨.ref C::args,[]⟩)) z (.ref fI) (.ref x::args) h' t (λv h''=>v= .none/\X2 λd' fp'=>a48 w.params b fr d d' fp' h''/\Post x d' fp'))
  (k:∀x h'' t'' d' fp',Sub d d'->St w.params b (g.or d') L l (fp'++fp) h''->Post x d' fp'->Q (.ref x) (sh z h'' t'')):wpAny (model pw w) A (call (.ref C) args) Q E (sh z h t):=by
 have KH:=S.kin X
 refine wpAny_call (make_core (makes_of KH hm) (looks_findIn KH hi) (λself=>bind_fn KH self (beq_iff_eq.mp hf)) (.inl (by simp)) ?_)
 have e1:(h.push emptyDict).get? h.objs.size=some emptyDict:=Heap.get?_push_size h rfl
 have e2:(h.push emptyDict).objs.size=h.objs.size+1:=Heap.size_push ..
 have e3:((h.push emptyDict).push (instObj C h.objs.size)).get? (h.objs.size+1)=some (instObj C h.objs.size):=by rw[<-e2];exact Heap.get?_push_size _ rfl
 have kk:a15 h ((h.push emptyDict).push (instObj C h.objs.size)):=a15.trans a08 a08
 have S':=S.more kk (a:=h.objs.size+1) (ao:=.inst C h.objs.size []) ⟨e3,[],0,a08 _ _ e1,rfl,by simp⟩ (λc hc=>by
  cases hc with
  |head=>exact Nat.le_succ _
  |tail U hc=>cases hc with
   |head=>exact Nat.le_refl _
   |tail U hc=>cases hc) (by simp [AO.cells])
 obtain⟨a,c,e⟩:=St.split (fp₁:=[(h.objs.size+1,.inst C h.objs.size [])]) (fp₂:=fp) S'
 have T:=c.anti (g':=(rest ((h.push emptyDict).push (instObj C h.objs.size)) (FP.cells [(h.objs.size+1,.inst C h.objs.size [])])).or d) (λa' o e'=>e'.elim id λe'=>a _ _ (hd _ _ e')) λa' o e'=>.inl (c.base _ _ e')
 refine codeAny_mono (sp _ _ _ _ a T) ?_
 rintro r s' ⟨v,h'',t'',rfl,rfl,hv,d',fp',B,hp⟩
 exact⟨hv,k _ _ _ _ _ B.mono (e d d' h'' fp' hd B) hp⟩
end
end
section
section
variable {prog:Program} {w:World} {A:Around} {R:Result->Shared->Prop} {s:Shared} {test target:Expr} {body orelse:List Stmt} {env:Env}
theorem aE2 (turn:wpAny (model prog w) A (isTrue test env (eval test env)) (λb s₂=>
    if b=true then wpAny (model prog w) A (execs body env) (λf s₃=>match f with
      | .next | .cont=>codeAny (model prog w) A (.whileLoop test body orelse env) R s₃
      | .brk=>R (.ok .next) s₃
      | .ret v=>R (.ok (.ret v)) s₃) (notedBy (model prog w) A env λe s'=>R (.error e) s') s₂
    else wpAny (model prog w) A (execs orelse env) (λf s₃=>R (.ok f) s₃) (notedBy (model prog w) A env λe s'=>R (.error e) s') s₂)
    (notedBy (model prog w) A env λe s'=>R (.error e) s') s):codeAny (model prog w) A (.whileLoop test body orelse env) R s:=by
 refine codeAny_of_tree ?_
 show wpAny _ A ((whileTurn test body orelse env).onRaise (λx=>do noteFrame x env;theTreesLotGoes x)) _ _ s
 refine wpAny_noted ?_
 simp only[whileTurn]
 refine wpAny_bind (wpAny_mono turn (λb s₂ h₂=>?_) λU V h'=>h')
 induction b using Bool.casesOn with
 |false=>
  simp only[Bool.false_eq_true,if_false] at h₂ ⊢
  exact wpAny_bind (wpAny_mono h₂ (λf s₃ h₃=>wpAny_pure h₃) λU V h'=>h')
 |true=>
  simp only[if_true] at h₂ ⊢
  refine wpAny_bind (wpAny_mono h₂ (λf s₃ h₃=>?_) λU V h'=>h')
  induction f using Flow.casesOn with
  |next=>exact wpAny_pure ⟨rfl,h₃⟩
  |cont=>exact wpAny_pure ⟨rfl,h₃⟩
  |brk=>exact wpAny_pure h₃
  |ret v=>exact wpAny_pure h₃
theorem b26 {it:Value} (turn:wpAny (model prog w) A (pyNext it) (λr s₁=>match r with
     |none=>wpAny (model prog w) A (execs orelse env) (λf s₃=>R (.ok f) s₃) (notedBy (model prog w) A env λe s'=>R (.error e) s') s₁
     |some v=>wpAny (model prog w) A (letOwnedTupleGo target it v) (λU s₁'=>wpAny (model prog w) A (assign target env v) (λU s₂=>wpAny (model prog w) A (execs body env) (λf s₃=>match f with
       | .next | .cont=>codeAny (model prog w) A (.forLoop target it body orelse env) R s₃
       | .brk=>R (.ok .next) s₃
       | .ret v=>R (.ok (.ret v)) s₃) (notedBy (model prog w) A env λe s'=>R (.error e) s') s₂) (notedBy (model prog w) A env λe s'=>R (.error e) s') s₁') (notedBy (model prog w) A env λe s'=>R (.error e) s') s₁)
    (notedBy (model prog w) A env λe s'=>R (.error e) s') s):codeAny (model prog w) A (.forLoop target it body orelse env) R s:=by
 refine codeAny_of_tree ?_
 show wpAny _ A ((forTurn target it body orelse env).onRaise (λx=>do noteFrame x env;theTreesLotGoes x)) _ _ s
 refine wpAny_noted ?_
 simp only[forTurn]
 refine wpAny_bind (wpAny_standAt (wpAny_bind (wpAny_onRaise (wpAny_mono turn (λr s₁ h₁=>?_) λe s' h'=>wpAny_standAt h'))))
 induction r using Option.casesOn with
 |none=>
  refine wpAny_pure ⟨rfl,?_⟩
  refine codeAny_of_tree ?_
  show wpAny _ A (do return Fin.done (<-(execs orelse env).onRaise (λx=>do noteFrame x env;theTreesLotGoes x))) _ _ s₁
  refine wpAny_bind (wpAny_noted (wpAny_mono h₁ (λf s₃ h₃=>wpAny_pure h₃) λU V h'=>h'))
 |some v=>
  refine wpAny_bind (wpAny_mono h₁ (λU s₁' h₁'=>?_) λU V h'=>h')
  refine wpAny_bind (wpAny_mono h₁' (λU s₂ h₂=>?_) λU V h'=>h')
  refine wpAny_bind (wpAny_mono h₂ (λf s₃ h₃=>?_) λU V h'=>h')
  induction f using Flow.casesOn with
  |next=>exact wpAny_pure ⟨rfl,h₃⟩
  |cont=>exact wpAny_pure ⟨rfl,h₃⟩
  |brk=>exact wpAny_pure h₃
  |ret v=>exact wpAny_pure h₃
end
end
section
section
variable {w:World} {K:Frag} {A:Around} {E:Value->Shared->Prop} {z:Z} {b h h':Heap} {g:Bas} {t:Nat} {L f:Addr} {l:List (Str × Value)} {fp:FP} {q:Str} {sc:Scope} {cd:Value} {env:Env}
theorem St.cellN {P:Params} (S:St P b g L l fp h) {a:Addr} {o:Obj} (ha:a∈fp.cells) (ho:h.get? a=some o):News b L h ((a,o)::an7 b L [a] h)/\∀p∈an7 b L [a] h,p.1≠a:=by
 refine⟨λp hp=>?_,λp hp q=>(aj9.mp hp).2.2.1 (by rw[q];exact .head _)⟩
 cases hp with
 |head=>exact⟨ho,λq=>S.nL (by rw[<-q];exact ha),by
   cases q:b.get? a with
   |none=>rfl
   |some o=>exact absurd (S.base _ _ q) (S.own.off _ ha _)⟩
 |tail U hp=>exact a90 p hp
theorem St.cellBack {P:Params} {m:Str->Option Value} (S:St P b g L l fp h) {i:Nat} {a:Addr} {ob':Obj} {ao ao':AO} (e:fp[i]?=some (a,ao)) (hc:ao'.cells a=ao.cells a) (hm:a∈ao.cells a)
  (F':Fr b L h' m) (hn:m=λx=>l.lookup x) (N':News b L h' ((a,ob')::an7 b L [a] h)) (hat:h'.get? a=some ob'->ao'.At P h' a):St P b g L l (fp.set i (a,ao')) h':=
 S.upd e hc hm (hn▸F'.ns) (λc ob ec n1 n2=>aB9 F' N' (λp hp=>.tail _ hp) (S.base.keepsH S.keep) c ob ec n1 (λq=>by cases q with |head=>exact n2 rfl |tail _ h=>cases h)) (hat (N' _ (.head _)).1)
theorem St.back {P:Params} {m:Str->Option Value} {ns:List (Addr × Obj)} (S:St P b g L l fp h) (F':Fr b L h' m) (hn:m=λx=>l.lookup x) (N':News b L h' ns) (hs:∀p∈an7 b L [] h,p∈ns):St P b g L l fp h':=
 S.loc (hn▸F'.ns) λa o e n=>aB9 F' N' hs (S.base.keepsH S.keep) a o e n (λq=>nomatch q)
theorem aF3 {a:Addr} {vs:List Value} {v:Value} {Q:Value->Shared->Prop} (i:Nat) (S:St w.params b g L l fp h) (e:fp[i]?=some (a,.list (vs++[v]))) (hz:vs.length<sizeLine)
  (k:∀h',St w.params b g L l (fp.set i (a,.list vs)) h'->Q v (sh z h' t)):wpAny (model pw w) A (call (.builtin "list.pop") [.ref a]) Q E (sh z h t):=by
 obtain⟨n,ea⟩:=S.own.at_ _ (List.mem_of_getElem? e)
 have ha:a∈fp.cells:=FP.cells_mem (List.mem_of_getElem? e) (by exact .head _)
 obtain⟨N,hne⟩:=S.cellN ha ea
 have hl:∀p:List Value,kl_last (p++[v])=some (p,v):=λp=>kpa_last v p
 refine kl_pop (s:=sh z h t) (p:=vs) (y:=v) S.fr N (by simpa using hl vs) (Upd.head hne) ?_ ?_
 ·simp;exact ltT (by assumption)
 ·intro h' F' N'
  exact k h' (S.cellBack e rfl (.head _) F' rfl N' λq=>⟨_,q⟩)
theorem aO6 {name:Str} {id:String} {a:Addr} {vs:List Value} {pl:Sem Bool} {Q:Value × List Value->Shared->Prop} (slot:Slot "list" name id) (ty:typeOf (.builtin id)=pure (.type "method_descriptor")) (i:Nat) (S:St w.params b g L l fp h) (e:fp[i]?=some (a,.list vs)) (k:Q (.builtin id,[.ref a]) (sh z h t)):
  wpAny (model pw w) A (getMethod (.ref a) name pl) Q E (sh z h t):=by
 obtain⟨n,ea⟩:=S.own.at_ _ (List.mem_of_getElem? e)
 exact getMethod_list_of slot ty (S.isList i e) (noDict ea) k
theorem a34 {a:Addr} {vs:List Value} {Q:Value->Shared->Prop} (hl:h.IsList a vs.toArray) (hz:vs.length<1000000) (k:∀tk,Q (.int vs.length tk) (sh z h (t+2))):wpAny (model pw w) A (call (.builtin "len") [.ref a]) Q E (sh z h t):=
 len_list (s:=sh z h t) hl (by simp;lia) (by simpa using k _)
theorem St.isTup {P:Params} (S:St P b g L l fp h) (i:Nat) {a:Addr} {vs:List Value} (e:fp[i]?=some (a,.tup vs)):h.IsTuple a vs.toArray:=by
 obtain⟨n,e⟩:=S.own.at_ _ (List.mem_of_getElem? e)
 exact⟨_,e,rfl,n,rfl⟩
theorem aG8 {h h':Heap} {a:Addr} (hs:Heap.ExtBut a h h') (ha:h.objs.size<=a):a15 h h':=λc o e=>hs c o (λq=>by subst q;exact absurd (Heap.lt_size e) (Nat.not_lt.mpr ha)) e
theorem aA9 {elts:List Expr} {n:Nat} {pos:Pos} {a:Addr} {vs:List Value} {Q:Unit->Shared->Prop} (S:St w.params b g L l fp h) (hh:A.handled=none) (ht:h.IsTuple a vs.toArray)
  (hl:(assignEach elts env).length=vs.length) (hf:(assignEach elts env).findIdx? (·.1)=none)
  (k:∀h',St w.params b g L l fp h'->wpAny (model pw w) A (assignInOrder ((assignEach elts env).map (·.2)) vs) Q E (sh z h' t)):wpAny (model pw w) A (assign (.Tuple elts n pos) env (.ref a)) Q E (sh z h t):=
 wpAny_assign_Tuple (s:=sh z h t) hh ht (by simpa using hl) hf λh' hs=>by
  have:=k h' (S.grow (aG8 hs (Nat.le_refl _)))
  simpa using this
noncomputable def b22 (a:Addr) (i:Nat) (o:Obj):Prop:=o.cls= .type "tuple_iterator"/\o.data= .fields #[.ref a,.int (i:Int) 0]
theorem aj7 {a:Addr} {vs:List Value} {Q:Value->Shared->Prop} (S:St w.params b g L l fp h) (ht:h.IsTuple a vs.toArray) (k:∀I h',St w.params b g L l ((I,.cell (b22 a 0))::fp) h'->Q (.ref I) (sh z h' t)):
  wpAny (model pw w) A (pyIter (.ref a)) Q E (sh z h t):=
 wpAny_pyIter_tuple (s:=sh z h t) ht (k _ _ (S.more a08 (ao:=.cell (b22 a 0)) ⟨_,Heap.get?_push_size h rfl,rfl,rfl⟩ (al1 (Nat.le_refl _)) (nd1 _)))
theorem aj5 {I a:Addr} {n:Nat} {vs:List Value} {v:Value} {Q:Option Value->Shared->Prop} (i:Nat) (S:St w.params b g L l fp h) (e:fp[i]?=some (I,.cell (b22 a n))) (ht:h.IsTuple a vs.toArray) (hv:vs[n]?=some v)
  (k:∀h',Keeps g h'->St w.params b g L l (fp.set i (I,.cell (b22 a (n+1)))) h'->Q (some v) (sh z h' t)):wpAny (model pw w) A (pyNext (.ref I)) Q E (sh z h t):=by
 obtain⟨o,eo,hc,hd⟩:=S.own.at_ _ (List.mem_of_getElem? e)
 have hI:I∈fp.cells:=FP.cells_mem (List.mem_of_getElem? e) (by exact .head _)
 refine wpAny_pyNext_tuple_item (s:=sh z h t) (i:=n) ⟨o,eo,hc,hd⟩ ht (by simpa using hv) λh' hit hs=>?_
 have S':St w.params b g L l (fp.set i (I,.cell (b22 a (n+1)))) h':=by
  obtain⟨oL,es,ep,eL,r⟩:=S.ns
  exact S.upd e rfl (.head _) ⟨oL,es,ep,(hs.2 L (λq=>S.nL (q▸hI))).trans eL,r⟩ (λc ob ec U n2=>(hs.2 c n2).trans ec) hit
 exact k h' S'.keep S'
theorem FP.cells_sub {fp fp':FP} (hs:fp'.Sublist fp):(FP.cells fp').Sublist (FP.cells fp):=by
 unfold FP.cells
 induction hs with
 |slnil=>exact .slnil
 |cons a U ih=>rw[List.flatMap_cons];exact ih.trans (List.sublist_append_right _ _)
 |cons_cons a U ih=>rw[List.flatMap_cons,List.flatMap_cons];exact List.Sublist.append (List.Sublist.refl _) ih
theorem St.drop {P:Params} (S:St P b g L l fp h) {fp':FP} (hs:fp'.Sublist fp):St P b g L l fp' h:=
 ⟨S.ns,S.keep,S.base,S.above,S.out,⟨λp hp=>S.own.at_ p (hs.subset hp),λc hc=>S.own.off c ((FP.cells_sub hs).subset hc),S.own.nd.sublist (FP.cells_sub hs)⟩,λq=>S.nL ((FP.cells_sub hs).subset q)⟩
theorem av9 {fp:FP} (nd:fp.cells.Nodup) {i:Nat} {p:Addr × AO} (hp:fp[i]?=some p):∀c∈p.2.cells p.1,c∉FP.cells (fp.eraseIdx i):=by
 intro c hc hc'
 obtain⟨q,hq,hcq⟩:=List.mem_flatMap.mp hc'
 obtain⟨j,hj⟩:=List.getElem?_of_mem hq
 rw[List.getElem?_eraseIdx] at hj
 split at hj
 ·rename_i hlt
  exact ae0 nd hp hj (by lia) c hc hcq
 ·rename_i hlt
  exact ae0 nd hp hj (by lia) c hc hcq
theorem ak4 {I a:Addr} {n:Nat} {vs:List Value} {Q:Option Value->Shared->Prop} (i:Nat) (S:St w.params b g L l fp h) (hh:A.handled=none) (e:fp[i]?=some (I,.cell (b22 a n))) (ht:h.IsTuple a vs.toArray) (hv:vs[n]?=none)
  (k:∀h',St w.params b g L l (fp.eraseIdx i) h'->Q none (sh z h' t)):wpAny (model pw w) A (pyNext (.ref I)) Q E (sh z h t):=by
 obtain⟨o,eo,hc,hd⟩:=S.own.at_ _ (List.mem_of_getElem? e)
 have hI:I∈fp.cells:=FP.cells_mem (List.mem_of_getElem? e) (by exact .head _)
 refine wpAny_pyNext_tuple_end (s:=sh z h t) (i:=n) hh ⟨o,eo,hc,hd⟩ ht (by simpa using hv) λh' hs=>k h' ?_
 have S':=S.drop (List.eraseIdx_sublist fp i)
 have ap:=av9 S.own.nd e
 obtain⟨oL,es,ep,eL,r⟩:=S.ns
 refine⟨⟨oL,es,ep,hs _ _ (λq=>S.nL (q▸hI)) eL,r⟩,λc ob ec=>hs _ _ (λq=>by subst q;exact S.own.off _ hI _ ec) (S.keep _ _ ec),S.base,S.above,S.out,S'.own.keeps λc hc o ec=>hs _ _ (λq=>by subst q;exact ap c (.head _) hc) ec,S'.nL⟩
end
end
section
section
variable {w:World} {K:Frag} {A:Around} {E:Value->Shared->Prop} {z:Z} {b h h':Heap} {g:Bas} {t:Nat} {L f:Addr} {l:List (Str × Value)} {fp:FP} {q:Str} {sc:Scope} {cd:Value} {env:Env} {s:Shared} {M:Model}
theorem bf5 {x:Str} {v:Value} {Q:Unit->Shared->Prop} (S:St w.params b g L l fp h) (k:∀h',St w.params b g L ((x,v)::l) fp h'->Q () (sh z h' (t+1)))
  (hk:sc.kind= .function:=by kernel_rfl) (hl:(envOf q sc L f cd).kindOf x=some .local:=by kernel_rfl):
  wpAny (model pw w) A (storeName (envOf q sc L f cd) x v) Q E (sh z h t):=
 wpAny_storeName_local hl S.ns (λh' hn hs=>k h' (S.loc (by
  have:(λy=>((x,v)::l).lookup y)=λy=>if y=x then some v else l.lookup y:=by
   funext y
   by_cases q:y=x
   ·simp [q]
   ·have:(y==x)=false:=by simpa using q
    simp [List.lookup,this,q]
  rw[this];exact hn) λa o e n=>(hs.2 a n).trans e))
  (by show (sc.kind== .class||(sc.kind== .module&&L !=mainGlobals))=false;rw[hk];rfl)
inductive ba6 (x:Str) (v:Value):List (Str × Value)->List (Str × Value)->Prop
 |here {u r}:ba6 x v ((x,u)::r) ((x,v)::r)
 |there {y u r r'}:(y==x)=false->ba6 x v r r'->ba6 x v ((y,u)::r) ((y,u)::r')
 |new:ba6 x v [] [(x,v)]
theorem bp4 {x C fn:Addr} {al:List (Str × Value)} {n:Str} {pl:Sem Bool} {Q:Value × List Value->Shared->Prop} (S:St w.params b g L l fp h) (X:a01 w K b) (I:am6 h x C al)
  (hm:findIn K (.ref C) n=some (some (.ref fn))) (hc:plainGet K C (Str.ofString "")=true) (hf:isFn K (.ref fn)=true) (k:Q (.ref fn,[.ref x]) (sh z h t)) (hl:(al.lookup n).isNone=true:=by kernel_rfl):wpAny (model pw w) A (getMethod (.ref x) n pl) Q E (sh z h t):=
 bm9 (names:=[]) S X I hc hm hf (by simpa using hl) k
theorem bj0 {pos:Pos} {Q:List Value->Shared->Prop} (k:Q [] s):wpAny M A (spliced (backTo pos (starEach [] env))) Q E s:=spliced_none k
theorem b43 {pos:Pos} {id:String} {e:Expr} {rest:List Expr} {Q:Value->Shared->Prop} (k:wpAny M A (spliced (backTo pos (starEach (e::rest) env))) (λvs s₁=>wpAny M A (call (.builtin id) vs) Q E s₁) E s)
  (he:starEach (e::rest) env=(false,eval e env)::starEach rest env:=by kernel_rfl) (hp:(backTo pos (starEach rest env)).any (·.1)=false:=by kernel_rfl):
  wpAny M A (callWith pos (.builtin id) [] (backTo pos (starEach (e::rest) env)) []) Q E s:=callWith_method1 k he hp
theorem i_cmp {l:Expr} {op:CmpOp} {r:Expr} {pos:Pos} {whole:Sem Value} {Q:Bool->Shared->Prop}
  (k:wpAny M A (eval l env) (λa s₁=>wpAny M A (eval r env) (λb s₂=>wpAny M A (compareOp op a b) (λc s₃=>wpAny M A (truthy c) Q E s₃) E s₂) E s₁) E s)
  (hb:behindInMarks op r=false:=by kernel_rfl):wpAny M A (PySem.isTrue (.Compare l [op] [r] pos) env whole) Q E s:=wpAny_isTrue_Compare1 k hb
theorem e_cmp {l:Expr} {op:CmpOp} {r:Expr} {pos:Pos} {Q:Value->Shared->Prop}
  (k:wpAny M A (eval l env) (λa s₁=>wpAny M A (eval r env) (λb s₂=>wpAny M A (compareOp op a b) Q E s₂) E s₁) E s)
  (hb:behindInMarks op r=false:=by kernel_rfl):wpAny M A (eval (.Compare l [op] [r] pos) env) Q E s:=wpAny_Compare1 k hb
theorem ite_t {c:Prop} [Decidable c] {a b:Prop} (hc:c) (k:a):if c then a else b:=by rw[if_pos hc];exact k
theorem ite_f {c:Prop} [Decidable c] {a b:Prop} (hc:¬ c) (k:b):if c then a else b:=by rw[if_neg hc];exact k
theorem bh7 {value slice:Expr} {pos:Pos} {Q:Value->Shared->Prop}
  (k:wpAny M A (eval value env) (λo s₁=>wpAny M A (eval slice env) (λi s₂=>wpAny M A (subscriptTail value slice o i) Q E s₂) E s₁) E s):wpAny M A (eval (.Subscript value slice pos) env) Q E s:=Subscript_ k
theorem bk6 {c:Bool} {n:Nat} {pos:Pos} {Q:Value->Shared->Prop} (k:Q (.bool c) s):wpAny M A (eval (.Constant (.bool c) n pos) env) Q E s:=Constant_bool k
theorem am7 {c:Bool} {Q:Bool->Shared->Prop} (k:Q c s):wpAny M A (truthy (.bool c)) Q E s:=wpAny_truthy_bool k
end
end
section
section
variable {w:World} {K:Frag} {A:Around} {E:Value->Shared->Prop} {z:Z} {b h h':Heap} {g:Bas} {t:Nat} {L f:Addr} {l:List (Str × Value)} {fp:FP} {q:Str} {sc:Scope} {cd:Value} {env:Env} {s:Shared} {M:Model}
theorem isa_y {x D C:Addr} {al:List (Str × Value)} {Q:Value->Shared->Prop} (S:St w.params b g L l fp h) (X:a01 w K b) (I:am6 h x D al) (e:isIn K (.ref D) C=true) (k:∀t',Q (.bool true) (sh z h t')):
  wpAny (model pw w) A (call (.builtin "isinstance") [.ref x,.ref C]) Q E (sh z h t):=by
 obtain⟨dx,es,m,I',_,_⟩:=I.at
 exact isi_call (s:=sh z h t) (S.kin X) (λM=>I'.type) e (by intro q;cases q) (k t)
theorem az6 {K:Frag} {D:Addr} (e:aQ4 K D=true):plainGet K D "__class__"=true/\hasDictIn K D=true/\findIn K (.ref D) "__class__"=some (some (.builtin "object.__class__"))/\mroIn K D (.type "object")=some true/\kin_notT K D "bool"=true:=by
 unfold aQ4 at e
 simp only[Bool.and_eq_true,beq_iff_eq] at e
 exact⟨e.1.1.1.1,e.1.1.1.2,e.1.1.2,e.1.2,e.2⟩
theorem isa_n {x D C:Addr} {al:List (Str × Value)} {Q:Value->Shared->Prop} (S:St w.params b g L l fp h) (X:a01 w K b) (G:KOk K) (I:am6 h x D al) (hD:D∈aJ0) (e:kin_not K D C=true) (k:∀t',Q (.bool false) (sh z h t')):
  wpAny (model pw w) A (call (.builtin "isinstance") [.ref x,.ref C]) Q E (sh z h t):=by
 obtain⟨dx,es,m,I',_,_⟩:=I.at
 obtain⟨a1,a2,a3,a4,_⟩:=az6 (G.isc D hD)
 exact kin_callC (s:=sh z h t) (S.kin X) I' e a1 a2 a3 G.ocg.1 G.ocg.2 a4 (k (t+1))
theorem aR2 {x D C:Addr} {al:List (Str × Value)} {Q:Value->Shared->Prop} (S:St w.params b g L l fp h) (X:a01 w K b) (G:KOk K) (I:am6 h x D al) (hD:aJ0.contains D=true) (hC:aV9.contains C=true) (k:∀t',Q (.bool (rel D C)) (sh z h t')):
  wpAny (model pw w) A (call (.builtin "isinstance") [.ref x,.ref C]) Q E (sh z h t):=by
 have hD:=List.contains_iff_mem.mp hD
 have hC:=List.contains_iff_mem.mp hC
 have e:=G.isa D hD C hC
 cases r:rel D C with
 |true=>rw[r] at e k;exact isa_y S X I (by simpa using e) k
 |false=>rw[r] at e k;exact isa_n S X G I hD (by simpa using e) k
theorem aR1 {x D:Addr} {al:List (Str × Value)} {Q:Value->Shared->Prop} (S:St w.params b g L l fp h) (X:a01 w K b) (G:KOk K) (I:am6 h x D al) (hD:aJ0.contains D=true) (k:∀t',Q (.bool false) (sh z h t')):
  wpAny (model pw w) A (call (.builtin "isinstance") [.ref x,.type "bool"]) Q E (sh z h t):=by
 have hD:=List.contains_iff_mem.mp hD
 obtain⟨dx,es,m,I',_,_⟩:=I.at
 obtain⟨a1,a2,a3,a4,a5⟩:=az6 (G.isc D hD)
 exact kin_callT (s:=sh z h t) (S.kin X) I' a5 (show typeOf (.type "bool")=pure (.type "type") by kernel_rfl) a1 a2 a3 G.ocg.1 G.ocg.2 a4 (k (t+1))
theorem aW3 {n:Int} {u:Tok} {C:Addr} {Q:Value->Shared->Prop} (S:St w.params b g L l fp h) (X:a01 w K b) (G:KOk K) (hC:aV9.contains C=true) (k:∀t',Q (.bool false) (sh z h t')):
  wpAny (model pw w) A (call (.builtin "isinstance") [.int n u,.ref C]) Q E (sh z h t):=
 isn_call (P:=λU=>True) (s:=sh z h t) (S.kin X) (λM=>Looks.of_pure rfl) (G.isp "int" (by simp) C (List.contains_iff_mem.mp hC)) (by intro e;cases e) trivial int_cls (k (t+1))
theorem b59 {x y C D:Addr} {al al':List (Str × Value)} {Q:Value->Shared->Prop} (I:am6 h x C al) (J:am6 h y D al') (k:Q (.bool (Nat.beq x y)) (sh z h t)):wpAny (model pw w) A (compareOp .Is (.ref x) (.ref y)) Q E (sh z h t):=by
 by_cases q:x=y
 ·subst q
  rw[Nat.beq_refl] at k
  exact wpAny_is_ref_self k
 ·obtain ⟨dx,_,_,hx,_⟩:=I
  obtain⟨dy,_,_,hy,_⟩:=J
  have:Nat.beq x y=false:=by
   cases e:Nat.beq x y with
   |false=>rfl
   |true=>exact absurd (Nat.eq_of_beq_eq_true e) q
  rw[this] at k
  exact wpAny_is_ref_other (s:=sh z h t) q hx hy (by intro e;cases e) k
theorem ap1 {x y C D:Addr} {al al':List (Str × Value)} {Q:Value->Shared->Prop} (I:am6 h x C al) (J:am6 h y D al') (k:Q (.bool (!(Nat.beq x y))) (sh z h t)):wpAny (model pw w) A (compareOp .IsNot (.ref x) (.ref y)) Q E (sh z h t):=by
 by_cases q:x=y
 ·subst q
  rw[Nat.beq_refl] at k
  exact wpAny_isNot_ref_self k
 ·obtain ⟨dx,_,_,hx,_⟩:=I
  obtain⟨dy,_,_,hy,_⟩:=J
  have:Nat.beq x y=false:=by
   cases e:Nat.beq x y with
   |false=>rfl
   |true=>exact absurd (Nat.eq_of_beq_eq_true e) q
  rw[this] at k
  exact kto_isnot (s:=sh z h t) hx hy q (by intro e;cases e) k
theorem aN6 {n:Int} {u:Tok} {y:Addr} {Q:Value->Shared->Prop} (k:Q (.bool false) s):wpAny M A (compareOp .Is (.int n u) (.ref y)) Q E s:=by
 show wpAny M A (do return Value.bool (<-isSame (.int n u) (.ref y))) Q E s
 refine wpAny_bind (wpAny_of_eq (show isSame (.int n u) (.ref y)=pure (Value.int n u==Value.ref y) from rfl) ?_)
 have e:(Value.int n u==Value.ref y)=false:=by
  rw[beq_eq_false_iff_ne];intro q;cases q
 rw[e]
 exact wpAny_pure k
noncomputable def isD (w:World) (kvs:List (Str × Value)) (o:Obj):Prop:=o.IsDictOf (strKind pw w) kvs
theorem St.dictOf (S:St w.params b g L l fp h) (i:Nat) {a:Addr} {kvs:List (Str × Value)} (e:fp[i]?=some (a,.cell (isD w kvs))):Heap.DictOf (strKind pw w) h a kvs:=by
 obtain⟨o,eo,hd⟩:=S.own.at_ _ (List.mem_of_getElem? e)
 exact Heap.dictOf_iff.mpr ⟨o,eo,hd⟩
theorem aZ9 {a:Addr} {kvs:List (Str × Value)} {pl:Sem Bool} {Q:Value × List Value->Shared->Prop} (i:Nat) (S:St w.params b g L l fp h) (e:fp[i]?=some (a,.cell (isD w kvs))) (k:Q (.builtin "dict.get",[.ref a]) (sh z h t)):
  wpAny (model pw w) A (getMethod (.ref a) "get" pl) Q E (sh z h t):=by
 have hD:=S.dictOf i e
 exact getMethod_builtin (s:=sh z h t) hD.typeIs PySem.F.plainAttrs_dict PySem.F.slot_dict_get PySem.F.type_dict_get hD.mapOf.noDict k
theorem bb2 {a:Addr} {kvs:List (Str × Value)} {x:Str} {u:Tok} {dflt:Value} {Q:Value->Shared->Prop} (i:Nat) (S:St w.params b g L l fp h) (e:fp[i]?=some (a,.cell (isD w kvs))) (ha:(a==sysModules)=false)
  (k:∀t',Q ((valueAt kvs x).getD dflt) (sh z h t')):wpAny (model pw w) A (call (.builtin "dict.get") [.ref a,.str x u,dflt]) Q E (sh z h t):=by
 have hD:=S.dictOf i e
 exact call_meetsIn (s:=sh z h t) PySem.F.slot_dict_get hD.typeIs PySem.F.entry_dict_get (PySem.F.args_dict_get_3 _ _ _) (meets_dict_get_default (strKind pw w) a (strKind_is pw w x u) ha dflt) ⟨_,hD.mapOf,k _⟩
theorem bn0 {a:Addr} {kvs:List (Str × Value)} {x:Str} {u:Tok} {v:Value} {Q:Unit->Shared->Prop} (i:Nat) (S:St w.params b g L l fp h) (e:fp[i]?=some (a,.cell (isD w kvs))) (hz:kvs.length<=sizeLine)
  (k:∀h',St w.params b g L l (fp.set i (a,.cell (isD w (stored kvs x v)))) h'->Q () (sh z h' (t+1))):wpAny (model pw w) A (setItem (.ref a) (.str x u) v) Q E (sh z h t):=by
 have hD:=S.dictOf i e
 have ha:a∈fp.cells:=FP.cells_mem (List.mem_of_getElem? e) (by exact .head _)
 refine wpAny_setItem_pairs (s:=sh z h t) (hsz:=hz) (strKind_is pw w x u) hD λh' hmm hs=>k h' ?_
 obtain⟨oL,es,ep,eL,r⟩:=S.ns
 exact S.upd e rfl (.head _) ⟨oL,es,ep,(hs.2 L (λq=>S.nL (q▸ha))).trans eL,r⟩ (λc ob ec U n2=>(hs.2 c n2).trans ec) (Heap.dictOf_iff.mp hmm)
end
end
section
theorem bq9:bootBuiltins (Str.ofString "ord")=some (.builtin "ord"):=by kernel_rfl!
theorem br0:bootBuiltins (Str.ofString "chr")=some (.builtin "chr"):=by kernel_rfl!
theorem br1:bootBuiltins (Str.ofString "abs")=some (.builtin "abs"):=by kernel_rfl!
end
section
section
variable {w:World} {K:Frag} {A:Around} {E:Value->Shared->Prop} {z:Z} {b h h':Heap} {g d:Bas} {t:Nat} {L f:Addr} {l:List (Str × Value)} {fp:FP} {env:Env}
noncomputable def noB:Bas:=λU V=>False
theorem a29:Sub g (g.or d):=λU V e=>.inl e
theorem a12:Sub d (g.or d):=λU V e=>.inr e
theorem ag8 {C fI:Addr} {names:List Str} {args:List Value} {pa:List (Str × Value)->Prop} {Q:Value->Shared->Prop} (S:St w.params b g L l fp h) (X:a01 w K b) (hc:ad7 K C names fI)
  (sp:∀g' x dx h',Sit w.params b g' [(x,.inst C dx [])] h'->a07 w (A.under (.builtin "type.__call__" ⟨.ref C::args,[]⟩)) z (.ref fI) (.ref x::args) h' t (λr h''=>r= .none/\∃al,pa al/\Sit w.params b g' [(x,.inst C dx al)] h''))
  (k:∀x dx al h'' t'',pa al->St w.params b g L l ((x,.inst C dx al)::fp) h''->Q (.ref x) (sh z h'' t'')):wpAny (model pw w) A (call (.ref C) args) Q E (sh z h t):=by
 refine bm8 (Post:=λx d' fp'=>(X2 λdx al=>pa al/\fp'=[(x,.inst C dx al)])/\d'=noB) noB S (λU V e=>e.elim) X hc.makes hc.init hc.isFn (λfr x dx h' U T=>?_) ?_
 ·refine codeAny_mono (sp _ x dx h' T) ?_
  rintro r s' ⟨v,h'',t'',rfl,rfl,hv,al,pal,T'⟩
  exact⟨_,_,_,rfl,rfl,hv,noB,_,a48.same T',⟨dx,al,pal,rfl⟩,rfl⟩
 ·rintro x h'' t'' d' fp' _ S' ⟨⟨dx,al,pal,rfl⟩,rfl⟩
  exact k x dx al h'' t'' pal (S'.anti a29 S.base)
theorem aF4 {C fI:Addr} {names:List Str} {args:List Value} {pa:Addr->FP->Prop} {Q:Value->Shared->Prop} (S:St w.params b g L l fp h) (X:a01 w K b) (hc:ad7 K C names fI)
  (sp:∀g' x dx h',Sit w.params b g' [(x,.inst C dx [])] h'->a07 w (A.under (.builtin "type.__call__" ⟨.ref C::args,[]⟩)) z (.ref fI) (.ref x::args) h' t (λr h''=>r= .none/\∃fp',pa x fp'/\Sit w.params b g' fp' h''))
  (k:∀x fp' h'' t'',pa x fp'->St w.params b g L l (fp'++fp) h''->Q (.ref x) (sh z h'' t'')):wpAny (model pw w) A (call (.ref C) args) Q E (sh z h t):=by
 refine bm8 (Post:=λx d' fp'=>pa x fp'/\d'=noB) noB S (λU V e=>e.elim) X hc.makes hc.init hc.isFn (λfr x dx h' U T=>?_) ?_
 ·refine codeAny_mono (sp _ x dx h' T) ?_
  rintro r s' ⟨v,h'',t'',rfl,rfl,hv,fp',pal,T'⟩
  exact⟨_,_,_,rfl,rfl,hv,noB,_,a48.same T',pal,rfl⟩
 ·rintro x h'' t'' d' fp' _ S' ⟨pal,rfl⟩
  exact k x fp' h'' t'' pal (S'.anti a29 S.base)
noncomputable def aC2 (d:Bas) (h:Heap) (cs:List Addr):Bas:=λa o=>d a o∨(a∈cs/\h.get? a=some o)
theorem aC1 {cs:List Addr}:Sub d (aC2 d h cs):=λU V e=>.inl e
theorem St.freeze {P:Params} {a:Addr} {o:AO} (S:St P b g L l ((a,o)::fp) h):St P b (g.or (aC2 d h (o.cells a))) L l fp h∨¬ Sub d g:=by
 by_cases hd:Sub d g
 ·left
  have ec:FP.cells ((a,o)::fp)=o.cells a++fp.cells:=by unfold FP.cells;rw[List.flatMap_cons]
  have nd:=S.own.nd
  rw[ec,List.nodup_append] at nd
  have S':=S.drop (List.sublist_cons_self (a,o) fp)
  refine⟨S.ns,λc ob e=>?_,S.base.trans a29,S.above,λob e=>?_,⟨S'.own.at_,λc hc ob e=>?_,S'.own.nd⟩,S'.nL⟩
  ·rcases e with e |e |e
   ·exact S.keep _ _ e
   ·exact S.keep _ _ (hd _ _ e)
   ·exact e.2
  ·rcases e with e |e |e
   ·exact S.out _ e
   ·exact S.out _ (hd _ _ e)
   ·exact S.nL (by rw[ec];exact List.mem_append_left _ e.1)
  ·rcases e with e |e |e
   ·exact S'.own.off c hc _ e
   ·exact S'.own.off c hc _ (hd _ _ e)
   ·exact nd.2.2 c e.1 c hc rfl
 ·exact .inr hd
end
end
section
section
variable {w:World} {K:Frag} {A:Around} {E:Value->Shared->Prop} {z:Z} {b h h':Heap} {g d:Bas} {t:Nat} {L f:Addr} {l:List (Str × Value)} {fp:FP} {env:Env}
theorem ag1 {fd:FuncData} {args:Args} {binds:List (Str × Value)} {T:Addr} {items:List Value} {k:Option (Array Value)->Sem (List (Str × Value))} (X:a01 w K b) (S:Sit w.params b g fp h)
  (ht:∃n,K.lookup T=some {cls:=.type "tuple",data:=.seq items.toArray n}) (hd:fd.defaults= .ref T)
  (h₁:bindArgs fd args=seqItems? fd.defaults>>=k) (h₂:k (some items.toArray)=pure binds):BindsTo (sh z h t) fd args binds:=by
 obtain⟨n,e⟩:=ht
 have kbh:=S.base.keepsH S.keep
 exact BindsTo.of_defaults (s:=sh z h t) hd (X.kin.keeps kbh _ _ e) rfl h₁ h₂
theorem a01.tup (X:a01 w K b) (S:St w.params b g L l fp h) {T:Addr} {items:List Value} (ht:∃n,K.lookup T=some {cls:=.type "tuple",data:=.seq items.toArray n}):h.IsTuple T items.toArray:=by
 obtain⟨n,e⟩:=ht
 exact⟨_,S.kin X _ _ e,rfl,n,rfl⟩
theorem aY5 {a dx:Addr} {x:Str} {u:Tok} (X:a01 w K b) (S:St w.params b g L l fp h) (e:K.lookup a=some (instObj 38 dx)/\X2 λes n=>K.lookup dx=some (dictOf es n)/\a22 es (a41 x u)):am6 h a 38 (a41 x u):=by
 obtain⟨e,es,n,e2,r⟩:=e
 exact⟨dx,es,n,S.kin X _ _ e,S.kin X _ _ e2,r⟩
theorem a14 (G:KOk K) (X:a01 w K b) (S:St w.params b g L l fp h):am6 h 44 38 (a41 "empty" 225):=aY5 X S G.bD3
theorem b92 (G:KOk K) (X:a01 w K b) (S:St w.params b g L l fp h):am6 h 50 38 (a41 "eof" 237):=aY5 X S G.bz8
end
end
section
section
variable {w:World} {K:Frag} {A:Around} {E:Value->Shared->Prop} {z:Z} {b h h':Heap} {g d:Bas} {t:Nat} {L f:Addr} {l:List (Str × Value)} {fp:FP} {env:Env} {s:Shared} {M:Model} {value slice:Expr}
theorem b61 {x y:Str} {u v:Tok} {Q:Value->Shared->Prop} (k:Q (.bool (x==y)) (sh z h t)):wpAny (model pw w) A (compareOp .Eq (.str x u) (.str y v)) Q E (sh z h t):=PyProof.Rows.eq_str k
theorem b57 {x y:Str} {u v:Tok} {Q:Value->Shared->Prop} (k:Q (.bool (x !=y)) (sh z h t)):wpAny (model pw w) A (compareOp .NotEq (.str x u) (.str y v)) Q E (sh z h t):=PyProof.Rows.ne_str k
theorem b62 {x y:Int} {u v:Tok} {Q:Value->Shared->Prop} (k:Q (.bool (x==y)) (sh z h t)):wpAny (model pw w) A (compareOp .Eq (.int x u) (.int y v)) Q E (sh z h t):=PyProof.Rows.eq_int k
theorem b58 {x y:Int} {u v:Tok} {Q:Value->Shared->Prop} (k:Q (.bool (x !=y)) (sh z h t)):wpAny (model pw w) A (compareOp .NotEq (.int x u) (.int y v)) Q E (sh z h t):=PyProof.Rows.ne_int k
theorem x_le {a c:Int} {u v:Tok} {Q:Value->Shared->Prop} (k:Q (.bool (decide (a<=c))) (sh z h t)):wpAny (model pw w) A (compareOp .LtE (.int a u) (.int c v)) Q E (sh z h t):=PyProof.Rows.le_int k
theorem x_ge {a c:Int} {u v:Tok} {Q:Value->Shared->Prop} (k:Q (.bool (decide (c<=a))) (sh z h t)):wpAny (model pw w) A (compareOp .GtE (.int a u) (.int c v)) Q E (sh z h t):=PyProof.Rows.ge_int k
noncomputable def inS (y x:Str):Bool:=!(Builtin.Str.occurrences x y 0 x.length 1).isEmpty
theorem b60 {x y:Str} {u v:Tok} {Q:Value->Shared->Prop} (k:Q (.bool (inS y x)) (sh z h t)):wpAny (model pw w) A (compareOp .In (.str y u) (.str x v)) Q E (sh z h t):=PyProof.Rows.in_str k
theorem aJ5 {x y:Str} {u v:Tok} {Q:Value->Shared->Prop} (k:Q (.bool (!inS y x)) (sh z h t)):wpAny (model pw w) A (compareOp .NotIn (.str y u) (.str x v)) Q E (sh z h t):=PySem.P.notIn_str k
theorem a42 {x y:Str} {u v:Tok} {Q:Value->Shared->Prop} (hz:x.length+y.length<=sizeLine) (k:∀tk t',Q (.str (x++y) tk) (sh z h t')):wpAny (model pw w) A (binaryOp .Add (.str x u) (.str y v)) Q E (sh z h t):=
 SBL.add (λt' k' U=>k t' k') hz
theorem aD9 {a c:Int} {u v:Tok} {Q:Value->Shared->Prop} (hm:IntMulOk a c) (k:∀tk,Q (.int (a*c) tk) (sh z h (t+1))):wpAny (model pw w) A (binaryOp .Mult (.int a u) (.int c v)) Q E (sh z h t):=PyProof.Rows.mul_int (k t) hm
theorem aw8 {a c:Int} {u v:Tok} {Q:Value->Shared->Prop} (hc:c≠0) (k:∀tk,Q (.int (a.fmod c) tk) (sh z h (t+1))):wpAny (model pw w) A (binaryOp .Mod (.int a u) (.int c v)) Q E (sh z h t):=PyProof.Rows.mod_int hc (k t)
theorem aW7 {a c:Int} {u v:Tok} {Q:Value->Shared->Prop} (hc:c≠0) (hp:Builtin.divisionGoesByPylong a c=false) (k:∀tk,Q (.int (a.fdiv c) tk) (sh z h (t+1))):wpAny (model pw w) A (binaryOp .FloorDiv (.int a u) (.int c v)) Q E (sh z h t):=PyProof.Rows.floordiv_int hc (k t) (.inl hp)
theorem x_ord {x:Str} {u:Tok} {Q:Value->Shared->Prop} (h1:x.length=1) (k:∀tk,Q (.int (x.cps.getD 0 0:Nat) tk) (sh z h (t+1))):wpAny (model pw w) A (call (.builtin "ord") [.str x u]) Q E (sh z h t):=ord_of_one h1 (k t)
theorem b63 {n:Int} {u:Tok} {Q:Value->Shared->Prop} (h0:0<=n) (h1:n<=1114111) (k:∀tk,Q (.str ⟨#[n.toNat]⟩ tk) (sh z h (t+1))):wpAny (model pw w) A (call (.builtin "chr") [.int n u]) Q E (sh z h t):=chr_of_range h0 h1 (k t)
theorem bd5 {x:Str} {u:Tok} {Q:Value->Shared->Prop} (hx:x.length<=5592405) (k:∀tk,Q (.str (Txt.lower x) tk) (sh z h (t+1))):wpAny (model pw w) A (call (.builtin "str.lower") [.str x u]) Q E (sh z h t):=SCL.lower hx λU=>k t
theorem b56 {x y:Str} {u v:Tok} {Q:Value->Shared->Prop} (hx:x.length<=sizeLine) (k:∀tk t',Q (.str (Txt.rstripChars x y) tk) (sh z h t')):wpAny (model pw w) A (call (.builtin "str.rstrip") [.str x u,.str y v]) Q E (sh z h t):=SCL.rstripChars (λt' k' U=>k t' k') hx
theorem bk4 {x y:Str} {u v:Tok} {Q:Value->Shared->Prop} (k:∀tk,Q (.int (Txt.find x y) tk) (sh z h (t+1))):wpAny (model pw w) A (call (.builtin "str.find") [.str x u,.str y v]) Q E (sh z h t):=SC.find (k t)
theorem aN5 {x:Str} {n:Int} {u v:Tok} {Q:Value->Shared->Prop} (hx:(x.length:Int)<1000000) (h1: -(x.length:Int)<=n) (h2:n<x.length) (k:∀tk,Q (.str (Txt.item x n) tk) (sh z h (t+1)))
  (hs:subscripted slice false (.str x u) (.int n v)=operate [.str x u,.int n v] (getItem (.str x u) (.int n v)):=by kernel_rfl) (ht:∀r,letTemporaryGo value (.str x u) r=pure ():=by intro _;kernel_rfl):
  wpAny (model pw w) A (subscriptTail value slice (.str x u) (.int n v)) Q E (sh z h t):=item_str (PyProof.Rows.fitsSsize_of (N:=9223372036854775808) (by lia) (by lia) (Int.le_refl _)) h1 h2 (λU=>k t) hs ht
theorem az3 {e:Expr} {p:Pos} {Q:Value->Shared->Prop} (k:wpAny M A (eval e env) (λu s₁=>Q (.ref s₁.heap.objs.size) {s₁ with heap:=s₁.heap.push {cls:=.type "slice",data:=.fields #[.none,u,.none]} }) E s):wpAny M A (eval (.Slice none (some e) none p) env) Q E s:=
 wpAny_Slice (wpAny_pure (wpAny_mono k (λU V q=>wpAny_pure q) λU V q=>q))
theorem aU4 {e:Expr} {p:Pos} {Q:Value->Shared->Prop} (k:wpAny M A (eval e env) (λu s₁=>Q (.ref s₁.heap.objs.size) {s₁ with heap:=s₁.heap.push {cls:=.type "slice",data:=.fields #[u,.none,.none]} }) E s):wpAny M A (eval (.Slice (some e) none none p) env) Q E s:=
 wpAny_Slice (wpAny_mono k (λU V q=>wpAny_pure (wpAny_pure q)) λU V q=>q)
theorem aU3 {e e':Expr} {p:Pos} {Q:Value->Shared->Prop} (k:wpAny M A (eval e env) (λu s₁=>wpAny M A (eval e' env) (λv s₂=>Q (.ref s₂.heap.objs.size) {s₂ with heap:=s₂.heap.push {cls:=.type "slice",data:=.fields #[u,v,.none]} }) E s₁) E s):wpAny M A (eval (.Slice (some e) (some e') none p) env) Q E s:=
 wpAny_Slice (wpAny_mono k (λU V q=>wpAny_mono q (λU V q=>wpAny_pure q) λU V q=>q) λU V q=>q)
theorem ad1 {x:Str} {u:Tok} {j:Int} {v:Tok} {Q:Value->Shared->Prop} (S:St w.params b g L l fp h) (hx:x.length<=sizeLine) (k:∀h' tk t',St w.params b g L l fp h'->Q (.str (Txt.slice x none (some j)) tk) (sh z h' t'))
  (hs:subscripted slice false (.str x u) (.ref h.objs.size)=operate [.ref h.objs.size,.str x u] (getItem (.str x u) (.ref h.objs.size)):=by kernel_rfl) (ht:∀r,letTemporaryGo value (.str x u) r=pure ():=by intro _;kernel_rfl):
  wpAny (model pw w) A (subscriptTail value slice (.str x u) (.ref h.objs.size)) Q E (sh z (h.push {cls:=.type "slice",data:=.fields #[.none,.int j v,.none]}) t):=
 slice_strN_ns (s:=sh z h t) S.fr (a90 (X:=[])) (λh' t' k' F' N'=>k h' t' k' (S.back F' rfl N' λU hp=>hp)) hs ht hx
theorem ap0 {x:Str} {u:Tok} {j:Int} {v:Tok} {Q:Value->Shared->Prop} (S:St w.params b g L l fp h) (hx:x.length<=sizeLine) (k:∀h' tk t',St w.params b g L l fp h'->Q (.str (Txt.slice x (some j) none) tk) (sh z h' t'))
  (hs:subscripted slice false (.str x u) (.ref h.objs.size)=operate [.ref h.objs.size,.str x u] (getItem (.str x u) (.ref h.objs.size)):=by kernel_rfl) (ht:∀r,letTemporaryGo value (.str x u) r=pure ():=by intro _;kernel_rfl):
  wpAny (model pw w) A (subscriptTail value slice (.str x u) (.ref h.objs.size)) Q E (sh z (h.push {cls:=.type "slice",data:=.fields #[.int j v,.none,.none]}) t):=
 slice_strN_sn (s:=sh z h t) S.fr (a90 (X:=[])) (λh' t' k' F' N'=>k h' t' k' (S.back F' rfl N' λU hp=>hp)) hs ht hx
theorem aj3 {x:Str} {u:Tok} {i j:Int} {v v':Tok} {Q:Value->Shared->Prop} (S:St w.params b g L l fp h) (hx:x.length<=sizeLine) (k:∀h' tk t',St w.params b g L l fp h'->Q (.str (Txt.slice x (some i) (some j)) tk) (sh z h' t'))
  (hs:subscripted slice false (.str x u) (.ref h.objs.size)=operate [.ref h.objs.size,.str x u] (getItem (.str x u) (.ref h.objs.size)):=by kernel_rfl) (ht:∀r,letTemporaryGo value (.str x u) r=pure ():=by intro _;kernel_rfl):
  wpAny (model pw w) A (subscriptTail value slice (.str x u) (.ref h.objs.size)) Q E (sh z (h.push {cls:=.type "slice",data:=.fields #[.int i v,.int j v',.none]}) t):=
 slice_strN_ss (s:=sh z h t) S.fr (a90 (X:=[])) (λh' t' k' F' N'=>k h' t' k' (S.back F' rfl N' λU hp=>hp)) hs ht hx
theorem ad8 {a c:Addr} {vs:List Value} {Q:Value->Shared->Prop} (ha:h.IsList a vs.toArray) (hc:h.IsList c ([]:List Value).toArray) (hu:A.units<cLine) (k:Q (.bool (!vs.isEmpty)) (sh z h t)):wpAny (model pw w) A (compareOp .NotEq (.ref a) (.ref c)) Q E (sh z h t):=by
 induction vs using List.casesOn with
 |nil=>exact PySem.SeqAt.RcNeAt.lists (s:=sh z h t) (e:=λU=>true) ha hc rfl hu (λj h1=>absurd h1 (Nat.not_lt_zero _)) pw w E Q k
 |cons v r=>exact PySem.SeqAt.RcNeAt.lists_lengths (s:=sh z h t) ha hc (by simp) hu pw w E Q k
theorem as8 {a c:Addr} {vs:List Value} {Q:Value->Shared->Prop} (ha:h.IsList a vs.toArray) (hc:h.IsList c ([]:List Value).toArray) (hu:A.units<cLine) (k:Q (.bool vs.isEmpty) (sh z h t)):wpAny (model pw w) A (compareOp .Eq (.ref a) (.ref c)) Q E (sh z h t):=by
 induction vs using List.casesOn with
 |nil=>exact PySem.SeqAt.RcAt.lists (s:=sh z h t) (e:=λU=>true) ha hc rfl hu (λj h1=>absurd h1 (Nat.not_lt_zero _)) pw w E Q k
 |cons v r=>exact PySem.SeqAt.RcAt.lists_lengths (s:=sh z h t) ha hc (by simp) hu pw w E Q k
theorem bh8 {pos:Pos} {Q:Value->Shared->Prop} (S:St w.params b g L l fp h) (X:a01 w K b) (k:∀a h',(a==sysModules)=false->St w.params b g L l ((a,.cell (isD w []))::fp) h'->Q (.ref a) (sh z h' t)):wpAny (model pw w) A (eval (.Dict [] [] pos) env) Q E (sh z h t):=by
 have hlt:b.objs.size<=h.objs.size:=S.sit.sz
 refine wpAny_Dict_empty (s:=sh z h t) (k h.objs.size _ ?_ (S.more a08 (ao:=.cell (isD w [])) ⟨_,Heap.get?_push_size h rfl,?_⟩ (al1 (Nat.le_refl _)) (nd1 _)))
 ·have:=X.low
  have:h.objs.size≠sysModules:=by intro q;rw[q] at hlt;exact absurd this (Nat.not_lt.mpr hlt)
  simpa using this
 ·obtain ⟨o,ho,hd⟩:=Heap.dictOf_iff.mp (Heap.DictOf.new (knd:=strKind pw w) h)
  rw[Heap.get?_push_size _ rfl] at ho
  exact (Option.some.inj ho)▸hd
theorem aF5 {C fn:Addr} {n:Str} {pl:Sem Bool} {Q:Value × List Value->Shared->Prop} (S:St w.params b g L l fp h) (X:a01 w K b)
  (e:specialIn K (.ref C) "__getattribute__"=some (some (.builtin "type.__getattribute__"))/\readsIn K C (.type "type")=true/\findCls K (.ref C) (.type "type") n=some (.val (.ref fn))) (k:Q (.ref fn,[]) (sh z h (t+1))):wpAny (model pw w) A (getMethod (.ref C) n pl) Q E (sh z h t):=
 method_cls (s:=sh z h t) (S.kin X) e.1 (cls_value (s:=sh z h t) (S.kin X) e.2.1 e.2.2 rfl k)
end
end
section
section
variable {w:World} {K:Frag} {A:Around} {E:Value->Shared->Prop} {z:Z} {b h h':Heap} {g d:Bas} {t:Nat} {L f:Addr} {l:List (Str × Value)} {fp:FP} {env:Env} {s:Shared} {M:Model} {prog:Program} {R:Result->Shared->Prop} {test target:Expr} {body orelse:List Stmt}
noncomputable def aI7 (M:Model) (A:Around) (env:Env) (Q:Flow->Shared->Prop) (E:Value->Shared->Prop):Result->Shared->Prop:=λr s'=>match r with
 | .ok f=>Q f s'
 | .error e=>cameBackBy M A env E e s'
theorem s_for {iter:Expr} {pos:Pos} {Q:Flow->Shared->Prop} (k:wpAny M A (eval iter env) (λx s₁=>wpAny M A (pyIter x) (λit s₂=>codeAny M A (.forLoop target it body orelse env) (aI7 M A env Q E) s₂) E s₁) E s)
  (hs:∀x,foldedSetIterable iter env x=pure x:=by intro _;kernel_rfl):wpAny M A (exec (.For target iter body orelse pos) env) Q E s:=wpAny_For k hs
theorem aZ0 {pos:Pos} {Q:Flow->Shared->Prop} (k:codeAny M A (.whileLoop test body orelse env) (aI7 M A env Q E) s):wpAny M A (exec (.While test body orelse pos) env) Q E s:=by
 rw[arm_exec_While]
 exact wpAny_bind (wpAny_standAt (wpAny_runOwn (h:=none) k))
theorem be7 {it:Value} {n:Nat} (J:Nat->Heap->Nat->Prop)
  (turn:∀i h t,i<n->J i h t->wpAny (model prog w) A (pyNext it) (λr s₁=>∃v,r=some v/\wpAny (model prog w) A (letOwnedTupleGo target it v) (λU s₁'=>wpAny (model prog w) A (assign target env v) (λU s₂=>wpAny (model prog w) A (execs body env) (λf s₃=>match f with
    | .next | .cont=>X2 λh' t'=>s₃=sh z h' t'/\J (i+1) h' t'
    | .brk=>R (.ok .next) s₃
    | .ret v=>R (.ok (.ret v)) s₃) (notedBy (model prog w) A env λe s'=>R (.error e) s') s₂) (notedBy (model prog w) A env λe s'=>R (.error e) s') s₁') (notedBy (model prog w) A env λe s'=>R (.error e) s') s₁)
    (notedBy (model prog w) A env λe s'=>R (.error e) s') (sh z h t))
  (stop:∀h t,J n h t->wpAny (model prog w) A (pyNext it) (λr s₁=>r=none/\R (.ok .next) s₁) (notedBy (model prog w) A env λe s'=>R (.error e) s') (sh z h t)):
  ∀(m i:Nat) (h:Heap) (t:Nat),i+m=n->J i h t->codeAny (model prog w) A (.forLoop target it body [] env) R (sh z h t)
 |0,i,h,t,e,j=>by
  obtain rfl:i=n:=by lia
  refine b26 (wpAny_mono (stop h t j) (λr s₁ q=>?_) λU V q=>q)
  obtain⟨rfl,q⟩:=q
  exact wpAny_execs_nil q
 |m+1,i,h,t,e,j=>by
  refine b26 (wpAny_mono (turn i h t (by lia) j) (λr s₁ q=>?_) λU V q=>q)
  obtain⟨v,rfl,q⟩:=q
  refine wpAny_mono q (λU s₂ q=>wpAny_mono q (λU s₃ q=>wpAny_mono q (λfl s₄ q=>?_) λU V q=>q) λU V q=>q) λU V q=>q
  induction fl using Flow.casesOn with
  |next=>
   obtain⟨h',t',rfl,j'⟩:=q
   exact be7 J turn stop m (i+1) h' t' (by lia) j'
  |cont=>
   obtain⟨h',t',rfl,j'⟩:=q
   exact be7 J turn stop m (i+1) h' t' (by lia) j'
  |brk=>exact q
  |ret v=>exact q
theorem b80 {x:Str} {pos:Pos} {it v:Value} {Q:Unit->Shared->Prop} (k:Q () s):wpAny M A (letOwnedTupleGo (.Name x pos) it v) Q E s:=wpAny_pure k
theorem aB0 {elts:List Expr} {n:Nat} {pos:Pos} {I a:Addr} {j:Nat} {c:Addr} {Q:Unit->Shared->Prop} (i:Nat) (S:St w.params b g L l fp h) (e:fp[i]?=some (I,.cell (b22 a j))) (k:Q () (sh z h t)):wpAny (model pw w) A (letOwnedTupleGo (.Tuple elts n pos) (.ref I) (.ref c)) Q E (sh z h t):=by
 obtain⟨o,eo,hc,hd⟩:=S.own.at_ _ (List.mem_of_getElem? e)
 unfold letOwnedTupleGo
 refine wpAny_bind (wpAny_load (s:=sh z h t) eo ?_)
 obtain⟨cls,dd,data,sl⟩:=o
 simp only at hc hd
 subst hc hd
 exact wpAny_pure k
noncomputable def b90 (x:Str) (u:Tok) (T:String) (i:Nat) (o:Obj):Prop:=o.cls= .type T/\o.data= .fields #[.str x u,.int (i:Int) 0]
theorem aj8 {x:Str} {u:Tok} {Q:Value->Shared->Prop} (S:St w.params b g L l fp h)
  (k:∀T I h',(T="str_ascii_iterator"∨T="str_iterator")->St w.params b g L l ((I,.cell (b90 x u T 0))::fp) h'->Q (.ref I) (sh z h' t)):wpAny (model pw w) A (pyIter (.str x u)) Q E (sh z h t):=by
 cases ha:x.cps.all (·<128)
 ·exact wpAny_pyIter_wide (s:=sh z h t) ha (k "str_iterator" _ _ (.inr rfl) (S.more a08 ⟨_,Heap.get?_push_size h rfl,rfl,rfl⟩ (al1 (Nat.le_refl _)) (nd1 _)))
 ·exact wpAny_pyIter_ascii (s:=sh z h t) ha (k "str_ascii_iterator" _ _ (.inl rfl) (S.more a08 ⟨_,Heap.get?_push_size h rfl,rfl,rfl⟩ (al1 (Nat.le_refl _)) (nd1 _)))
theorem aj6 {x:Str} {u:Tok} {T:String} {I:Addr} {n c:Nat} {Q:Option Value->Shared->Prop} (hT:T="str_ascii_iterator"∨T="str_iterator") (i:Nat) (S:St w.params b g L l fp h) (e:fp[i]?=some (I,.cell (b90 x u T n))) (hc:x.cps[n]?=some c)
  (k:∀h' tk t',St w.params b g L l (fp.set i (I,.cell (b90 x u T (n+1)))) h'->Q (some (.str ⟨#[c]⟩ tk)) (sh z h' t')):wpAny (model pw w) A (pyNext (.ref I)) Q E (sh z h t):=by
 obtain⟨o,eo,hc',hd⟩:=S.own.at_ _ (List.mem_of_getElem? e)
 have hI:I∈fp.cells:=FP.cells_mem (List.mem_of_getElem? e) (by exact .head _)
 have fin:∀h',h'.IsStrIter I T x u (n+1)->Heap.SameBut I h h'->St w.params b g L l (fp.set i (I,.cell (b90 x u T (n+1)))) h':=λh' hit hs=>by
  obtain⟨oL,es,ep,eL,r⟩:=S.ns
  obtain⟨o',eo',r'⟩:=hit
  exact S.upd e rfl (.head _) ⟨oL,es,ep,(hs.2 L (λq=>S.nL (q▸hI))).trans eL,r⟩ (λc ob ec U n2=>(hs.2 c n2).trans ec) ⟨o',eo',r'⟩
 rcases hT with rfl |rfl
 ·exact wpAny_pyNext_ascii_item (s:=sh z h t) ⟨o,eo,hc',hd⟩ hc λh' hit hs=>k h' _ _ (fin h' hit hs)
 ·exact wpAny_pyNext_wide_item (s:=sh z h t) ⟨o,eo,hc',hd⟩ hc λh' hit hs=>k h' _ _ (fin h' hit hs)
theorem St.gone {P:Params} (S:St P b g L l fp h) {I:Addr} {ao:AO} {i:Nat} (e:fp[i]?=some (I,ao)) (hI':ao.cells I=[I]) (hs:Heap.ExtBut I h h'):St P b g L l (fp.eraseIdx i) h':=by
 have hI:I∈fp.cells:=FP.cells_mem (List.mem_of_getElem? e) (by rw[hI'];exact .head _)
 have S':=S.drop (List.eraseIdx_sublist fp i)
 have ap:=av9 S.own.nd e
 obtain⟨oL,es,ep,eL,r⟩:=S.ns
 refine⟨⟨oL,es,ep,hs _ _ (λq=>S.nL (q▸hI)) eL,r⟩,λc ob ec=>hs _ _ (λq=>by subst q;exact S.own.off _ hI _ ec) (S.keep _ _ ec),S.base,S.above,S.out,S'.own.keeps λc hc o ec=>hs _ _ (λq=>by subst q;exact ap c (by rw[hI'];exact .head _) hc) ec,S'.nL⟩
theorem a67 {x:Str} {u:Tok} {T:String} {I:Addr} {n:Nat} {Q:Option Value->Shared->Prop} (hT:T="str_ascii_iterator"∨T="str_iterator") (i:Nat) (S:St w.params b g L l fp h) (hh:A.handled=none) (e:fp[i]?=some (I,.cell (b90 x u T n))) (hc:x.cps[n]?=none)
  (k:∀h' t',St w.params b g L l (fp.eraseIdx i) h'->Q none (sh z h' t')):wpAny (model pw w) A (pyNext (.ref I)) Q E (sh z h t):=by
 obtain⟨o,eo,hc',hd⟩:=S.own.at_ _ (List.mem_of_getElem? e)
 rcases hT with rfl |rfl
 ·exact wpAny_pyNext_ascii_end (s:=sh z h t) hh ⟨o,eo,hc',hd⟩ hc λh' hs=>k h' _ (S.gone e rfl hs)
 ·exact wpAny_pyNext_wide_end (s:=sh z h t) hh ⟨o,eo,hc',hd⟩ hc λh' hs=>k h' _ (S.gone e rfl hs)
noncomputable def isR (a c d:Int) (t u v:Tok) (o:Obj):Prop:=o={cls:=.type "range",dict:=none,data:=.fields #[.int a t,.int c u,.int d v],slots:=#[]}
noncomputable def bc4 (x left step:Int) (o:Obj):Prop:=o={cls:=.type "range_iterator",dict:=none,data:=.fields #[rawInt x,rawInt left,rawInt step],slots:=#[]}
theorem ag7 {x left step:Int} {I:Addr} {Q:Option Value->Shared->Prop} (i:Nat) (S:St w.params b g L l fp h) (e:fp[i]?=some (I,.cell (bc4 x left step))) (hl:0<left)
  (k:∀h' tk,St w.params b g L l (fp.set i (I,.cell (bc4 (x+step) (left -1) step))) h'->Q (some (.int x tk)) (sh z h' (t+1))):wpAny (model pw w) A (pyNext (.ref I)) Q E (sh z h t):=by
 obtain⟨o,eo,rfl⟩:=S.own.at_ _ (List.mem_of_getElem? e)
 have hI:I∈fp.cells:=FP.cells_mem (List.mem_of_getElem? e) (by exact .head _)
 refine wpAny_pyNext_range_item (s:=sh z h t) eo hl λh' hit hs=>k h' _ ?_
 obtain⟨oL,es,ep,eL,r⟩:=S.ns
 exact S.upd e rfl (.head _) ⟨oL,es,ep,(hs.2 L (λq=>S.nL (q▸hI))).trans eL,r⟩ (λc ob ec U n2=>(hs.2 c n2).trans ec) ⟨_,hit,rfl⟩
theorem a71 {x left step:Int} {I:Addr} {Q:Option Value->Shared->Prop} (i:Nat) (S:St w.params b g L l fp h) (hh:A.handled=none) (e:fp[i]?=some (I,.cell (bc4 x left step))) (hl:left<=0)
  (k:∀h',St w.params b g L l (fp.eraseIdx i) h'->Q none (sh z h' t)):wpAny (model pw w) A (pyNext (.ref I)) Q E (sh z h t):=by
 obtain⟨o,eo,rfl⟩:=S.own.at_ _ (List.mem_of_getElem? e)
 exact wpAny_pyNext_range_end (s:=sh z h t) hh eo hl λh' hs=>k h' (S.gone e rfl hs)
theorem ag9 {a c d:Int} {t₁ u v:Tok} {r:Addr} {Q:Value->Shared->Prop} (i:Nat) (S:St w.params b g L l fp h) (e:fp[i]?=some (r,.cell (isR a c d t₁ u v))) (hsm:Builtin.Range.small a c d=true)
  (k:∀I h',St w.params b g L l ((I,.cell (bc4 a (Builtin.Range.rangeSize a c d) d))::fp) h'->Q (.ref I) (sh z h' t)):wpAny (model pw w) A (pyIter (.ref r)) Q E (sh z h t):=by
 obtain⟨o,eo,rfl⟩:=S.own.at_ _ (List.mem_of_getElem? e)
 exact wpAny_pyIter_range (s:=sh z h t) eo hsm (k _ _ (S.more a08 ⟨_,Heap.get?_push_size h rfl,rfl⟩ (al1 (Nat.le_refl _)) (nd1 _)))
end
end
section
section
variable {w:World} {K:Frag} {A:Around} {E:Value->Shared->Prop} {z:Z} {b h h':Heap} {g d d' d'' fr:Bas} {t:Nat} {L f:Addr} {l:List (Str × Value)} {fp fp':FP} {env:Env} {s:Shared} {M:Model} {value slice:Expr}
theorem a27 {a:Addr} {vs:List Value} {n:Int} {u:Tok} {v:Value} {Q:Value->Shared->Prop} (ha:h.IsList a vs.toArray) (h0:0<=n) (hn:n<1000000) (hv:vs[n.toNat]?=some v) (k:Q v (sh z h t))
  (hs:subscripted slice false (.ref a) (.int n u)=operate [.ref a,.int n u] (getItem (.ref a) (.int n u)):=by kernel_rfl):
  wpAny (model pw w) A (subscriptTail value slice (.ref a) (.int n u)) Q E (sh z h t):=
 subscriptTail_builtinR (s:=sh z h t) (x:=v) ha.typeIs slot_list_getitem.lookup (getItem_listL ha h0 (by lia) hv ⟨rfl,k⟩) hs
theorem az9 {a:Addr} {vs:List Value} {u:Tok} {v:Value} {Q:Value->Shared->Prop} (ha:h.IsList a (vs++[v]).toArray) (k:Q v (sh z h t))
  (hs:subscripted slice false (.ref a) (.int (-1) u)=operate [.ref a,.int (-1) u] (getItem (.ref a) (.int (-1) u)):=by kernel_rfl):
  wpAny (model pw w) A (subscriptTail value slice (.ref a) (.int (-1) u)) Q E (sh z h t):=subscriptTail_builtinR (s:=sh z h t) (x:=v) ha.typeIs slot_list_getitem.lookup (wpAny_getItem_list_neg ha (by decide) (by simp;lia) (by decide) (by
  have e:((-1:Int)+((vs++[v]).toArray.size:Int)).toNat=vs.length:=by simp;lia
  rw[e];simp) ⟨rfl,k⟩) hs
theorem a39 {a:Addr} {vs:List Value} {n:Int} {u:Tok} {j:Nat} {v:Value} {Q:Value->Shared->Prop} (ha:h.IsTuple a vs.toArray) (h0:0<=n) (hn:n<1000000) (hj:seqIndex? n vs.length=some j) (hv:vs[j]?=some v) (k:Q v (sh z h t))
  (hs:subscripted slice false (.ref a) (.int n u)=operate [.ref a,.int n u] (getItem (.ref a) (.int n u)):=by kernel_rfl):
  wpAny (model pw w) A (subscriptTail value slice (.ref a) (.int n u)) Q E (sh z h t):=item_tupleT (s:=sh z h t) ha (by lia) (by lia) hj hv k hs
theorem aO5 {a c e:Int} {t₁ u v:Tok} {Q:Value->Shared->Prop} (S:St w.params b g L l fp h) (he:e≠0) (hp:Builtin.divisionGoesByPylong (c -a) e=false)
  (k:∀r h',St w.params b g L l ((r,.cell (isR a c e t₁ u v))::fp) h'->Q (.ref r) (sh z h' t)):wpAny (model pw w) A (call (.type "range") [.int a t₁,.int c u,.int e v]) Q E (sh z h t):=
 call_range_3 (s:=sh z h t) he (k _ _ (S.more a08 ⟨_,Heap.get?_push_size h rfl,rfl⟩ (al1 (Nat.le_refl _)) (nd1 _))) (.inl hp)
structure aa2 (fr d d':Bas):Prop where
 mono:Sub d d'
 new:∀a o,d' a o->d a o∨∀o',¬ fr a o'
theorem aa2.refl:aa2 fr d d:=⟨λU V e=>e,λU V e=>.inl e⟩
theorem aa2.trans (x:aa2 fr d d') (y:aa2 fr d' d''):aa2 fr d d'':=⟨x.mono.trans y.mono,λa o e=>(y.new a o e).elim (x.new a o) .inr⟩
theorem Sub.or {x y c:Bas} (hx:Sub x c) (hy:Sub y c):Sub (x.or y) c:=λU V e=>e.elim (hx _ _) (hy _ _)
theorem St.frz {P:Params} {a:Addr} {o:AO} (S:St P b (fr.or d) L l ((a,o)::fp) h):St P b (fr.or (aC2 d h (o.cells a))) L l fp h/\aa2 fr d (aC2 d h (o.cells a)):=by
 have S1:St P b ((fr.or d).or (aC2 d h (o.cells a))) L l fp h:=by
  rcases S.freeze (d:=d) with q |q
  ·exact q
  ·exact absurd a12 q
 refine⟨S1.anti (Sub.or (λU V e=>.inl (.inl e)) a12) ?_,⟨aC1,λc ob e=>?_⟩⟩
 ·refine S.base.trans (Sub.or a29 (Sub.trans aC1 a12))
 ·rcases e with e |e
  ·exact .inl e
  ·refine .inr λo' e'=>S.own.off c ?_ o' (.inl e')
   have:FP.cells ((a,o)::fp)=o.cells a++fp.cells:=by unfold FP.cells;rw[List.flatMap_cons]
   rw[this]
   exact List.mem_append_left _ e.1
theorem a84 {P:Params} {g:Bas} {x C dx:Addr} {al:List (Str × Value)} (S:St P b g L l ((x,.inst C dx al)::fp) h):a00 (aC2 d h ((AO.inst C dx al).cells x)) x C al:=by
 obtain⟨hx,es,n,hd,r,_⟩:=S.own.at_ _ (.head _)
 exact⟨dx,es,n,.inr ⟨.head _,hx⟩,.inr ⟨.tail _ (.head _),hd⟩,r⟩
theorem aa2.back {P:Params} (G:aa2 fr d d') (T:Sit P b (fr.or d') fp h):a48 P b fr d d' fp h:=⟨G.mono,G.new,T⟩
noncomputable def aj2 (d:Bas):Value->List Value->Value->Prop
 |v,[],tail=>v=tail
 |v,x::r,tail=>X2 λp rest=>A3 (v= .ref p) (a00 d p 152 [("car",x),("cdr",rest)]) (aj2 d rest r tail)
theorem aj2.sub (k:Sub d d'):∀{v:Value} {vs:List Value} {tail:Value},aj2 d v vs tail->aj2 d' v vs tail
 |U,[],V,e=>e
 |U,V::U1,V1,⟨p,rest,e,I,c⟩=>⟨p,rest,e,I.sub k,c.sub k⟩
end
end
section
section
variable {w:World} {K:Frag} {A:Around} {E:Value->Shared->Prop} {z:Z} {b h h':Heap} {g d d' d'' fr:Bas} {t:Nat} {L:Addr} {l:List (Str × Value)} {fp fp':FP} {env:Env} {s:Shared} {M:Model}
theorem a05 {f:Value} {args:List Value} {Post:Value->FP->Prop} {Q:Value->Shared->Prop} (m:List Bool) (S:St w.params b g L l fp h)
  (sp:∀g',Sub g g'->Sit w.params b g' (msk m fp).1 h->a07 w A z f args h t (λv h'=>∃fp',Sit w.params b g' fp' h'/\Post v fp'))
  (k:∀v h' t' fp',St w.params b g L l (fp'++(msk m fp).2) h'->Post v fp'->Q v (sh z h' t')):wpAny (model pw w) A (call f args) Q E (sh z h t):=by
 refine bb3 (Post:=λv d' fp'=>Post v fp'/\d'=noB) m noB S (λU V e=>e.elim) (λfr hs T=>?_) ?_
 ·refine codeAny_mono (sp _ (hs.trans a29) T) ?_
  rintro r s' ⟨v,h',t',rfl,rfl,fp',T',p⟩
  exact⟨_,_,_,rfl,rfl,noB,_,a48.same T',p,rfl⟩
 ·rintro v h' t' d' fp' _ S' ⟨p,rfl⟩
  exact k v h' t' fp' (S'.anti a29 S.base) p
theorem a03 {f:Value} {args:List Value} {Post:Value->Bas->FP->Prop} {Q:Value->Shared->Prop} (m:List Bool) (S:St w.params b (fr.or d) L l fp h) (hb:Sub (Bas.of b) fr)
  (sp:∀fr',Sub (fr.or d) fr'->Sit w.params b (fr'.or d) (msk m fp).1 h->a07 w A z f args h t (λv h'=>X2 λd' fp'=>a48 w.params b fr' d d' fp' h'/\Post v d' fp'))
  (k:∀v h' t' d' fp',aa2 fr d d'->St w.params b (fr.or d') L l (fp'++(msk m fp).2) h'->Post v d' fp'->Q v (sh z h' t')):wpAny (model pw w) A (call f args) Q E (sh z h t):=by
 refine bb3 (Post:=λv d' fp'=>Post v d' fp'/\aa2 fr d d') m d S a12 (λfr' hs T=>?_) ?_
 ·refine codeAny_mono (sp fr' hs T) ?_
  rintro r s' ⟨v,h',t',rfl,rfl,d',fp',B,p⟩
  exact⟨_,_,_,rfl,rfl,d',fp',B,p,B.mono,λa o e=>(B.new a o e).elim .inl λq=>.inr λo' e'=>q o' (hs _ _ (.inl e'))⟩
 ·rintro v h' t' d' fp' hm S' ⟨p,G⟩
  exact k v h' t' d' fp' G (S'.anti (Sub.or (λU V e=>.inl (.inl e)) a12) (hb.trans a29)) p
end
end
section
noncomputable def ddl:List (Str × Value)->List (Str × Value)
 |[]=>[]
 |p::r=>p::(ddl r).filter λq=>!(q.1==p.1)
theorem ae1 (x y:Str) (hxy:(x==y)=false):∀l:List (Str × Value),(l.filter λq=>!(q.1==y)).lookup x=l.lookup x
 |[]=>rfl
 |p::r=>by
  obtain⟨n,v⟩:=p
  by_cases q:n=y
  ·have:(x==n)=false:=q▸hxy
   simp [q,List.lookup,hxy,ae1 x y hxy r]
  ·have:(n==y)=false:=by simpa using q
   simp only[List.filter,this,Bool.not_false,List.lookup]
   cases x==n with
   |true=>rfl
   |false=>exact ae1 x y hxy r
theorem az4 (x:Str):∀l:List (Str × Value),(ddl l).lookup x=l.lookup x
 |[]=>rfl
 |p::r=>by
  obtain⟨n,v⟩:=p
  simp only[ddl,List.lookup]
  cases q:x==n with
  |true=>rfl
  |false=>rw[ae1 x n q,az4 x r]
theorem St.locs {P:Params} {b h:Heap} {g:Bas} {L:Addr} {l:List (Str × Value)} {fp:FP} (S:St P b g L l fp h) (l':List (Str × Value)) (e:ddl l=l':=by kernel_rfl):St P b g L l' fp h:=by
 subst e
 refine⟨?_,S.keep,S.base,S.above,S.out,S.own,S.nL⟩
 have:(λx=>(ddl l).lookup x)=λx=>l.lookup x:=funext λx=>az4 x l
 rw[this]
 exact S.ns
section
variable {w:World} {K:Frag} {A:Around} {E:Value->Shared->Prop} {z:Z} {b h h':Heap} {g d d' d'' fr:Bas} {t:Nat} {L:Addr} {l:List (Str × Value)} {fp fp':FP} {env:Env} {s:Shared} {M:Model}
theorem x_neg {n:Int} {u:Tok} {Q:Value->Shared->Prop} (k:∀tk,Q (.int (-n) tk) (sh z h (t+1))):wpAny (model pw w) A (unaryOp .USub (.int n u)) Q E (sh z h t):=PyProof.Rows.neg_int (k t)
theorem aH0 (a:Int):Builtin.divisionGoesByPylong a (-1)=false:=by
 unfold Builtin.divisionGoesByPylong
 have e:(decide ((if ((-1:Int)==0)=true then 0 else (-1:Int).natAbs.log2/30+1)>300))=false:=by decide
 simp only[e,Bool.false_and]
theorem at9 (n:Nat):Builtin.Range.rangeSize ((n:Int) -1) (-1) (-1)=n:=by
 unfold Builtin.Range.rangeSize
 simp
 lia
theorem ay5 (n:Nat) (hn:n<1000000):Builtin.Range.small ((n:Int) -1) (-1) (-1)=true:=by
 unfold Builtin.Range.small Builtin.Range.rangeFitsLong
 rw[at9]
 simp
 lia
end
end
section
section
variable {w:World} {K:Frag} {A:Around} {E:Value->Shared->Prop} {z:Z} {b h h':Heap} {g d d' d'' fr:Bas} {t:Nat} {L:Addr} {l:List (Str × Value)} {fp fp':FP} {env:Env} {s:Shared} {M:Model}
theorem b79 {out:Str} {Q:Value->Shared->Prop} (hz:out.length<=sizeLine) (k:∀tk,Q (.str out tk) (sh z h (t+1))) (he:evalEach [] env=[]:=by kernel_rfl):wpAny M A (joinParts out (evalEach [] env)) Q E (sh z h t):=by
 rw[he]
 exact joinParts_nil (s:=sh z h t) (k t) hz
theorem aW6 {x:Str} {u:Tok} {Q:Value->Shared->Prop} (hz:x.length<=sizeLine) (k:∀tk t',Q (.str x tk) (sh z h t')):wpAny (model pw w) A (formatField (.str x u) Str.empty) Q E (sh z h t):=formatField_str (s:=sh z h t) (λt' k'=>k t' k') hz
theorem ba9 {n:Int} {u:Tok} {Q:Value->Shared->Prop} (hn:n.natAbs<1000000) (k:∀tk,Q (.str (Str.ofString (toString n)) tk) (sh z h (t+2))):wpAny (model pw w) A (formatField (.int n u) Str.empty) Q E (sh z h t):=
 formatField_int_small (s:=sh z h t) (by
  have h1:n.natAbs<2^20:=by exact ltT (by assumption)
  by_cases h0:n.natAbs=0
  ·rw [h0];decide
  ·have:n.natAbs.log2<20:=(Nat.log2_lt h0).mpr h1
   exact ltT (by assumption)) (k _)
theorem aW1 {y:Addr} {Q:Value->Shared->Prop} (k:Q (.bool false) s):wpAny M A (compareOp .Is .none (.ref y)) Q E s:=by
 show wpAny M A (do return Value.bool (<-isSame .none (.ref y))) Q E s
 refine wpAny_bind (wpAny_of_eq (show isSame .none (.ref y)=pure (Value.none==Value.ref y) from rfl) ?_)
 have e:(Value.none==Value.ref y)=false:=by
  rw[beq_eq_false_iff_ne];intro q;cases q
 rw[e]
 exact wpAny_pure k
theorem a16 {α:Type} {x:Str} {a:α}:∀{l:List (Str × α)},l.lookup x=some a->(x,a)∈l
 |[],e=>by simp at e
 |(n,c)::r,e=>by
  simp only[List.lookup] at e
  split at e
  ·rename_i q
   cases e
   rw[eq_of_beq q]
   exact .head _
  ·exact .tail _ (a16 e)
theorem aB8:((List.range 1000).all λn=>Nat.ble (Str.ofString (toString (n:Int))).length 5)=true:=by decide+kernel
theorem av4 {n:Nat} (hn:n<1000):(Str.ofString (toString (n:Int))).length<=5:=Nat.le_of_ble_eq_true (List.all_eq_true.mp aB8 n (List.mem_range.mpr hn))
end
end
section
section
variable {w:World} {K:Frag} {A:Around} {E:Value->Shared->Prop} {z:Z} {b h h':Heap} {g d d' d'' fr:Bas} {t:Nat} {L:Addr} {l:List (Str × Value)} {fp fp':FP} {env:Env} {s:Shared} {M:Model}
theorem aF2 {x y:Str} {p1 p2:Pos} {n:Nat} {pos:Pos} {a:Addr} {v1 v2:Value} {Q:Unit->Shared->Prop} (S:St w.params b g L l fp h) (hh:A.handled=none) (ht:h.IsTuple a [v1,v2].toArray)
  (k:∀h',St w.params b g L l fp h'->wpAny (model pw w) A (storeName env x v1) (λU s₁=>wpAny (model pw w) A (storeName env y v2) (λU s₂=>Q () s₂) E s₁) E (sh z h' t)):wpAny (model pw w) A (assign (.Tuple [.Name x p1,.Name y p2] n pos) env (.ref a)) Q E (sh z h t):=by
 have e:assignEach [.Name x p1,.Name y p2] env=[(false,assign (.Name x p1) env),(false,assign (.Name y p2) env)]:=by kernel_rfl
 refine aA9 S hh ht (by rw[e];rfl) (by rw[e];rfl) λh' S'=>?_
 rw[e]
 refine wpAny_assignInOrder_more (wpAny_assign_Name (wpAny_mono (k h' S') (λU s₁ q=>?_) λU V q=>q))
 refine wpAny_assignInOrder_more (wpAny_assign_Name (wpAny_mono q (λU s₁ q=>?_) λU V q=>q))
 exact wpAny_assignInOrder_none q
theorem aF1 {x y z':Str} {p1 p2 p3:Pos} {n:Nat} {pos:Pos} {a:Addr} {v1 v2 v3:Value} {Q:Unit->Shared->Prop} (S:St w.params b g L l fp h) (hh:A.handled=none) (ht:h.IsTuple a [v1,v2,v3].toArray)
  (k:∀h',St w.params b g L l fp h'->wpAny (model pw w) A (storeName env x v1) (λU s₁=>wpAny (model pw w) A (storeName env y v2) (λU s₂=>wpAny (model pw w) A (storeName env z' v3) (λU s₃=>Q () s₃) E s₂) E s₁) E (sh z h' t)):wpAny (model pw w) A (assign (.Tuple [.Name x p1,.Name y p2,.Name z' p3] n pos) env (.ref a)) Q E (sh z h t):=by
 have e:assignEach [.Name x p1,.Name y p2,.Name z' p3] env=[(false,assign (.Name x p1) env),(false,assign (.Name y p2) env),(false,assign (.Name z' p3) env)]:=by kernel_rfl
 refine aA9 S hh ht (by rw[e];rfl) (by rw[e];rfl) λh' S'=>?_
 rw[e]
 refine wpAny_assignInOrder_more (wpAny_assign_Name (wpAny_mono (k h' S') (λU s₁ q=>?_) λU V q=>q))
 refine wpAny_assignInOrder_more (wpAny_assign_Name (wpAny_mono q (λU s₁ q=>?_) λU V q=>q))
 refine wpAny_assignInOrder_more (wpAny_assign_Name (wpAny_mono q (λU s₁ q=>?_) λU V q=>q))
 exact wpAny_assignInOrder_none q
theorem aZ4 {x y z' u:Str} {p1 p2 p3 p4:Pos} {n:Nat} {pos:Pos} {a:Addr} {v1 v2 v3 v4:Value} {Q:Unit->Shared->Prop} (S:St w.params b g L l fp h) (hh:A.handled=none) (ht:h.IsTuple a [v1,v2,v3,v4].toArray)
  (k:∀h',St w.params b g L l fp h'->wpAny (model pw w) A (storeName env x v1) (λU s₁=>wpAny (model pw w) A (storeName env y v2) (λU s₂=>wpAny (model pw w) A (storeName env z' v3) (λU s₃=>wpAny (model pw w) A (storeName env u v4) (λU s₄=>Q () s₄) E s₃) E s₂) E s₁) E (sh z h' t)):wpAny (model pw w) A (assign (.Tuple [.Name x p1,.Name y p2,.Name z' p3,.Name u p4] n pos) env (.ref a)) Q E (sh z h t):=by
 have e:assignEach [.Name x p1,.Name y p2,.Name z' p3,.Name u p4] env=[(false,assign (.Name x p1) env),(false,assign (.Name y p2) env),(false,assign (.Name z' p3) env),(false,assign (.Name u p4) env)]:=by kernel_rfl
 refine aA9 S hh ht (by rw[e];rfl) (by rw[e];rfl) λh' S'=>?_
 rw[e]
 refine wpAny_assignInOrder_more (wpAny_assign_Name (wpAny_mono (k h' S') (λU s₁ q=>?_) λU V q=>q))
 refine wpAny_assignInOrder_more (wpAny_assign_Name (wpAny_mono q (λU s₁ q=>?_) λU V q=>q))
 refine wpAny_assignInOrder_more (wpAny_assign_Name (wpAny_mono q (λU s₁ q=>?_) λU V q=>q))
 refine wpAny_assignInOrder_more (wpAny_assign_Name (wpAny_mono q (λU s₁ q=>?_) λU V q=>q))
 exact wpAny_assignInOrder_none q
theorem aZ3 {x y:Str} {a:Addr} {v1 v2:Value} {Q:Unit->Shared->Prop} (S:St w.params b g L l fp h) (hh:A.handled=none) (ht:h.IsTuple a [v1,v2].toArray)
  (k:∀h',St w.params b g L l fp h'->wpAny (model pw w) A (storeName env y v2) (λU s₁=>wpAny (model pw w) A (storeName env x v1) (λU s₂=>Q () s₂) E s₁) E (sh z h' t)):
  wpAny (model pw w) A (unpackItems (.ref a) 2 none) (λitems s₂=>wpAny (model pw w) A (assignInOrder [bindName env y,bindName env x] items.reverse) Q E s₂) E (sh z h t):=by
 refine wpAny_unpackItems_tuple (prog:=pw) (w:=w) (A:=A) (E:=E) (s:=sh z h t) (items:=[v1,v2].toArray) (Q:=λitems s₂=>wpAny (model pw w) A (assignInOrder [bindName env y,bindName env x] items.reverse) Q E s₂) hh ht λh' hs=>?_
 show wpAny (model pw w) A (assignInOrder [bindName env y,bindName env x] [v2,v1]) Q E (sh z h' t)
 refine wpAny_assignInOrder_more (wpAny_bindName (wpAny_mono (k h' (S.grow (aG8 hs (Nat.le_refl _)))) (λU s₁ q=>?_) λU V q=>q))
 exact wpAny_assignInOrder_more (wpAny_bindName (wpAny_mono q (λU s₂ q=>wpAny_assignInOrder_none q) λU V q=>q))
theorem b45 {es:List DictEntry} {al al':List (Str × Value)} (x:a22 es al) (y:a22 es al'):al=al':=by
 unfold a22 at x y
 have:=x.symm.trans y
 exact (List.map_inj_right (λU V e=>Option.some.inj e)).mp this
theorem aP3 {x C D:Addr} {al al':List (Str × Value)} (I:am6 h x C al) (J:am6 h x D al'):C=D/\al=al':=by
 obtain⟨dx,es,n,a,c,r⟩:=I
 obtain⟨dx',es',n',a',c',r'⟩:=J
 rw[a] at a'
 cases a'
 rw[c] at c'
 cases c'
 exact⟨rfl,b45 r r'⟩
end
end
section
section
variable {w:World} {K:Frag} {A:Around} {E:Value->Shared->Prop} {z:Z} {b h h':Heap} {g d d' d'' fr:Bas} {t:Nat} {L:Addr} {l:List (Str × Value)} {fp fp':FP} {env:Env} {s:Shared} {M:Model}
theorem ay2 {D:Addr} {vs:List Value} {ys:List Str} {x:Str} {u:Tok} {Q:Value->Shared->Prop} (hl:h.IsList D vs.toArray) (hi:StrsAre vs ys) (hok:(ys.map (·.length)).sum+ys.length*x.length<=16777216)
  (k:∀tk t',Q (.str (Txt.join x ys) tk) (sh z h t')):wpAny (model pw w) A (call (.builtin "str.join") [.str x u,.ref D]) Q E (sh z h t):=
 join_list (s:=sh z h t) (items:=vs.toArray) hl (by simpa using hi) hok λt' k'=>k t' k'
noncomputable def bj5 (w:World) (A:Around) (env:Env) (scope:Scope) (cl:List (Str × Addr)) (x:Str) (ifs:List Expr) (elt:Expr) (p:Value->Bool) (F:Value->Value->Prop) (Q:Value->Shared->Prop):Value->Shared->Prop:=λit s₂=>
 ∃I fp wr n P St,it= .ref I/\Walks pw w A I fp wr n P St/\n<=sizeLine/\St 0 s₂.heap/\(∀b∈fp,b<s₂.heap.objs.size)/\
   QuietOnC pw w A env scope cl x ifs elt wr P p F s₂/\
   (∀D h' tk ys (vs:List Value),s₂.heap.get? D=none->h'.IsList D ys->h'.PlainList D ys->vs.length=n->(∀j v,vs[j]?=some v->P j v)->Paired F (vs.filter p) ys.toList->
    (∀b o,b∉wr->s₂.heap.get? b=some o->h'.get? b=some o)->Q (.ref D) {s₂ with heap:=h',toks:=tk})
theorem aQ1 {elt iter:Expr} {x:Str} {px:Pos} {ifs:List Expr} {scope:Scope} {pos:Pos} {Q:Value->Shared->Prop} (cl:List (Str × Addr)) (p:Value->Bool) (F:Value->Value->Prop)
  (k:wpAny (model pw w) A (eval iter env) (λxv s₁=>wpAny (model pw w) A (pyIter xv) (bj5 w A env scope cl x ifs elt p F Q) E s₁) E s)
  (hclos:closureFor scope env=pure cl:=by kernel_rfl) (hcell:(scope.names.all λy=>y.2 != .cell)=true:=by kernel_rfl) (hkind:scope.kind= .function:=by kernel_rfl)
  (hnames:(scope.names.all λy=>y.2 != .local||scope.names.lookup y.1==some .local)=true:=by kernel_rfl) (hx:scope.names.lookup x=some .local:=by kernel_rfl)
  (hs:∀x,foldedSetIterable iter env x=pure x:=by intro _;kernel_rfl):
  wpAny (model pw w) A (eval (.ListComp elt [⟨.Name x px,iter,ifs,0⟩] scope pos) env) Q E s:=by
 refine wpAny_ListComp_free p F hclos (λy hy q=>?_) hkind (λy hy q=>?_) hx k hs
 ·have:=List.all_eq_true.mp hcell y hy
  rw[q] at this
  cases this
 ·have:=List.all_eq_true.mp hnames y hy
  rw[q] at this
  simpa using this
theorem St.moreN {P:Params} (S:St P b g L l fp h) (k:a15 h h') {a:Addr} {ao:AO} (hat:ao.At P h' a) (hc:∀c∈ao.cells a,h.get? c=none) (nd:(ao.cells a).Nodup):St P b g L l ((a,ao)::fp) h':=by
 have S':=S.grow k
 have ec:FP.cells ((a,ao)::fp)=ao.cells a++fp.cells:=by unfold FP.cells;rw[List.flatMap_cons]
 refine⟨S'.ns,S'.keep,S'.base,S'.above,S'.out,⟨λp hp=>?_,λc hc'=>?_,?_⟩,?_⟩
 ·cases hp with
  |head=>exact hat
  |tail U hp=>exact S'.own.at_ p hp
 ·rw [ec] at hc'
  rcases List.mem_append.mp hc' with hc' |hc'
  ·intro o e
   have:=hc c hc'
   rw[S.keep _ _ e] at this
   cases this
  ·exact S'.own.off c hc'
 ·rw [ec,List.nodup_append]
  refine⟨nd,S.own.nd,λc h1 d h2 e=>?_⟩
  subst e
  obtain⟨p,hp,hcp⟩:=List.mem_flatMap.mp h2
  obtain⟨ob,eo⟩:=(S.own.at_ p hp).cell c hcp
  rw[hc c h1] at eo
  cases eo
 ·rw [ec,List.mem_append,not_or]
  refine⟨λq=>?_,S.nL⟩
  obtain⟨oL,_,_,e,_⟩:=S.ns
  rw[hc L q] at e
  cases e
theorem aH5 {elt:Expr} {x:Str} {ifs:List Expr} {scope:Scope} {cl:List (Str × Addr)} {p:Value->Bool} {F:Value->Value->Prop} {Q:Value->Shared->Prop} {a:Addr} {vs:List Value} (S:St w.params b g L l fp h) (hh:A.handled=none)
  (ha:h.IsList a vs.toArray) (hz:vs.length<=sizeLine)
  (tests:∀C v s₃ m₃ E',v∈vs->s₃.heap.Ns C m₃->m₃ x=some v->a15 h s₃.heap->
   wpAny (model pw w) A (forIn ifs true λc r=>if r=true then do let ok<-isTrue c (compEnvC scope cl C env) (eval c (compEnvC scope cl C env));pure (ForInStep.yield ok) else pure (ForInStep.yield r))
   (λok s₄=>ok=p v/\PySem.Keeps s₃ s₄) E' s₃)
  (elts:∀C v s₃ m₃ E',v∈vs->p v=true->s₃.heap.Ns C m₃->m₃ x=some v->a15 h s₃.heap->wpAny (model pw w) A (eval elt (compEnvC scope cl C env)) (λy s₄=>F v y/\PySem.Keeps s₃ s₄) E' s₃)
  (k:∀(D:Addr) (ys:List Value) (h':Heap) (t':Nat),Paired F (vs.filter p) ys->St w.params b g L l ((D,.list ys)::fp) h'->Q (.ref D) (sh z h' t')):
  wpAny (model pw w) A (pyIter (.ref a)) (bj5 w A env scope cl x ifs elt p F Q) E (sh z h t):=by
 have hlt:a<h.objs.size:=by obtain⟨_,e,_⟩:=ha;exact Heap.lt_size e
 have up:∀h':Heap,(∀b o,b∉[h.objs.size]->(h.push {cls:=.type "list_iterator",data:=.fields #[.ref a,.int 0 0]}).get? b=some o->h'.get? b=some o)->a15 h h':=
  λh' hk b o e=>hk b o (old_not_new e) (Heap.get?_push_of_some _ e)
 refine wpAny_pyIter_list (s:=sh z h t) ha ⟨h.objs.size,[h.objs.size,a],[h.objs.size],vs.toArray.size,_,_,rfl,Walks.list hh _ _ (Nat.ne_of_lt hlt) vs.toArray,by simpa using hz,⟨⟨_,Heap.get?_push_size _ rfl,rfl,rfl⟩,ha.push _⟩,?_,⟨?_,?_⟩,?_⟩
 ·intro b hb
  show b<(h.push _).objs.size
  rw[Heap.size_push]
  rcases List.mem_cons.mp hb with rfl |hb
  ·exact Nat.lt_succ_self _
  ·rcases List.mem_cons.mp hb with rfl |hb
   ·exact Nat.lt_succ_of_lt hlt
   ·cases hb
 ·intro C i v s₃ m₃ E' _ hP hn hm hk _
  exact tests C v s₃ m₃ E' (by simpa using Array.mem_of_getElem? hP) hn hm (up _ hk)
 ·intro C i v s₃ m₃ E' _ hP hp hn hm hk _
  exact elts C v s₃ m₃ E' (by simpa using Array.mem_of_getElem? hP) hp hn hm (up _ hk)
 ·intro D h' tk ys vs' hnew hlD hpl hlen hP hF hk
  have e:vs'=vs:=by simpa using list_of_places hlen hP
  subst e
  have kp:a15 h h':=up h' hk
  obtain⟨n,eD⟩:=hpl
  refine k D ys.toList h' tk hF (S.moreN kp (ao:=.list ys.toList) ⟨n,by simpa using eD⟩ (λc hc=>?_) (by simp [AO.cells]))
  cases hc with
  |head=>
   cases q:h.get? D with
   |none=>rfl
   |some o=>rw[show (h.push _).get? D=some o from Heap.get?_push_of_some _ q] at hnew;cases hnew
  |tail U hc=>cases hc
theorem aQ3 {elt:Expr} {x:Str} {ifs:List Expr} {scope:Scope} {cl:List (Str × Addr)} {p:Value->Bool} {F:Value->Value->Prop} {Q:Value->Shared->Prop} {y:Str} {u:Tok} (S:St w.params b g L l fp h) (hh:A.handled=none)
  (hz:y.length<=sizeLine)
  (tests:∀C i v s₃ m₃ E',SignAt y i v->s₃.heap.Ns C m₃->m₃ x=some v->a15 h s₃.heap->
   wpAny (model pw w) A (forIn ifs true λc r=>if r=true then do let ok<-isTrue c (compEnvC scope cl C env) (eval c (compEnvC scope cl C env));pure (ForInStep.yield ok) else pure (ForInStep.yield r))
   (λok s₄=>ok=p v/\PySem.Keeps s₃ s₄) E' s₃)
  (elts:∀C i v s₃ m₃ E',SignAt y i v->p v=true->s₃.heap.Ns C m₃->m₃ x=some v->a15 h s₃.heap->wpAny (model pw w) A (eval elt (compEnvC scope cl C env)) (λy s₄=>F v y/\PySem.Keeps s₃ s₄) E' s₃)
  (k:∀(D:Addr) (vs ys:List Value) (h':Heap) (t':Nat),vs.length=y.cps.size->(∀j v,vs[j]?=some v->SignAt y j v)->Paired F (vs.filter p) ys->St w.params b g L l ((D,.list ys)::fp) h'->Q (.ref D) (sh z h' t')):
  wpAny (model pw w) A (pyIter (.str y u)) (bj5 w A env scope cl x ifs elt p F Q) E (sh z h t):=by
 refine wpAny_pyIter_str (s:=sh z h t) λo St W hst=>?_
 have up:∀(h':Heap),(∀b o',b∉[h.objs.size]->(h.push o).get? b=some o'->h'.get? b=some o')->a15 h h':=
  λh' hk b o' e=>hk b o' (old_not_new e) (Heap.get?_push_of_some _ e)
 refine⟨h.objs.size,[h.objs.size],[h.objs.size],y.cps.size,SignAt y,St,rfl,W A hh,hz,hst,?_,⟨?_,?_⟩,?_⟩
 ·intro b hb
  show b<(h.push o).objs.size
  rw[Heap.size_push,List.mem_singleton.mp hb]
  exact Nat.lt_succ_self _
 ·intro C i v s₃ m₃ E' _ hP hn hm hk _
  exact tests C i v s₃ m₃ E' hP hn hm (up _ hk)
 ·intro C i v s₃ m₃ E' _ hP hp hn hm hk _
  exact elts C i v s₃ m₃ E' hP hp hn hm (up _ hk)
 ·intro D h' tk ys vs' hnew hlD hpl hlen hP hF hk
  have kp:a15 h h':=up h' hk
  obtain⟨n,eD⟩:=hpl
  refine k D vs' ys.toList h' tk hlen hP hF (S.moreN kp (ao:=.list ys.toList) ⟨n,by simpa using eD⟩ (λc hc=>?_) (by simp [AO.cells]))
  cases hc with
  |head=>
   cases q:h.get? D with
   |none=>rfl
   |some o=>rw[show (h.push _).get? D=some o from Heap.get?_push_of_some _ q] at hnew;cases hnew
  |tail U hc=>cases hc
theorem aM0 {x:Str} {pos:Pos} {C:Addr} {v:Value} {scope:Scope} {cl:List (Str × Addr)} {m:Str->Option Value} {Q:Value->Shared->Prop} (hn:s.heap.Ns C m) (hv:m x=some v) (k:Q v s)
  (hk:(compEnvC scope cl C env).scope.kind= .function:=by kernel_rfl) (hl:(compEnvC scope cl C env).kindOf x=some .local:=by kernel_rfl) (hd:(x==("__debug__":Str))=false:=by kernel_rfl):
  wpAny M A (eval (.Name x pos) (compEnvC scope cl C env)) Q E s:=wpAny_Name (wpAny_loadName_local (env:=compEnvC scope cl C env) hk hl hn hv k) hd
theorem bc3 {x:Str} {pos:Pos} {C:Addr} {v:Value} {scope:Scope} {cl:List (Str × Addr)} {Q:Value->Shared->Prop} (S:St w.params b g L l fp h) (X:a01 w K b) (e:nsIn K mainGlobals x=some (some v)) (k1:a15 h s.heap) (k:Q v s)
  (hg:env.globals=mainGlobals:=by kernel_rfl)
  (hk:(compEnvC scope cl C env).scope.kind= .function:=by kernel_rfl) (hx:(compEnvC scope cl C env).kindOf x=some .globalImplicit:=by kernel_rfl) (hd:(x==("__debug__":Str))=false:=by kernel_rfl):
  wpAny M A (eval (.Name x pos) (compEnvC scope cl C env)) Q E s:=by
 obtain⟨mg,G⟩:=X.glob
 have kk:a15 b s.heap:=(S.base.keepsH S.keep).trans k1
 exact Name_function_global hk hx (loadGlobal_global (env:=compEnvC scope cl C env) (show s.heap.Ns env.globals mg from hg▸G.keeps kk) (mg_of X.kin G e) k) hd
theorem bg7 {x:Str} {pos:Pos} {C:Addr} {v:Value} {scope:Scope} {cl:List (Str × Addr)} {Q:Value->Shared->Prop} (S:St w.params b g L l fp h) (X:a01 w K b) (e:nsIn K mainGlobals x=some none) (hv:bootBuiltins x=some v) (k1:a15 h s.heap) (k:Q v s)
  (hn:(x==("__name__":Str))=false:=by kernel_rfl) (hg:env.globals=mainGlobals:=by kernel_rfl) (hbn:env.builtins=builtinsNs:=by kernel_rfl)
  (hk:(compEnvC scope cl C env).scope.kind= .function:=by kernel_rfl) (hx:(compEnvC scope cl C env).kindOf x=some .globalImplicit:=by kernel_rfl) (hd:(x==("__debug__":Str))=false:=by kernel_rfl):
  wpAny M A (eval (.Name x pos) (compEnvC scope cl C env)) Q E s:=by
 obtain⟨mg,G⟩:=X.glob
 obtain⟨mb,B,hb⟩:=X.blt
 have kk:a15 b s.heap:=(S.base.keepsH S.keep).trans k1
 exact Name_function_global hk hx (loadGlobal_builtin (env:=compEnvC scope cl C env) (show s.heap.Ns env.globals mg from hg▸G.keeps kk) (mg_none_of X.kin G e) (show s.heap.Ns env.builtins mb from hbn▸B.keeps kk) ((hb x (by simpa using hn)).trans hv) k) hd
theorem aG5 (s:Shared) (t':Nat):PySem.Keeps s {s with toks:=t'}:=⟨_,_,rfl,λU V e=>e⟩
theorem a93 {env:Env} {A:Around} {E':Value->Shared->Prop} {s₃:Shared} {v:Value}:
  wpAny (model pw w) A (forIn ([]:List Expr) true λc r=>if r=true then do let ok<-isTrue c env (eval c env);pure (ForInStep.yield ok) else pure (ForInStep.yield r)) (λok s₄=>ok=(λ_:Value=>true) v/\PySem.Keeps s₃ s₄) E' s₃:=by
 rw[List.forIn_nil]
 exact wpAny_pure ⟨rfl,_,_,rfl,λU V e=>e⟩
end
end
section
section
variable {w:World} {K:Frag} {A:Around} {E:Value->Shared->Prop} {z:Z} {b h h':Heap} {g d d' d'' fr:Bas} {t:Nat} {L:Addr} {l:List (Str × Value)} {fp fp':FP} {env:Env} {s:Shared} {M:Model}
theorem as7 {a:Addr} {vs:List Value} {ys:List Str} {x:Str} {u:Tok} {Q:Value->Shared->Prop} (ht:h.IsTuple a vs.toArray) (hi:StrsAre vs ys) (k:Q (.bool (ys.any (·==x))) (sh z h t)):
  wpAny (model pw w) A (compareOp .In (.str x u) (.ref a)) Q E (sh z h t):=in_tuple_strs (s:=sh z h t) (items:=vs.toArray) ht (by simpa using hi) k
theorem bd6 {x y:Str} {u v:Tok} {i:Nat} {rest:List Nat} {Q:Value->Shared->Prop} (ho:PySem.Builtin.Str.occurrences x y 0 x.length 1=i::rest) (k:∀tk,Q (.int i tk) (sh z h (t+1))):wpAny (model pw w) A (call (.builtin "str.index") [.str x u,.str y v]) Q E (sh z h t):=SC.index ho (k t)
end
end
section
open PySem.Builtin PySem.Builtin.Str
section
variable {w:World} {K:Frag} {A:Around} {E:Value->Shared->Prop} {z:Z} {b h h':Heap} {g d d' d'' fr:Bas} {t:Nat} {L:Addr} {l:List (Str × Value)} {fp fp':FP} {env:Env} {s:Shared} {M:Model}
theorem b84:typeLookup (.type "list_reverseiterator") "__len__"=pure none:=by rw[typeLookup_type,builtinLookup_eq_fast];kernel_rfl
theorem bh2:typeLookup (.type "list_reverseiterator") "__length_hint__"=pure (some (.builtin "list_reverseiterator.__length_hint__")):=by rw[typeLookup_type,builtinLookup_eq_fast];kernel_rfl
theorem aM5 {prog:Program} {I:Addr} {fp wr:List Addr} {G:Array GenState->Array GenState->Prop} {n:Nat} {P:Nat->Value->Prop} {St:Nat->Shared->Prop} {Q:List Value->Shared->Prop}
  (W:WalksS prog w A.in1 I fp wr G n P St) (hT:∀i s,St i s->s.TypeIs (.ref I) "list_reverseiterator") (hst:St 0 s) (hfp:∀b∈fp,b<s.heap.objs.size) (hI:I∈fp)
  (hQ:∀s' acc,Moved wr G s s'->ItemsOf P acc n->Q acc.toList s') (hn:n<=sizeLine):wpAny (model prog w) A (collect (.ref I)) Q E s:=by
 have hSf:s.heap.objs.size∉fp:=λhm=>Nat.lt_irrefl _ (hfp _ hm)
 have hSI:s.heap.objs.size≠I:=λe=>hSf (e▸hI)
 unfold collect
 refine wpAny_bind (wpAny_runValue (codeAny_builtin F.entry_proto_collect ?_))
 rw[Around.under_plainId F.plain_proto_collect _]
 show wpAny _ A.in1 (newList []>>=λl=>again (.builtin "list.__iadd__" ⟨[l,.ref I],[]⟩)) _ _ s
 refine wpAny_bind (wpAny_newObj_type ?_)
 refine wpAny_pure ⟨plainId_quiet F.plain_list_iadd _,codeAny_builtin F.entry_list_iadd ?_⟩
 rw[Around.under_plainId F.plain_list_iadd _]
 have hst₁:=W.frame 0 s (s.heap.push {cls:=.type "list",data:=.seq ([]:List Value).toArray}) s.toks hst (Nat.le_refl _) λb U o e=>Heap.get?_push_of_some _ e
 have hS₁:(s.heap.push {cls:=.type "list",data:=.seq ([]:List Value).toArray}).get? s.heap.objs.size=some {cls:=.type "list",data:=.seq ([]:List Value).toArray}:=Heap.get?_push_size _ rfl
 have h1:Builtin.List.listSameRef (.ref s.heap.objs.size) (.ref I)=false:=by simp [Builtin.List.listSameRef,hSI]
 show wpAny _ A.in1 (Builtin.List.listExtendWith (.ref s.heap.objs.size) (.ref I) (.ref s.heap.objs.size)) _ _ _
 unfold Builtin.List.listExtendWith
 refine wpAny_bind (wpAny_typeOf (hT 0 _ hst₁) ?_)
 rw[if_neg (by rw[h1];decide)]
 refine wpAny_bind (W.self 0 _ _ _ hst₁ ?_)
 refine wpAny_bind (wpAny_holding ?_)
 unfold Builtin.List.listLengthHint
 refine wpAny_bind (wpAny_specialOf (hT 0 _ hst₁) b84 ?_)
 show wpAny _ A.in1 (specialOf (Value.ref I) (Str.ofString "__length_hint__")>>=_) _ _ _
 refine wpAny_bind (wpAny_specialOf (hT 0 _ hst₁) bh2 ?_)
 (generalize hid:("list_reverseiterator.__length_hint__":String)=id0;(fail_if_success (clear hid id0));wp_delta;rw[show splitId id0=some ("list_reverseiterator","__length_hint__") from by subst hid;decide+kernel];subst hid)
 refine wpAny_bind (wpAny_isInstance (b:=true) (hT 0 _ hst₁) (by rw[isSubtype_type];kernel_rfl) ?_)
 refine wpAny_pure ?_
 rw[if_neg (by decide)]
 refine wpAny_pure ⟨plainId_quiet F.plain_extend_loop _,codeAny_extend_loopS W hn _ hSf _ n 0 _ _ _ rfl (Nat.zero_le _) hst₁ hS₁ (ItemsOf.nil P) λs' acc' c' hm hS' hacc=>?_⟩
 show wpAny _ A (load s.heap.objs.size>>=_) _ _ s'
 refine wpAny_bind (wpAny_load hS' ?_)
 exact wpAny_pure (hQ s' acc' (Moved.drop_new (o:={cls:=.type "list",data:=.seq ([]:List Value).toArray}) (tk:=s.toks) hm (Nat.le_refl _)) hacc)
theorem b89 {prog:Program} {I:Addr} {fp wr:List Addr} {G:Array GenState->Array GenState->Prop} {n:Nat} {P:Nat->Value->Prop} {St:Nat->Shared->Prop} {x:Str} {t:Tok} {Q:Value->Shared->Prop}
  (W:WalksS prog w A.in1.in1 I fp wr G n P St) (hT:∀i s,St i s->s.TypeIs (.ref I) "list_reverseiterator") (hst:St 0 s) (hfp:∀b∈fp,b<s.heap.objs.size) (hI:I∈fp)
  (hstr:∀i v,P i v->∃y u,v=Value.str y u)
  (hq:∀s' (l:List (Str × Tok)),Moved wr G s s'->ItemsOf P (strValues l).toArray n->JoinOk x (l.map (·.1))=true/\∀t' k,Q (.str (Txt.join x (l.map (·.1))) t') {s' with toks:=k})
  (hsz:n<=sizeLine):
  wpAny (model prog w) A (call (.builtin "str.join") [.str x t,.ref I]) Q E s:=by
 refine wpAny_call (codeAny_call_builtin F.slot_str_join.plain F.entry_str_join (F.slot_str_join.check _ _ _ _ _ _ _ _ (typeIs_str _ _ _) (F.args_str_join_2 _ _) ?_))
 rw[join_tree_other]
 refine wpAny_bind (wpAny_typeOf (hT 0 s hst) ?_)
 show wpAny _ A.in1 ((pyIter (.ref I)).tryCatch _>>=λit=>collect it>>=λitems=>joinTail x items) _ _ s
 refine wpAny_bind (wpAny_tryCatch (W.of_in1.self 0 s _ _ hst ?_))
 refine wpAny_bind (aM5 W hT hst hfp hI (λs' acc hm hacc=>?_) hsz)
 obtain⟨l,hl⟩:=exists_strValues acc.toList λv hv=>by
  obtain⟨j,hj,rfl⟩:=Array.mem_iff_getElem.mp (Array.mem_toList_iff.mp hv)
  exact hstr j _ (hacc.2 j _ (Array.getElem?_eq_getElem hj))
 rw[<-hl]
 have hacc':ItemsOf P (strValues l).toArray n:=by rw[hl];simpa using hacc
 obtain⟨hok,hpost⟩:=hq s' l hm hacc'
 unfold JoinOk at hok
 rw[Bool.not_eq_true'] at hok
 have g:Gives (joinTail x (strValues l)) (joinMade x l):=by
  have g0:=gives_joinTail x l hok
  induction l using List.casesOn with
  |nil=>exact g0
  |cons p r=>induction r using List.casesOn with
   |nil=>exact g0
   |cons q r'=>exact g0
 exact g prog w A (wants Q E) s' (post_join l ⟨joinFit_length hok,hpost⟩)
noncomputable def bp1 (l:Addr) (i:Int) (o:Obj):Prop:=o=revObj l i
theorem aS6 {a:Addr} {vs:List Value} {Q:Value->Shared->Prop} (S:St w.params b g L l fp h) (hl:h.IsList a vs.toArray) (k:∀D h',St w.params b g L l ((D,.cell (bp1 a ((vs.length:Int) -1)))::fp) h'->Q (.ref D) (sh z h' t)):
  wpAny (model pw w) A (call (.type "reversed") [.ref a]) Q E (sh z h t):=by
 refine call_reversed_list (s:=sh z h t) hl ?_
 have e:((vs.toArray.size:Nat):Int) -1=(vs.length:Int) -1:=by simp
 rw[e]
 exact k _ _ (S.more a08 ⟨_,Heap.get?_push_size h rfl,rfl⟩ (al1 (Nat.le_refl _)) (nd1 _))
theorem aE6 {l:List (Str × Tok)} {vs:List Value} {ys:List Str} (e:strValues l=vs) (hi:StrsAre vs ys):l.map (·.1)=ys:=by
 obtain⟨l',h1,h2⟩:=strsAre_values hi
 rw[h1] at e
 have inj:∀(l l':List (Str × Tok)),strValues l=strValues l'->l=l':=by
  intro l
  induction l with
  |nil=>intro l' h;induction l' using List.casesOn with |nil=>rfl |cons _ _=>cases h
  |cons p r ih=>
   intro l' h
   induction l' using List.casesOn with
   |nil=>cases h
   |cons p' r'=>
    obtain⟨a,c⟩:=p
    obtain⟨a',c'⟩:=p'
    simp only[strValues,List.map_cons,List.cons.injEq,Value.str.injEq] at h
    obtain⟨⟨rfl,rfl⟩,h2⟩:=h
    rw[ih r' h2]
 rw[inj _ _ e,h2]
theorem aK2 {vs:List Value} {ys:List Str} (x:StrsAre vs ys):StrsAre vs.reverse ys.reverse:=by
 have app:∀{vs us:List Value} {ys zs:List Str},StrsAre vs ys->StrsAre us zs->StrsAre (vs++us) (ys++zs):=by
  intro vs us ys zs x y
  induction x with
  |nil=>exact y
  |cons a t U ih=>exact .cons a t ih
 induction x with
 |nil=>exact .nil
 |cons a t U ih=>
  rw[List.reverse_cons,List.reverse_cons]
  exact app ih (.cons a t .nil)
theorem aK3 {vs:List Value} {ys:List Str} (x:StrsAre vs ys):∀v∈vs,∃y u,v=Value.str y u:=by
 induction x with
 |nil=>intro v hv;cases hv
 |cons a t U ih=>
  intro v hv
  cases hv with
  |head=>exact⟨_,_,rfl⟩
  |tail U hv=>exact ih v hv
theorem aR0 {a D:Addr} {vs:List Value} {ys:List Str} {x:Str} {u:Tok} {Q:Value->Shared->Prop} (i:Nat) (S:St w.params b g L l fp h) (hh:A.handled=none) (e:fp[i]?=some (D,.cell (bp1 a ((vs.length:Int) -1)))) (hl:h.IsList a vs.toArray) (hi:StrsAre vs ys)
  (hz:vs.length<=sizeLine) (hok:(ys.map (·.length)).sum+ys.length*x.length<=16777216) (k:∀h' tk t',St w.params b g L l (fp.eraseIdx i) h'->Q (.str (Txt.join x ys.reverse) tk) (sh z h' t')):
  wpAny (model pw w) A (call (.builtin "str.join") [.str x u,.ref D]) Q E (sh z h t):=by
 obtain⟨o,eo,rfl⟩:=S.own.at_ _ (List.mem_of_getElem? e)
 have hit:h.IsRevIter D a ((vs.length:Int) -1):=⟨_,eo,rfl,rfl⟩
 obtain⟨ol,eol,cl',nl,dl⟩:=id hl
 have hne:a≠D:=λq=>by subst q;rw[eo] at eol;cases eol;exact absurd cl' (by simp [revObj])
 have hh':A.in1.in1.handled=none:=hh
 refine b89 (s:=sh z h t) ((PySem.Walks.listRev hh' D a hne vs.toArray).toS) (λi s st=>st.2.1.typeIs) ⟨Nat.zero_le _,by simpa using hit,hl⟩ (λc hc=>?_) (.head _) (λi v hv=>?_) (λs' l' hm hit'=>?_) (by simpa using hz)
 ·rcases List.mem_cons.mp hc with rfl |hc
  ·exact Heap.lt_size eo
  ·rcases List.mem_cons.mp hc with rfl |hc
   ·exact Heap.lt_size eol
   ·cases hc
 ·exact aK3 hi v (by simpa using Array.mem_of_getElem? hv)
 ·have er:strValues l'=vs.reverse:=by
   obtain⟨h1,h2⟩:=hit'
   have h1:(strValues l').length=vs.length:=by simpa using h1
   refine List.ext_getElem (by rw[List.length_reverse];exact h1) λj hj hj'=>?_
   have:=h2 j (strValues l')[j] (by simp [List.getElem?_eq_getElem hj])
   rw[List.getElem_reverse]
   simp only[List.size_toArray,List.getElem?_toArray] at this
   have hlt:vs.length -1 -j<vs.length:=jrE (by simpa using hj')
   rw[List.getElem?_eq_getElem hlt] at this
   exact (Option.some.inj this).symm
  have em:l'.map (·.1)=ys.reverse:=aE6 er (aK2 hi)
  rw[em]
  refine⟨joinOk_of (by simpa using hok),λt' k'=>?_⟩
  obtain⟨h2,gg,dd,tt,oo⟩:=s'
  have hg:gg=z.gs:=hm.gens
  have hd:dd=z.d:=hm.drawn
  have ho:oo=z.os:=hm.os
  subst hg hd ho
  refine k h2 t' k' (S.gone e rfl λc ob hc ec=>?_)
  exact hm.heap c ob (λq=>hc (List.mem_singleton.mp q)) ec
theorem b77 {a c:Int} {u v:Tok} {Q:Value->Shared->Prop} (S:St w.params b g L l fp h) (hc:c≠0) (hp:Builtin.divisionGoesByPylong a c=false)
  (k:∀D h' tk tk',St w.params b g L l ((D,.tup [.int (a.fdiv c) tk,.int (a.fmod c) tk'])::fp) h'->Q (.ref D) (sh z h' (t+2))):wpAny (model pw w) A (call (.builtin "divmod") [.int a u,.int c v]) Q E (sh z h t):=
 divmod_int (s:=sh z h t) hc (k _ _ _ _ (S.more a08 (ao:=.tup _) ⟨_,Heap.get?_push_size h rfl⟩ (al1 (Nat.le_refl _)) (nd1 _))) (.inl hp)
theorem be6 {prog:Program} {test:Expr} {body orelse:List Stmt} {R:Result->Shared->Prop} (J:Nat->Heap->Nat->Prop)
  (turn:∀n h t,J n h t->wpAny (model prog w) A (PySem.isTrue test env (eval test env)) (λb s₂=>
    if b=true then wpAny (model prog w) A (execs body env) (λf s₃=>match f with
      | .next | .cont=>X3 λm h' t'=>A3 (m<n) (s₃=sh z h' t') (J m h' t')
      | .brk=>R (.ok .next) s₃
      | .ret v=>R (.ok (.ret v)) s₃) (notedBy (model prog w) A env λe s'=>R (.error e) s') s₂
    else wpAny (model prog w) A (execs orelse env) (λf s₃=>R (.ok f) s₃) (notedBy (model prog w) A env λe s'=>R (.error e) s') s₂)
    (notedBy (model prog w) A env λe s'=>R (.error e) s') (sh z h t)):
  ∀(n:Nat) (h:Heap) (t:Nat),J n h t->codeAny (model prog w) A (.whileLoop test body orelse env) R (sh z h t):=by
 intro n
 induction n using Nat.strongRecOn with
 |ind n ih=>
  intro h t j
  refine aE2 (wpAny_mono (turn n h t j) (λb s₂ q=>?_) λU V q=>q)
  induction b using Bool.casesOn with
  |false=>exact q
  |true=>
   refine wpAny_mono q (λf s₃ q=>?_) λU V q=>q
   induction f using Flow.casesOn with
   |next=>obtain⟨m,h',t',hm,rfl,j'⟩:=q;exact ih m hm h' t' j'
   |cont=>obtain⟨m,h',t',hm,rfl,j'⟩:=q;exact ih m hm h' t' j'
   |brk=>exact q
   |ret v=>exact q
theorem b64 {a:Int} {u:Tok} {Q:Value->Shared->Prop} (k:∀tk t',Q (.int (a.natAbs:Int) tk) (sh z h t')):wpAny (model pw w) A (call (.builtin "abs") [.int a u]) Q E (sh z h t):=
 call_abs_int (s:=sh z h t) λv tk=>by
  rw[absE]
  exact k v tk
end
end
section
section
variable {w:World} {K:Frag} {A:Around} {E:Value->Shared->Prop} {z:Z} {b h h':Heap} {g d d' d'' fr:Bas} {t:Nat} {L:Addr} {l:List (Str × Value)} {fp fp':FP} {env:Env} {s:Shared} {M:Model}
theorem bg4 {n m:Nat} (h:n+m<=1000000):Builtin.List.listTooLong (n+m)=false:=by
 unfold Builtin.List.listTooLong
 simp
 have:=sizeLine_eq
 exact leT (by assumption)
theorem b76 {a c:Addr} {vs us:List Value} {Q:Value->Shared->Prop} (i:Nat) (S:St w.params b g L l fp h) (e:fp[i]?=some (a,.list vs)) (hc:∃n,h.get? c=some (listOf us.toArray n)) (hz:vs.length+us.length<=1000000)
  (k:∀h',St w.params b g L l (fp.set i (a,.list (vs++us))) h'->Q .none (sh z h' t)):wpAny (model pw w) A (call (.builtin "list.extend") [.ref a,.ref c]) Q E (sh z h t):=by
 obtain⟨n,ea⟩:=S.own.at_ _ (List.mem_of_getElem? e)
 obtain⟨m,ec⟩:=hc
 have ha:a∈fp.cells:=FP.cells_mem (List.mem_of_getElem? e) (by exact .head _)
 refine call_meets (s:=sh z h t) PySem.F.slot_list_extend ⟨_,ea,rfl⟩ PySem.F.entry_list_extend (PySem.F.args_list_extend_2 _ _) (PySem.AutoSeq1.list_extend_list_list_0 a vs.toArray n c us.toArray m (by rw[show (vs.toArray.size+us.toArray.size)=vs.length+us.length by simp,bg4 hz,Bool.and_false];decide) (by rw[sizeLine_eq];simp;lia) (by rw[sizeLine_eq];simp;exact leT (by assumption))) ⟨ea,ec,?_⟩
 have hs:=Heap.SameBut.update h a (Obj.mapSeq λx=>x++us.toArray)
 have et:(h.update a (Obj.mapSeq λx=>x++us.toArray)).get? a=some (Obj.mapSeq (λx=>x++us.toArray) (listOf vs.toArray n)):=Heap.get?_update_self _ ea rfl
 exact k _ (S.upd e rfl (c:=a) (.head _) (by
  obtain⟨o,es,ep,eL,r⟩:=S.ns
  exact⟨o,es,ep,(hs.2 L (λq=>S.nL (q▸ha))).trans eL,r⟩) (λc ob ec U n2=>(hs.2 c n2).trans ec) ⟨_,by rw[et,<-List.append_toArray];rfl⟩)
theorem aJ6 {n:Int} {u:Tok} {y:Addr} {Q:Value->Shared->Prop} (k:Q (.bool true) s):wpAny M A (compareOp .IsNot (.int n u) (.ref y)) Q E s:=by
 show wpAny M A (do return Value.bool (!(<-isSame (.int n u) (.ref y)))) Q E s
 refine wpAny_bind (wpAny_of_eq (show isSame (.int n u) (.ref y)=pure (Value.int n u==Value.ref y) from rfl) ?_)
 have e:(Value.int n u==Value.ref y)=false:=by
  rw[beq_eq_false_iff_ne];intro q;cases q
 rw[e]
 exact wpAny_pure k
end
end
section
open PySem.Builtin PySem.Builtin.Str
theorem ay7 (xs:List Nat) (s:Nat):∀c:Nat,(List.range c).filterMap (λk=>xs[s+k]?)=(xs.drop s).take c
 |0=>rfl
 |c+1=>by
  rw[List.range_succ,List.filterMap_append,ay7 xs s c,List.take_succ,List.getElem?_drop]
  cases q:xs[s+c]?with
  |none=>simp [List.filterMap,q]
  |some v=>simp [List.filterMap,q]
noncomputable def cod (x:Str):List Nat:=x.cps.toList
theorem a40 (x:Str):(cod x).length=x.length:=by simp [cod,Str.length]
theorem ap9 {x y:Str} (h:cod x=cod y):x=y:=by
 obtain⟨⟨xs⟩⟩:=x
 obtain⟨⟨ys⟩⟩:=y
 have:xs=ys:=h
 rw[this]
theorem al7 (x y:Str):cod (x++y)=cod x++cod y:=by
 show (x.cps++y.cps).toList=_
 simp [cod]
theorem aE7 {x:Str} {lo hi:Option Int} {a c:Nat} (ha:a<=x.length) (hc:c<=x.length) (e:strSliceIndices lo hi 1 x.length=(List.range (c -a)).map λ(k:Nat)=>((a:Int)+1*(k:Int)).toNat):cod (Txt.slice x lo hi)=((cod x).drop a).take (c -a):=by
 have hl:=a40 x
 unfold Txt.slice
 rw[e]
 split
 ·rename_i q
  have q:c -a=x.length:=by simpa using q
  have h0:a=0∨x.length=0:=by lia
  rcases h0 with rfl |h0
  ·rw [List.drop_zero,List.take_of_length_le (by lia)]
  ·have:cod x=[]:=List.eq_nil_of_length_eq_zero (by lia)
   rw[this];simp
 ·show (List.filterMap (λi=>x.cps[i]?) (List.map (λk:Nat=>((a:Int)+1*(k:Int)).toNat) (List.range (c -a))))=_
  rw[List.filterMap_map,<-ay7]
  congr 1
  funext k
  simp only[Function.comp]
  rw[show ((a:Int)+1*(k:Int)).toNat=a+k by lia]
  simp [cod]
theorem aA3 {x:Str} {i j:Nat} (hi:i<=x.length):cod (Txt.slice x (some (i:Int)) (some (j:Int)))=((cod x).drop i).take (j -i):=by
 have hl:=a40 x
 have key:=aE7 (x:=x) (lo:=some (i:Int)) (hi:=some (j:Int)) (a:=i) (c:=min j x.length) hi (Nat.min_le_right _ _) (by
  unfold strSliceIndices sliceRange
  simp only[show (1:Int)>0 by decide,if_true]
  have e1:(max 0 (min (if (i:Int)<0 then (i:Int)+(x.length:Int) else (i:Int)) (x.length:Int)))=(i:Int):=by rw[if_neg (by lia)];lia
  have e2:(max 0 (min (if (j:Int)<0 then (j:Int)+(x.length:Int) else (j:Int)) (x.length:Int)))=((min j x.length:Nat):Int):=by rw[if_neg (by lia)];lia
  rw[e1,e2]
  congr 2
  split<;>lia)
 rw[key]
 rcases Nat.lt_or_ge j x.length with h |h
 ·rw [Nat.min_eq_left (by exact Nat.le_of_lt (by assumption))]
 ·rw [Nat.min_eq_right h,List.take_of_length_le (by rw[List.length_drop];lia),List.take_of_length_le (by rw[List.length_drop];lia)]
theorem aO3 {x:Str} {j:Nat}:cod (Txt.slice x none (some (j:Int)))=(cod x).take j:=by
 have hl:=a40 x
 have key:=aE7 (x:=x) (lo:=none) (hi:=some (j:Int)) (a:=0) (c:=min j x.length) (Nat.zero_le _) (Nat.min_le_right _ _) (by
  unfold strSliceIndices sliceRange
  simp only[show (1:Int)>0 by decide,if_true]
  have e2:(max 0 (min (if (j:Int)<0 then (j:Int)+(x.length:Int) else (j:Int)) (x.length:Int)))=((min j x.length:Nat):Int):=by rw[if_neg (by lia)];lia
  rw[e2]
  congr 2
  split<;>lia)
 rw[key,List.drop_zero]
 rcases Nat.lt_or_ge j x.length with h |h
 ·rw [Nat.min_eq_left (by exact Nat.le_of_lt (by assumption))];rfl
 ·rw [Nat.min_eq_right h,List.take_of_length_le (by lia),List.take_of_length_le (by lia)]
theorem a72 {x:Str} {i c:Nat} (h:(cod x)[i]?=some c):Txt.item x (i:Int)=⟨#[c]⟩:=by
 have hlt:i<x.length:=by
  obtain⟨h1,_⟩:=List.getElem?_eq_some_iff.mp h
  rw[a40] at h1
  exact h1
 have e:seqIndex? (i:Int) x.length=some i:=by
  unfold seqIndex?
  simp
  exact ixE hlt
 unfold Txt.item Txt.charAt
 rw[e]
 have:x.cps[i]?=some c:=by simpa [cod] using h
 simp [this]
theorem a47 {xs:List Nat} {p:Nat} {c:Nat} {r:List Nat} (h:xs.drop p=c::r):xs[p]?=some c/\p<xs.length/\xs.drop (p+1)=r:=by
 have h1:(xs.drop p)[0]?=some c:=by rw[h];rfl
 rw[List.getElem?_drop] at h1
 refine⟨by simpa using h1,?_,?_⟩
 ·rcases Nat.lt_or_ge p xs.length with q |q
  ·exact q
  ·rw [List.drop_eq_nil_of_le q] at h;cases h
 ·rw [<-List.drop_drop,h];rfl
end
section
section
variable {w:World} {K:Frag} {A:Around} {E:Value->Shared->Prop} {z:Z} {b h h':Heap} {g d d' d'' fr:Bas} {t:Nat} {L:Addr} {l:List (Str × Value)} {fp fp':FP} {env:Env} {s:Shared} {M:Model}
noncomputable def b91 (o:Obj):Prop:=∃m,LCg.NsObj o m
theorem St.moreN2 {P:Params} (S:St P b g L l fp h) (k:a15 h h') {C D:Addr} {p:Obj->Prop} {vs:List Value} (hC:(AO.cell p).At P h' C) (hD:(AO.list vs).At P h' D) (nC:h.get? C=none) (nD:h.get? D=none) (hCD:C≠D):St P b g L l ((C,.cell p)::(D,.list vs)::fp) h':=by
 have S1:=S.grow k
 have ec:FP.cells ((C,.cell p)::(D,.list vs)::fp)=C::D::fp.cells:=rfl
 have nof:∀c,h.get? c=none->c∉fp.cells:=λc hc q=>by
  obtain⟨p,hp,hcp⟩:=List.mem_flatMap.mp q
  obtain⟨ob,eo⟩:=(S.own.at_ p hp).cell c hcp
  rw[hc] at eo;cases eo
 have nog:∀c,h.get? c=none->∀o,¬ g c o:=λc hc o e=>by
  rw[S.keep _ _ e] at hc;cases hc
 have noL:∀c,h.get? c=none->L≠c:=λc hc q=>by
  obtain⟨oL,_,_,e,_⟩:=S.ns
  rw[q,hc] at e;cases e
 refine⟨S1.ns,S1.keep,S1.base,S1.above,S1.out,⟨λp hp=>?_,λc hc'=>?_,?_⟩,?_⟩
 ·rcases List.mem_cons.mp hp with rfl |hp
  ·exact hC
  ·rcases List.mem_cons.mp hp with rfl |hp
   ·exact hD
   ·exact S1.own.at_ p hp
 ·rw [ec] at hc'
  rcases List.mem_cons.mp hc' with rfl |hc'
  ·exact nog _ nC
  ·rcases List.mem_cons.mp hc' with rfl |hc'
   ·exact nog _ nD
   ·exact S1.own.off c hc'
 ·rw [ec,List.nodup_cons,List.nodup_cons]
  exact⟨λq=>(List.mem_cons.mp q).elim hCD (nof _ nC),nof _ nD,S.own.nd⟩
 ·rw [ec]
  exact λq=>(List.mem_cons.mp q).elim (noL _ nC) λq=>(List.mem_cons.mp q).elim (noL _ nD) S.nL
theorem aU8 {Q:Value->Shared->Prop} {D C:Addr} {vs:List Value} {y:Str} {py:Pos} (S:St w.params b g L l ((C,.cell b91)::(D,.list vs)::fp) h)
  (hs:∀{Q':Unit->Shared->Prop},(∀h',St w.params b g L ((y,.ref D)::l) ((C,.cell b91)::(D,.list vs)::fp) h'->Q' () (sh z h' (t+1)))->wpAny (model pw w) A (storeName env y (.ref D)) Q' E (sh z h t))
  (k:∀h',St w.params b g L ((y,.ref D)::l) ((D,.list vs)::fp) h'->Q .none (sh z h' (t+1))):compPost (model pw w) A E (some (assign (.Name y py) env)) Q (.ref D) C (.ok .next) (sh z h t):=by
 show wpAny (model pw w) A (assign (.Name y py) env (.ref D)) _ _ _
 refine wpAny_assign_Name (hs λh' S'=>?_)
 obtain⟨o,ho,m,hm⟩:=S'.own.at_ _ (.head _)
 exact⟨m,hm.ns ho,λh'' hs=>k h'' (S'.gone (i:=0) rfl rfl hs.extBut)⟩
theorem ah6 {elt iter c:Expr} {a bn:Str} {pa pb tp:Pos} {kk:Nat} {scope:Scope} {cl:List (Str × Addr)} {pos:Pos} {use:Option (Value->Sem Unit)} {Q:Value->Shared->Prop} {I:Addr} {fpw wr:List Addr} {n:Nat} {Pt:Nat->Array Value->Prop} {Sw:Nat->Heap->Prop} {Mid:Nat->Addr->Heap->Prop} {R:Value->Prop} {h2:Heap} {t2:Nat}
  (W:WalksT pw w A I fpw wr n Pt Sw Mid) (S:St w.params b g L l fp h) (hh:A.handled=none) (hst:Sw 0 h2) (hk2:∀b o,h.get? b=some o->h2.get? b=some o) (hwr:∀b∈wr,h.objs.size<=b) (hfp:∀b∈fpw,b<h2.objs.size)
  (hP:∀i vals,Pt i vals->X2 λv1 v2=>vals=#[v1,v2]/\R v2)
  (hcell:∀y∈scope.names,y.2≠ .cell) (hkind:scope.kind= .function) (hxa:scope.names.lookup a=some .local) (hxb:scope.names.lookup bn=some .local)
  (tests:∀C v2 s₃ m₃ E',R v2->s₃.heap.Ns C m₃->m₃ bn=some v2->a15 h s₃.heap->wpAny (model pw w) A (PySem.isTrue c (compEnvC scope cl C env) (eval c (compEnvC scope cl C env))) (λok s₄=>ok=false/\PySem.Keeps s₃ s₄) E' s₃)
  (k:∀(D C:Addr) (h':Heap) (t':Nat),St w.params b g L l ((C,.cell b91)::(D,.list [])::fp) h'->compPost (model pw w) A E use Q (.ref D) C (.ok .next) (sh z h' t')):
  wpAny (model pw w) A (newList []) (λacc s₃=>wpAny (model pw w) A (newFunctionEnv scope env.globals cl [] env.qual none .none (some env)) (λcenv s₄=>
   codeAny (model pw w) A (.compStart (.ListComp elt [⟨.Tuple [.Name a pa,.Name bn pb] kk tp,iter,[c],0⟩] scope pos) 0 (.ref I) acc {cenv with scope:=relabel scope env}) (compPost (model pw w) A E use Q acc cenv.locals) s₄) E s₃) E (sh z h2 t2):=by
 refine wpAny_newObj_type (wpAny_newFunctionEnv hcell (by intro y hy;simp at hy) (λh₁ hns₁ hsb₁=>?_) hkind)
 dsimp only at hns₁ hsb₁ ⊢
 generalize hH2:h2.push {cls:=.type "list",dict:=none,data:=.seq ([]:List Value).toArray}=H2 at hns₁ hsb₁ ⊢
 have hC:H2.objs.size=h2.objs.size+1:=by rw[<-hH2,Heap.size_push]
 have hDC:h2.objs.size≠H2.objs.size:=by rw[hC];exact Nat.ne_of_lt (Nat.lt_succ_self _)
 have old:∀b o,h2.get? b=some o->h₁.get? b=some o:=λb o e=>hsb₁.extBut b o (by rw[hC];exact Nat.ne_of_lt (Nat.lt_succ_of_lt (Heap.lt_size e))) (Heap.get?_push_of_some _ (hH2▸Heap.get?_push_of_some _ e))
 have hacc:h₁.get? h2.objs.size=some (listOf ([]:List Value).toArray 0):=hsb₁.extBut _ _ hDC (Heap.get?_push_of_some _ (hH2▸Heap.get?_push_size _ rfl))
 have wlt:∀b∈wr,b<h2.objs.size:=λb hb=>hfp b (W.sub b hb)
 have hCw:H2.objs.size∉wr:=λq=>absurd (show h2.objs.size+1<h2.objs.size from hC▸wlt _ q) (by lia)
 have hDw:h2.objs.size∉wr:=λq=>Nat.lt_irrefl _ (wlt _ q)
 have oldw:∀b o,h.get? b=some o->b∉wr:=λb o e q=>absurd (Nat.lt_of_lt_of_le (Heap.lt_size e) (hwr b q)) (Nat.lt_irrefl _)
 have oldC:∀b o,h.get? b=some o->b≠H2.objs.size:=λb o e q=>absurd (show h2.objs.size+1<h2.objs.size from hC▸q▸Heap.lt_size (hk2 b o e)) (by lia)
 have hst₁:Sw 0 h₁:=W.frame _ _ _ hst λb U o e=>old b o e
 have loop:∀s₃:Shared,s₃=sh z h₁ (t2+([]:List (Str × Value)).length)->
   codeAny (model pw w) A (.compLoop (.ListComp elt [⟨.Tuple [.Name a pa,.Name bn pb] kk tp,iter,[c],0⟩] scope pos) 0 (.ref I) (.ref h2.objs.size) (compEnvC scope cl H2.objs.size env))
    (compPost (model pw w) A E use Q (.ref h2.objs.size) H2.objs.size) s₃:=by
  rintro s₃ rfl
  refine kct_loop (λk s'=>X4 λh' tk i m'=>A7 (s'=sh z h' tk) (i<=n) (k=n+1 -i) (Sw i h') (h'.Ns H2.objs.size m') (h'.get? h2.objs.size=some (listOf ([]:List Value).toArray 0)) (∀b o,b∉wr->h2.get? b=some o->h'.get? b=some o)) ?_ (n+1)
   ⟨h₁,_,0,_,rfl,Nat.zero_le _,rfl,hst₁,hns₁,hacc,λb o U e=>old b o e⟩
  rintro k' s' ⟨h',tk,i,m',rfl,hi,rfl,hst',hn',hD',K'⟩
  by_cases hlt:i<n
  ·refine W.item i _ _ _ hlt hst' λT vals h₂ tk₂ hPt U hT hM hk₂=>?_
   have hTw:=W.apart i T h₂ hM
   refine W.go _ _ _ i T _ _ _ hM λh₃ hst₃ hk₃=>?_
   obtain⟨v1,v2,rfl,hR⟩:=hP i vals hPt
   have up₃:∀c o,c∉wr->h'.get? c=some o->h₃.get? c=some o:=λc o hc e=>hk₃ c o hc (hk₂ c o hc e)
   have hT₃:h₃.IsTuple T #[v1,v2]:=by obtain⟨o,e,r⟩:=hT;exact⟨o,hk₃ _ _ hTw e,r⟩
   refine kcp_assign (env:=compEnvC scope cl H2.objs.size env) hh hT₃ (lookup_relabel_local hxa) (lookup_relabel_local hxb) (by simp [compEnvC,relabel,hkind]) (hn'.at' λo e=>up₃ _ o hCw e) λh₄ tk₄ hn₄ hs₄=>?_
   have K₄:∀b o,b∉wr->b≠H2.objs.size->h'.get? b=some o->h₄.get? b=some o:=λb o h1 h2 e=>hs₄ b o h2 (up₃ b o h1 e)
   have kh:a15 h h₄:=λb o e=>K₄ b o (oldw b o e) (oldC b o e) (K' b o (oldw b o e) (hk2 b o e))
   refine wpAny_mono (tests H2.objs.size v2 _ _ _ hR hn₄ (by simp) kh) (λok s₅ h₅=>?_) λU V e=>e
   obtain⟨rfl,h₅,t₅,rfl,kk₅⟩:=h₅
   rw[if_neg (by decide)]
   have hst₅:Sw (i+1) h₅:=W.frame _ _ _ hst₃ λb hb o e=>kk₅ b o (hs₄ b o (λq=>absurd (show h2.objs.size+1<h2.objs.size from hC▸(show b=H2.objs.size from q)▸hfp b hb) (by lia)) e)
   exact⟨n+1 -(i+1),dropE hlt,h₅,t₅,i+1,_,rfl,hlt,rfl,hst₅,hn₄.keeps kk₅,kk₅ _ _ (K₄ _ _ hDw hDC hD'),λb o h1 e=>kk₅ b o (K₄ b o h1 (λq=>absurd (show h2.objs.size+1<h2.objs.size from hC▸q▸Heap.lt_size e) (by lia)) (K' b o h1 e))⟩
  ·obtain rfl:i=n:=Nat.le_antisymm hi (Nat.not_lt.mp hlt)
   refine W.done _ _ _ hst' λh₂ tk₂ hk₂=>?_
   obtain⟨oC,hoC,hnC⟩:=LCg.ns_obj (hn'.at' λo e=>hk₂ _ o hCw e)
   have none_of:∀c,h2.objs.size<=c->h.get? c=none:=λc hc=>by
    cases q:h.get? c with
    |none=>rfl
    |some o=>exact absurd (Heap.lt_size (hk2 _ _ q)) (Nat.not_lt.mpr hc)
   exact k _ _ h₂ tk₂ (S.moreN2 (λb o e=>hk₂ b o (oldw b o e) (K' b o (oldw b o e) (hk2 b o e))) ⟨oC,hoC,_,hnC⟩ ⟨0,hk₂ _ _ hDw hD'⟩ (none_of _ (by rw[hC];exact Nat.le_succ _)) (none_of _ (Nat.le_refl _)) (Ne.symm hDC))
 exact codeAny_compStart_list (loop _ rfl) (W.self 0 _ _ _ hst₁ (loop _ rfl))
theorem ax6 {elt iter c:Expr} {a bn:Str} {pa pb tp:Pos} {kk:Nat} {scope:Scope} {cl:List (Str × Addr)} {pos:Pos} {use:Option (Value->Sem Unit)} {Q:Value->Shared->Prop} {x:Str} {u:Tok} (S:St w.params b g L l fp h) (hh:A.handled=none)
  (hcell:(scope.names.all λy=>y.2 != .cell)=true) (hkind:scope.kind= .function) (hxa:scope.names.lookup a=some .local) (hxb:scope.names.lookup bn=some .local)
  (tests:∀C v2 s₃ m₃ E',(∃i,SignAt x i v2)->s₃.heap.Ns C m₃->m₃ bn=some v2->a15 h s₃.heap->wpAny (model pw w) A (PySem.isTrue c (compEnvC scope cl C env) (eval c (compEnvC scope cl C env))) (λok s₄=>ok=false/\PySem.Keeps s₃ s₄) E' s₃)
  (k:∀(D C:Addr) (h':Heap) (t':Nat),St w.params b g L l ((C,.cell b91)::(D,.list [])::fp) h'->compPost (model pw w) A E use Q (.ref D) C (.ok .next) (sh z h' t')):
  wpAny (model pw w) A (call (.type "enumerate") [.str x u]) (λxv s₁=>wpAny (model pw w) A (pyIter xv) (λit s₂=>wpAny (model pw w) A (newList []) (λacc s₃=>wpAny (model pw w) A (newFunctionEnv scope env.globals cl [] env.qual none .none (some env)) (λcenv s₄=>
   codeAny (model pw w) A (.compStart (.ListComp elt [⟨.Tuple [.Name a pa,.Name bn pb] kk tp,iter,[c],0⟩] scope pos) 0 it acc {cenv with scope:=relabel scope env}) (compPost (model pw w) A E use Q acc cenv.locals) s₄) E s₃) E s₂) E s₁) E (sh z h t):=by
 refine call_enumerate_str (s:=sh z h t) λh2 he hit hsz hk=>wpAny_pyIter_enum he ?_
 have hcell':∀y∈scope.names,y.2≠ .cell:=λy hy q=>by
  have:=List.all_eq_true.mp hcell y hy
  rw[q] at this
  cases this
 have side1:h.objs.size+1∉[h.objs.size]:=λhm=>Nat.succ_ne_self _ (List.mem_singleton.mp hm)
 have wrs:∀b∈[h.objs.size+1,h.objs.size],h.objs.size<=b:=λb hb=>by
  rcases List.mem_cons.mp hb with rfl |hb
  ·exact Nat.le_succ _
  ·rw [List.mem_singleton.mp hb];exact Nat.le_refl _
 have lts:∀b∈[h.objs.size+1,h.objs.size],b<h2.objs.size:=λb hb=>by
  have hsz:h2.objs.size=h.objs.size+2:=hsz
  rw[hsz]
  rcases List.mem_cons.mp hb with rfl |hb
  ·exact Nat.lt_succ_self _
  ·rw [List.mem_singleton.mp hb];exact Nat.le_succ _
 cases ha:x.cps.all (·<128)
 ·have hit':h2.IsStrIter h.objs.size "str_iterator" x u 0:=by simpa [strIterType,ha] using hit
  exact ah6 (R:=λv2=>∃i,SignAt x i v2) (WalksT.enumerateD (Draws.strWide (prog:=pw) (w:=w) (A:=A.in1) hh h.objs.size x u) (h.objs.size+1) (Nat.succ_ne_self _) side1 (.head _)) S hh ⟨⟨_,he⟩,hit'⟩ hk wrs lts (λi vals hv=>by obtain⟨t,v,h1,rfl⟩:=hv;exact⟨_,v,rfl,i,h1⟩) hcell' hkind hxa hxb tests k
 ·have hit':h2.IsStrIter h.objs.size "str_ascii_iterator" x u 0:=by simpa [strIterType,ha] using hit
  exact ah6 (R:=λv2=>∃i,SignAt x i v2) (WalksT.enumerateD (Draws.strAscii (prog:=pw) (w:=w) (A:=A.in1) hh h.objs.size x u) (h.objs.size+1) (Nat.succ_ne_self _) side1 (.head _)) S hh ⟨⟨_,he⟩,hit'⟩ hk wrs lts (λi vals hv=>by obtain⟨t,v,h1,rfl⟩:=hv;exact⟨_,v,rfl,i,h1⟩) hcell' hkind hxa hxb tests k
theorem be5 {elt iter c:Expr} {a bn y:Str} {pa pb tp py:Pos} {kk:Nat} {scope:Scope} {pos spos:Pos} {Q:Flow->Shared->Prop} (cl:List (Str × Addr))
  (k:wpAny (model pw w) A (eval iter env) (λxv s₁=>wpAny (model pw w) A (pyIter xv) (λit s₂=>wpAny (model pw w) A (newList []) (λacc s₃=>wpAny (model pw w) A (newFunctionEnv scope env.globals cl [] env.qual none .none (some env)) (λcenv s₄=>
   codeAny (model pw w) A (.compStart (.ListComp elt [⟨.Tuple [.Name a pa,.Name bn pb] kk tp,iter,[c],0⟩] scope pos) 0 it acc {cenv with scope:=relabel scope env}) (compPost (model pw w) A E (some (assign (.Name y py) env)) (λU s'=>Q .next s') acc cenv.locals) s₄) E s₃) E s₂) E s₁) E s)
  (hsw:swapsWith (.ListComp elt [⟨.Tuple [.Name a pa,.Name bn pb] kk tp,iter,[c],0⟩] scope pos) (some (.Name y py)) spos.line env=pure true:=by kernel_rfl)
  (hclos:closureFor scope env=pure cl:=by kernel_rfl) (hkind:scope.kind= .function:=by kernel_rfl)
  (hnames:(scope.names.all λy=>y.2 != .local||scope.names.lookup y.1==some .local)=true:=by kernel_rfl) (hs:∀x,foldedSetIterable iter env x=pure x:=by intro _;kernel_rfl):
  wpAny (model pw w) A (exec (.Assign [.Name y py] (.ListComp elt [⟨.Tuple [.Name a pa,.Name bn pb] kk tp,iter,[c],0⟩] scope pos) spos) env) Q E s:=by
 rw[exec_Assign_Name_used _ _ _ _ hsw]
 refine wpAny_bind (wpAny_standAt (wpAny_bind ?_))
 show wpAny _ A (do let _<-comprehension (.ListComp elt [⟨.Tuple [.Name a pa,.Name bn pb] kk tp,iter,[c],0⟩] scope pos) scope env _ (newList []) false (eval iter env) (some (assign (.Name y py) env))) _ _ s
 refine wpAny_bind (wpAny_mono (wpAny_comprehension_free (use:=some (assign (.Name y py) env)) (Q:=λU s'=>Q .next s') rfl hs hclos hkind (λy hy q=>?_) k) (λU s' hq=>wpAny_pure (wpAny_pure hq)) λU V e=>e)
 have:=List.all_eq_true.mp hnames y hy
 rw[q] at this
 simpa using this
theorem aR4 {a:Addr} {vs:List Value} {Q:Value->Shared->Prop} (S:St w.params b g L l fp h) (hh:A.handled=none) (ha:h.IsList a vs.toArray) (hv:∀v∈vs,v= .bool true) (k:∀h' t',St w.params b g L l fp h'->Q (.bool true) (sh z h' t')):
  wpAny (model pw w) A (call (.builtin "all") [.ref a]) Q E (sh z h t):=by
 have hlt:a<h.objs.size:=by obtain⟨_,e,_⟩:=ha;exact Heap.lt_size e
 refine call_all_walk (wpAny_pyIter_list (s:=sh z h t) ha ⟨h.objs.size,[h.objs.size,a],[h.objs.size],vs.toArray.size,_,_,λU=>true,rfl,Walks.list (A:=A.in1) hh _ _ (Nat.ne_of_lt hlt) vs.toArray,⟨⟨_,Heap.get?_push_size _ rfl,rfl,rfl⟩,ha.push _⟩,λi v s Q E hP hQ=>?_,λh' tk hk=>?_⟩)
 ·have:v= .bool true:=hv v (by simpa using Array.mem_of_getElem? hP)
  subst this
  exact wpAny_truthy_bool hQ
 ·have e:(List.range vs.toArray.size).all (λU=>true)=true:=List.all_eq_true.mpr λU V=>rfl
  rw[e]
  exact k h' tk (S.grow λb o e=>hk b o (old_not_new e) (Heap.get?_push_of_some _ e))
theorem aT9 {value slice:Expr} {x:Str} {u:Tok} {j:Int} {v:Tok} {Q:Value->Shared->Prop} (hx:x.length<=sizeLine) (k:∀h' tk t',a15 s.heap h'->Q (.str (Txt.slice x none (some j)) tk) {s with heap:=h',toks:=t'})
  (hs:subscripted slice false (.str x u) (.ref s.heap.objs.size)=operate [.ref s.heap.objs.size,.str x u] (getItem (.str x u) (.ref s.heap.objs.size)):=by kernel_rfl) (ht:∀r,letTemporaryGo value (.str x u) r=pure ():=by intro _;kernel_rfl):
  wpAny (model pw w) A (subscriptTail value slice (.str x u) (.ref s.heap.objs.size)) Q E {s with heap:=s.heap.push {cls:=.type "slice",data:=.fields #[.none,.int j v,.none]} }:=
 tail_of_ItemOn (SBH.sliceItem_ns (P:=λh'=>a15 s.heap h') (λU V a=>a.trans a08) (λU V e=>e) (λh' t' k' a=>k h' t' k' a) hx) hs ht
end
end
section
noncomputable def aG6 (v:Option Value) (o:Obj):Prop:=o.data= .cell v
noncomputable abbrev ac9 (q:Str) (sc:Scope) (L f:Addr) (cd:Value):Env:=callEnvC (fnOf q q ⟨[],[],none,[],[],none,[]⟩ [] sc .none .none .none .none none cd .none) L f
theorem ar5 (k:Str->Option NameKind) (x:Str):∀(binds:List (Str × Value)) (m:Str->Option Value),bindL k binds m x=(match ((binds.filter λp=>k p.1==some .local).reverse).lookup x with |some v=>some v |none=>m x)
 |[],m=>rfl
 |(n,v)::r,m=>by
  rw[bindL,ar5 k x r]
  by_cases q:k n=some .local
  ·have e:(((n,v)::r).filter λp=>k p.1==some .local)=(n,v)::r.filter λp=>k p.1==some .local:=by simp [q]
   rw[e,List.reverse_cons,List.lookup_append,if_pos q]
   cases (List.filter (λp=>k p.1==some NameKind.local) r).reverse.lookup x with
   |some v'=>rfl
   |none=>
    by_cases e2:x=n
    ·simp [List.lookup,e2]
    ·have:(x==n)=false:=by simpa using e2
     simp [List.lookup,e2,this]
  ·have e:(((n,v)::r).filter λp=>k p.1==some .local)=r.filter λp=>k p.1==some .local:=by simp [q]
   rw[e,if_neg q]
section
variable {w:World} {K:Frag} {A:Around} {E:Value->Shared->Prop} {z:Z} {b h h':Heap} {g d d' d'' fr:Bas} {t:Nat} {L f:Addr} {l:List (Str × Value)} {fp fp':FP} {env:Env} {s:Shared} {M:Model} {q:Str} {sc:Scope} {cd:Value}
noncomputable def aQ5 (cs:List (Str × Addr)) (cm:Str->Option Value):FP:=cs.map λp=>(p.2,AO.cell (aG6 (cm p.1)))
theorem ah7 (cs:List (Str × Addr)) (cm:Str->Option Value):FP.cells (aQ5 cs cm)=cs.map (·.2):=by
 unfold FP.cells aQ5
 rw[List.flatMap_map]
 induction cs with
 |nil=>rfl
 |cons p r ih=>rw[List.flatMap_cons,ih];rfl
theorem ah5 {α:Type}:∀{l:List (Str × α)} {n:Str} {c:α},(l.map (·.1)).Nodup->(n,c)∈l->l.lookup n=some c
 |(n',c')::r,n,c,nd,hm=>by
  rw[List.map_cons,List.nodup_cons] at nd
  rcases List.mem_cons.mp hm with e |hm2
  ·cases e;simp [List.lookup]
  ·have:(n==n')=false:=by
    simp only[beq_eq_false_iff_ne]
    rintro rfl
    exact nd.1 (List.mem_map.mpr ⟨_,hm2,rfl⟩)
   simp only[List.lookup,this]
   exact ah5 nd.2 hm2
theorem bp9 {i:FI} {vals:List Value} {binds:List (Str × Value)} {Post:Value->Heap->Prop} (F:a31 K f i) (X:a01 w K b) (T:Sit w.params b g fp h) (room:A.depth<recursionLimit)
  (hbind:bindArgs i.fd ⟨vals,[]⟩=pure binds) (hkind:(binds.all λx=>i.scope.names.lookup x.1==some .local||(i.scope.names.lookup x.1==some .cell&&((cellsFrom 0 i.scope.names []).lookup x.1).isSome))=true)
  (k:∀L h₁ tk,St w.params b g L (binds.filter λp=>i.scope.names.lookup p.1==some .local).reverse (aQ5 (cellsFrom (L+1) i.scope.names []) (bindC (λx=>i.scope.names.lookup x) binds λU=>none)++fp) h₁->
   wpAny (model pw w) (A.deeper (ac9 i.qual i.scope L f i.cd)) (execs i.body (ac9 i.qual i.scope L f i.cd)) (bj3 z Post) NoE (sh z h₁ tk))
  (hnd:(((cellsFrom 0 i.scope.names []).map (·.1)).eraseDups.length==((cellsFrom 0 i.scope.names []).map (·.1)).length&&decide ((cellsFrom 0 i.scope.names []).map (·.1)).Nodup)=true:=by kernel_rfl)
  (hco:i.scope.isCoroutine=false:=by kernel_rfl) (hgen:i.scope.isGenerator=false:=by kernel_rfl) (hk:i.scope.kind= .function:=by kernel_rfl):a07 w A z (.ref f) vals h t Post:=by
 have kbh:=T.base.keepsH T.keep
 have KH:=X.kin.keeps kbh
 have nm:∀n,(cellsFrom n i.scope.names []).map (·.1)=(cellsFrom 0 i.scope.names []).map (·.1):=λn=>cellsFrom_names i.scope.names n 0 [] [] rfl
 have hnd':((cellsFrom 0 i.scope.names []).map (·.1)).Nodup:=by
  rw[Bool.and_eq_true] at hnd
  exact of_decide_eq_true hnd.2
 have some_of:∀n m x,((cellsFrom n i.scope.names []).lookup x).isSome=true->((cellsFrom m i.scope.names []).lookup x).isSome=true:=λn m x hx=>by
  obtain⟨c,hc⟩:=Option.isSome_iff_exists.mp hx
  have h1:x∈(cellsFrom m i.scope.names []).map (·.1):=by
   rw[nm m,<-nm n]
   exact List.mem_map.mpr ⟨_,a16 hc,rfl⟩
  obtain⟨⟨x',c'⟩,h2,rfl⟩:=List.mem_map.mp h1
  rw[ah5 (by rw[nm m];exact hnd') h2]
  rfl
 refine codeAny_call_cells (s:=sh z h t) (fd:=i.fd) (body:=i.body) room (KH _ _ F.at_) rfl (X.nolim.keeps kbh) (codeRec_of KH F.code) rfl hbind rfl (λx hx=>?_) (λs₁ Y=>?_) hco hgen hk
 ·have:=List.all_eq_true.mp hkind x hx
  rw[Bool.or_eq_true,Bool.and_eq_true] at this
  rcases this with h1 |⟨h1,h2⟩
  ·exact .inl (by simpa using h1)
  ·exact .inr ⟨by simpa using h1,some_of 0 _ _ h2⟩
 ·obtain ⟨h₁,tk,rfl,_⟩:=Y.done
  have noL:∀c ob,h.get? c=some ob->c≠h.objs.size:=λc ob e q=>absurd (Heap.lt_size e) (q▸Nat.lt_irrefl _)
  have hkp:a15 h h₁:=Y.toInCall.keep
  have hab:∀n c,(n,c)∈cellsFrom (h.objs.size+1) i.scope.names []->h.objs.size<c:=Y.above
  have nd2:((cellsFrom (h.objs.size+1) i.scope.names []).map (·.2)).Nodup:=List.pairwise_map.mpr Y.apart
  have fin:=k h.objs.size h₁ tk ⟨?_,λa o e=>hkp _ _ (T.keep _ _ e),T.base,T.sz,λo q=>absurd rfl (noL _ _ (T.keep _ _ q)),⟨λp hp=>?_,λc hc=>?_,?_⟩,λq=>?_⟩
  ·exact wpAny_mono fin (λfl s' y=>by
    obtain⟨h',t',rfl,p⟩:=y
    exact⟨_,h',t',by induction fl using Flow.casesOn<;>rfl,rfl,p⟩) λU V y=>y.elim
  ·have:=Y.toInCall.ns
   have e:(bindL (callEnvC i.fd h.objs.size f).kindOf binds λU=>none)=λx=>((binds.filter λp=>i.scope.names.lookup p.1==some .local).reverse).lookup x:=by
    funext x
    rw[ar5]
    show (match ((binds.filter λp=>i.scope.names.lookup p.1==some .local).reverse).lookup x with |some v=>some v |none=>none)=_
    cases ((binds.filter λp=>i.scope.names.lookup p.1==some .local).reverse).lookup x<;>rfl
   rw[<-e]
   exact this
  ·rcases List.mem_append.mp hp with hp |hp
   ·obtain ⟨⟨n,c⟩,hm,rfl⟩:=List.mem_map.mp hp
    exact Y.cell n c (ah5 (by rw[show (callEnvC i.fd h.objs.size f).cells=cellsFrom (h.objs.size+1) i.scope.names [] from rfl,nm];exact hnd') hm)
   ·exact (T.own.at_ p hp).keeps λc U o e=>hkp _ _ e
  ·rw [a51,ah7] at hc
   rcases List.mem_append.mp hc with hc |hc
   ·obtain ⟨⟨n,c'⟩,hm,rfl⟩:=List.mem_map.mp hc
    exact aL1 T.keep (Nat.le_of_lt (hab _ _ hm))
   ·exact T.own.off c hc
  ·rw [a51,ah7,List.nodup_append]
   refine⟨nd2,T.own.nd,λc h1 c2 h2 e=>?_⟩
   subst e
   obtain⟨⟨n,c'⟩,hm,rfl⟩:=List.mem_map.mp h1
   exact absurd (at1 T.own h2) (Nat.not_lt.mpr (Nat.le_of_lt (hab _ _ hm)))
  ·rw [a51,ah7] at q
   rcases List.mem_append.mp q with q |q
   ·obtain ⟨⟨n,c'⟩,hm,e⟩:=List.mem_map.mp q
    exact absurd (hab _ _ hm) (by rw[show c'=h.objs.size from e];exact Nat.lt_irrefl _)
   ·exact absurd (at1 T.own q) (Nat.lt_irrefl _)
theorem bb7 {x:Str} {pos:Pos} {v:Value} {Q:Value->Shared->Prop} (S:St w.params b g L l fp h) (_hm:(x,v)∈l) (hv:l.lookup x=some v) (k:Q v (sh z h t))
  (hk:sc.kind= .function:=by kernel_rfl) (hl:(ac9 q sc L f cd).kindOf x=some .local:=by kernel_rfl) (hd:(x==("__debug__":Str))=false:=by kernel_rfl):
  wpAny (model pw w) A (eval (.Name x pos) (ac9 q sc L f cd)) Q E (sh z h t):=wpAny_Name (wpAny_loadName_local (env:=ac9 q sc L f cd) (s:=sh z h t) hk hl S.ns hv k) hd
theorem aL6 {x:Str} {pos:Pos} {v:Value} {c:Addr} {Q:Value->Shared->Prop} (S:St w.params b g L l fp h) (i:Nat) (e:fp[i]?=some (c,.cell (aG6 (some v)))) (hc:(ac9 q sc L f cd).cells.lookup x=some c) (k:Q v (sh z h t))
  (hk:sc.kind= .function:=by kernel_rfl) (hl:(ac9 q sc L f cd).kindOf x=some .cell:=by kernel_rfl) (hd:(x==("__debug__":Str))=false:=by kernel_rfl):
  wpAny (model pw w) A (eval (.Name x pos) (ac9 q sc L f cd)) Q E (sh z h t):=wpAny_Name (wpAny_loadName_cell (env:=ac9 q sc L f cd) (s:=sh z h t) hk hl hc (S.own.at_ _ (List.mem_of_getElem? e)) k) hd
theorem b14 {x:Str} {pos:Pos} {v:Value} {Q:Value->Shared->Prop} (S:St w.params b g L l fp h) (X:a01 w K b) (e:nsIn K mainGlobals x=some (some v)) (k:Q v (sh z h t))
  (hk:sc.kind= .function:=by kernel_rfl) (hx:(ac9 q sc L f cd).kindOf x=some .globalImplicit:=by kernel_rfl) (hd:(x==("__debug__":Str))=false:=by kernel_rfl):
  wpAny (model pw w) A (eval (.Name x pos) (ac9 q sc L f cd)) Q E (sh z h t):=by
 obtain⟨mg,G⟩:=X.glob
 have kk:a15 b h:=S.base.keepsH S.keep
 exact Name_function_global (s:=sh z h t) hk hx (loadGlobal_global (env:=ac9 q sc L f cd) (s:=sh z h t) (G.keeps kk) (mg_of X.kin G e) k) hd
theorem bn9 {x:Str} {pos:Pos} {v:Value} {Q:Value->Shared->Prop} (v':Value) (S:St w.params b g L l fp h) (X:a01 w K b) (e:nsIn K mainGlobals x=some none) (hv:bootBuiltins x=some v) (hv':v=v') (k:Q v' (sh z h t))
  (hn:(x==("__name__":Str))=false:=by kernel_rfl) (hk:sc.kind= .function:=by kernel_rfl) (hx:(ac9 q sc L f cd).kindOf x=some .globalImplicit:=by kernel_rfl) (hd:(x==("__debug__":Str))=false:=by kernel_rfl):
  wpAny (model pw w) A (eval (.Name x pos) (ac9 q sc L f cd)) Q E (sh z h t):=by
 subst hv'
 obtain⟨mg,G⟩:=X.glob
 obtain⟨mb,B,hb⟩:=X.blt
 have kk:a15 b h:=S.base.keepsH S.keep
 exact Name_function_global (s:=sh z h t) hk hx (loadGlobal_builtin (env:=ac9 q sc L f cd) (s:=sh z h t) (G.keeps kk) (mg_none_of X.kin G e) (B.keeps kk) ((hb x (by simpa using hn)).trans hv) k) hd
theorem aB5 {x:Str} {v:Value} {Q:Unit->Shared->Prop} (S:St w.params b g L l fp h) (k:∀h',St w.params b g L ((x,v)::l) fp h'->Q () (sh z h' (t+1)))
  (hk:sc.kind= .function:=by kernel_rfl) (hl:(ac9 q sc L f cd).kindOf x=some .local:=by kernel_rfl):
  wpAny (model pw w) A (storeName (ac9 q sc L f cd) x v) Q E (sh z h t):=
 wpAny_storeName_local (env:=ac9 q sc L f cd) (s:=sh z h t) hl S.ns (λh' hn hs=>k h' (S.loc (by
  have:(λy=>((x,v)::l).lookup y)=λy=>if y=x then some v else l.lookup y:=by
   funext y
   by_cases q:y=x
   ·simp [q]
   ·have:(y==x)=false:=by simpa using q
    simp [List.lookup,this,q]
  rw[this];exact hn) λa o e n=>(hs.2 a n).trans e))
  (by show (sc.kind== .class||(sc.kind== .module&&L !=mainGlobals))=false;rw[hk];rfl)
theorem au9 {x:Str} {v:Value} {v₀:Option Value} {c:Addr} {Q:Unit->Shared->Prop} (S:St w.params b g L l fp h) (i:Nat) (e:fp[i]?=some (c,.cell (aG6 v₀))) (hc:(ac9 q sc L f cd).cells.lookup x=some c)
  (k:∀h',St w.params b g L l (fp.set i (c,.cell (aG6 (some v)))) h'->Q () (sh z h' t))
  (hk:sc.kind= .function:=by kernel_rfl) (hl:(ac9 q sc L f cd).kindOf x=some .cell:=by kernel_rfl):
  wpAny (model pw w) A (storeName (ac9 q sc L f cd) x v) Q E (sh z h t):=by
 have ha:c∈fp.cells:=FP.cells_mem (List.mem_of_getElem? e) (by exact .head _)
 refine wpAny_storeName_cell (env:=ac9 q sc L f cd) (s:=sh z h t) hk hl hc (S.own.at_ _ (List.mem_of_getElem? e)) λh' hc' hs=>k h' ?_
 obtain⟨oL,es,ep,eL,r⟩:=S.ns
 exact S.upd e rfl (.head _) ⟨oL,es,ep,(hs.2 L (λq=>S.nL (q▸ha))).trans eL,r⟩ (λc ob ec U n2=>(hs.2 c n2).trans ec) hc'
end
end
section
noncomputable abbrev bmX:List Value:=[.ref 364,.type "Exception",.type "BaseException",.type "object"]
noncomputable abbrev aR9:Obj:=excClassObj "TooLong" "TooLong" 422 421 [.ref 364] bmX true [] [] false none none (some (.ref 406)) none (some (.str "TooLong" 730)) (some (.str "TooLong" 738)) (some (.bool true)) "Exception.__new__"
structure KX (K:Frag):Prop where
 tl:K.lookup 422=some aR9
 init:findIn K (.ref 422) "__init__"=some (some (.ref 419))
 initF:isFn K (.ref 419)=true
 sa:findIn K (.ref 422) "__setattr__"=some (some (.builtin "object.__setattr__"))
 tk:∀n∈(["word","irritants","limit"]:List Str),findIn K (.ref 422) n=some none/\takerIn K 422 n=some none
 hd:hasDictIn K 422=true
 ga:findIn K (.ref 422) "__getattribute__"=some (some (.builtin "BaseException.__getattribute__"))
 gt:findIn K (.ref 422) "__getattr__"=some none
 mt:specialIn K (.ref 364) "__getattribute__"=some (some (.builtin "type.__getattribute__"))/\readsIn K 364 (.type "type")=true/\findCls K (.ref 364) (.type "type") "__init__"=some (.val (.ref 361))
 keep:keepIn K (.ref 422)=true
section
variable {w:World} {K:Frag} {A:Around} {E:Value->Shared->Prop} {z:Z} {b h h':Heap} {g d d' d'' fr:Bas} {t:Nat} {L f:Addr} {l:List (Str × Value)} {fp fp':FP} {env:Env} {s:Shared} {M:Model} {q:Str} {sc:Scope} {cd:Value}
noncomputable def bo9 (tA:Addr) (o:Obj):Prop:=o={cls:=.ref 422,data:=.fields #[.ref tA,.none,.none,.none,.bool false,.none]}
theorem aJ8 {gs:Array GenState} {dr:Drawn} {os:OsState} {rest:List Value} {Q:Unit->Shared->Prop} (hC:h.get? 422=some aR9) (hq:Q () ⟨h,gs,dr,t,os⟩):wpAny M A (checkBuiltinCall "Exception.__new__" ⟨.ref 422::rest,[]⟩) Q E ⟨h,gs,dr,t,os⟩:=by
 have F:=PySem.F.excBase_Exception
 have hcont:(Value.ref 422::bmX).contains (.type "Exception")=true:=by decide+kernel
 have hstar:=F.noStar
 simp only[checkBuiltinCall,F.newKind,F.newSplit,F.newRow]
 repeat (first |refine wpAny_loadPart_at hC ?_ |(refine wpAny_isSubtype_exc hC ?_;rw[hcont])|refine wpAny_staticBase_exc hC ?_ |refine wpAny_madeBy_exc hC ?_ |simp only[bne_self_eq_false,Bool.false_eq_true,if_false]|wp_step)
 exact hq
theorem x_new {gs:Array GenState} {dr:Drawn} {os:OsState} {rest:List Value} {R:Result->Shared->Prop} (hC:h.get? 422=some aR9)
  (hq:R (.ok (.ret (.ref (h.objs.size+1)))) ⟨(h.push {cls:=.type "tuple",data:=.seq rest.toArray}).push {cls:=.ref 422,data:=.fields #[.ref h.objs.size,.none,.none,.none,.bool false,.none]},gs,dr,t,os⟩) (hrest:rest.length<=sizeLine):
  codeAny (model pw w) A (.builtin "Exception.__new__" ⟨.ref 422::rest,[]⟩) R ⟨h,gs,dr,t,os⟩:=by
 have F:=PySem.F.excBase_Exception
 have hends:=F.ends
 have hcB:(Value.ref 422::bmX).contains (.type "Exception")=true:=by decide+kernel
 have hcA:(Value.ref 422::bmX).contains (.type "AttributeError")=false:=by decide+kernel
 have hcN:(Value.ref 422::bmX).contains (.type "NameError")=false:=by decide+kernel
 refine codeAny_builtinAt F.entry ?_
 unfold Builtin.«BaseException.__new__»
 refine PySem.wpAt_bind ?_
 show PySem.wpAt _ _ _ (stack>>=_) _ _ _
 refine PySem.wpAt_bind (PySem.wpAt_stack λp below=>PySem.wpAt_of_wpAny ?_)
 wp_walk
 refine PySem.wpAt_of_wpAny ?_
 rw[F.owner]
 repeat (first |with_reducible refine wpAny_madeHere_exc F.canon hC ?_ |with_reducible refine wpAny_loadPart_at hC ?_ |(with_reducible refine wpAny_isSubtype_exc hC ?_;first |rw[hcB]|rw[hcA]|rw[hcN])|wp_step)
 show R _ _
 rw[Heap.size_push]
 exact hq
theorem aJ3 {gs:Array GenState} {dr:Drawn} {os:OsState} {v:Value} {Q:PySem.Fin->Shared->Prop} (GX:KX K) (KH:K.In h)
  (hq:∀h' e tA,a15 h h'->h.get? e=none->h.get? tA=none->h'.get? e=some {cls:=.ref 422,data:=.fields #[.ref tA,.none,.none,.none,.bool false,.none]}->
   wpAny (model pw w) A (call (.ref 419) [.ref e,v]) (λr s'=>r= .none/\Q (.done (.ret (.ref e))) s') E ⟨h',gs,dr,t,os⟩):
  wpAny (model pw w) A (Builtin.«type.__call__» ⟨[.ref 422,v],[]⟩) Q E ⟨h,gs,dr,t,os⟩:=by
 have hC:=KH _ _ GX.tl
 repeat (first |with_reducible refine wpAny_loadPart_at hC ?_ |with_reducible refine wpAny_madeBy_exc hC ?_ |wp_step)
 refine codeAny_call_builtin_code (Code.quiet_builtin _ PySem.F.excBase_Exception.quiet) (aJ8 hC ?_)
 refine x_new (rest:=[v]) hC ?_ (by rw[sizeLine_eq];exact Nat.le_of_ble_eq_true rfl)
 show wpAny _ _ _ _ _ _
 have kk:a15 h ((h.push {cls:=.type "tuple",data:=.seq [v].toArray}).push {cls:=.ref 422,data:=.fields #[.ref h.objs.size,.none,.none,.none,.bool false,.none]}):=a08.trans a08
 have hC₁:=kk _ _ hC
 have hget:((h.push {cls:=.type "tuple",data:=.seq [v].toArray}).push {cls:=.ref 422,data:=.fields #[.ref h.objs.size,.none,.none,.none,.bool false,.none]}).get? (h.objs.size+1)=some {cls:=.ref 422,data:=.fields #[.ref h.objs.size,.none,.none,.none,.bool false,.none]}:=by heap_get
 have KH₁:=KH.keeps kk
 have hcC:(Value.ref 422::bmX).contains (.ref 422)=true:=by decide+kernel
 unfold isInstance
 repeat (first |with_reducible refine wpAny_loadPart_at hget ?_ |(with_reducible refine wpAny_isSubtype_exc hC₁ ?_;rw[hcC])|wp_step)
 show wpAny _ _ (typeLookup (.ref 422) _) _ _ _
 refine (looks_findIn KH₁ GX.init).here ?_
 refine wpAny_holding (wpAny_bind ?_)
 refine (bind_fn KH₁ _ (beq_iff_eq.mp GX.initF)).here ?_
 have none_of:∀c,h.objs.size<=c->h.get? c=none:=λc hc=>by
  cases q:h.get? c with
  |none=>rfl
  |some o=>exact absurd (Heap.lt_size q) (Nat.not_lt.mpr hc)
 refine wpAny_bind (wpAny_mono (hq _ _ _ kk (none_of _ (Nat.le_succ _)) (none_of _ (Nat.le_refl _)) hget) (λr s' hr=>?_) λU V x=>x)
 obtain⟨rfl,hQ⟩:=hr
 wp_walk
 exact hQ
theorem bk5 (X:a01 w K b) (GX:KX K) (S:St w.params b g L l fp h) {v:Value} {Q:Value->Shared->Prop}
  (k:∀e tA h',St w.params b g L l ((e,.cell (bo9 tA))::fp) h'->wpAny (model pw w) (A.under (.builtin "type.__call__" ⟨[.ref 422,v],[]⟩)) (call (.ref 419) [.ref e,v]) (λr s'=>r= .none/\Q (.ref e) s') E (sh z h' t)):
  wpAny (model pw w) A (call (.ref 422) [v]) Q E (sh z h t):=by
 have KH:=S.kin X
 have hC:=KH _ _ GX.tl
 have f1:=tc_lookup
 have f2:=tc_bind (.ref 422)
 have hT:(sh z h t).TypeIs (.ref 422) "type":=⟨_,hC,rfl⟩
 refine wpAny_call (codeAny_of_tree ?_)
 show wpAny _ _ (callAny (.ref 422) _) _ _ _
 repeat (any_goals (first |assumption |with_reducible refine wpAny_loadPart_at hC ?_ |wp_step))
 refine⟨rfl,?_⟩
 refine codeAny_call_builtin_at (Code.quiet_builtin _ (by decide+kernel)) entry_typeCall (wpAny_check_type_call_sub hC (aJ3 GX KH λh' e tA kk he ht hx=>?_))
 exact k e tA h' (S.moreN (ao:=.cell (bo9 tA)) kk ⟨_,hx,rfl⟩ (al1 he) (nd1 _))
end
end
section
open PySem.Builtin PySem.Builtin.ObjectAttr
section
variable {w:World} {K:Frag} {A:Around} {E:Value->Shared->Prop} {z:Z} {b h h':Heap} {g d d' d'' fr:Bas} {t:Nat} {L f:Addr} {l:List (Str × Value)} {fp fp':FP} {env:Env} {s:Shared} {M:Model} {q:Str} {sc:Scope} {cd:Value}
noncomputable def isX (tA dx:Addr) (o:Obj):Prop:=o={cls:=.ref 422,dict:=some dx,data:=.fields #[.ref tA,.none,.none,.none,.bool false,.none]}
noncomputable def isN (m:Str->Option Value) (o:Obj):Prop:=X2 λes ep=>A4 (o.data= .dict es ep) (StrKeys es) (UniqKeys es) (∀name,nsFind es name=m name)
theorem bp2 {h:Heap} {a:Addr} {m:Str->Option Value} {o:Obj} (x:isN m o) (e:h.get? a=some o):h.Ns1 a m:=by
 obtain⟨es,ep,r1,r2,r3,r4⟩:=x
 exact⟨o,es,ep,e,r1,r2,r3,r4⟩
theorem bb5 {h:Heap} {a:Addr} {m:Str->Option Value} (x:h.Ns1 a m):∃o,h.get? a=some o/\isN m o:=by
 obtain⟨o,es,ep,e,r1,r2,r3,r4⟩:=x
 exact⟨o,e,es,ep,r1,r2,r3,r4⟩
noncomputable abbrev bn6:List Str:=["word","irritants","limit"]
theorem bk1 {ox:Obj} {od:Option Obj} {e:Addr} {name:Str} {tk:Tok} {v:Value} {R:Result->Shared->Prop} (KH:K.In s.heap) (GX:KX K) (I:W.InstAt s.heap e ox 422 od) (hn:name∈bn6)
  (k:wpAny (model pw w) A.in1 (storeInOwnDict (.ref e) (.ref 422) (.str name tk) name v false) (λfin s'=>match fin with | .done f=>R (.ok f) s' | .again c'=>c'.quiet=true/\codeAny (model pw w) A c' R s') (λe s'=>R (.error e) s') s):
  codeAny (model pw w) A (.call (.builtin "object.__setattr__") ⟨[.ref e,.str name tk,v],[]⟩) R s:=by
 have SF:=PySem.F.store_object
 have hC:=KH _ _ GX.tl
 have sub:Looks (model pw w) s.heap (isInstance (.ref e) (.type "object")) true:=I.type.andThen (looks_mroIn KH (by unfold mroIn clsIn;rw[GX.tl];rfl))
 refine codeAny_call_builtin SF.slot.plain SF.entry (@check_slot (model pw w) _ _ s "object.__setattr__" "object" "__setattr__" (.ref e) [.str name tk,v] [] _ SF.kind SF.split sub (SF.args (.ref e) (.str name tk) v) ?_)
 have hm:Looks (model pw w) s.heap (mroOf (.ref 422)) (.ref 422::bmX):=(looks_clsIn KH (show clsIn K 422=some _ by unfold clsIn;rw[GX.tl])).andThen .now
 rw[osa_eq,refuse_eq]
 refine wpAny_bind (wpAny_bind (I.type.here (wpAny_bind (hm.here ?_))))
 rw[refuseLoop_ref,refuseLoop_ref,PySem.F.store_Exception.passes]
 refine wpAny_pure (wpAny_bind (I.type.here (wpAny_bind ((looks_findIn KH (GX.tk name hn).1).here (wpAny_bind (Looks.now.here ?_))))))
 exact k
theorem bk0 {e tA dx:Addr} {m:Str->Option Value} {ns:List Str} {name:Str} {v:Value} {Q:Unit->Shared->Prop} (i j:Nat) (X:a01 w K b) (GX:KX K) (S:St w.params b g L l fp h) (ei:fp[i]?=some (e,.cell (isX tA dx))) (ej:fp[j]?=some (dx,.cell (isN m))) (hn:name∈bn6) (hw:Within m ns) (hz:ns.length<=100)
  (k:∀h' t',St w.params b g L l (fp.set j (dx,.cell (isN λx=>if x=name then some v else m x))) h'->Q () (sh z h' t')):wpAny (model pw w) A (setAttr (.ref e) name v) Q E (sh z h t):=by
 have KH:=S.kin X
 have hC:=KH _ _ GX.tl
 obtain⟨oe,he,hoe⟩:=S.own.at_ _ (List.mem_of_getElem? ei)
 have hoe:oe=_:=hoe
 subst hoe
 obtain⟨od,hd,hod⟩:=S.own.at_ _ (List.mem_of_getElem? ej)
 have I:W.InstAt h e {cls:=.ref 422,dict:=some dx,data:=.fields #[.ref tA,.none,.none,.none,.bool false,.none]} 422 (some od):=⟨he,rfl,rfl,hd⟩
 have hdc:dx∈fp.cells:=FP.cells_mem (List.mem_of_getElem? ej) (by exact .head _)
 refine set_plain (s:=sh z h t) KH I GX.sa (bk1 (s:=sh z h (t+1)) KH GX I hn ?_)
 refine wpAny_bind (wpAny_pure (wpAny_bind (wpAny_bind (wpAny_loadPart he (wpAny_bind ((looks_clsIn KH (show clsIn K 422=some _ by unfold clsIn;rw[GX.tl])).here ?_))))))
 refine wpAny_pure (a:=some dx) ?_
 show wpAny _ _ (storeInDict dx (.str name t) name v) _ _ _
 unfold storeInDict newKeyGuard
 refine wpAny_bind (wpAny_pure (wpAny_bind (wpAny_nsSet1 (s:=sh z h (t+1)) (bp2 hod hd) λh' hn' hs=>?_)))
 obtain⟨oD,esD,epD,hoD,hdD,hcD⟩:=hn'.count (Within.cons name v hw)
 refine wpAny_bind (wpAny_lookBehind hoD (by rw[hdD];exact pastItsLine_dict (Nat.le_trans hcD (by rw[List.length_cons,sizeLine_eq];exact lel (by assumption)))) ?_)
 refine wpAny_pure (k h' _ ?_)
 obtain⟨oL,es,ep,eL,r⟩:=S.ns
 exact S.upd ej rfl (.head _) ⟨oL,es,ep,(hs.2 L (λq=>S.nL (q▸hdc))).trans eL,r⟩ (λc ob ec U n2=>(hs.2 c n2).trans ec) (bb5 hn')
theorem bj9 {e tA:Addr} {name:Str} {v:Value} {Q:Unit->Shared->Prop} (i:Nat) (X:a01 w K b) (GX:KX K) (S:St w.params b g L l fp h) (ei:fp[i]?=some (e,.cell (bo9 tA))) (hn:name∈bn6)
  (k:∀dx h' t',St w.params b g L l ((dx,.cell (isN λx=>if x=name then some v else none))::fp.set i (e,.cell (isX tA dx))) h'->Q () (sh z h' t')):wpAny (model pw w) A (setAttr (.ref e) name v) Q E (sh z h t):=by
 have KH:=S.kin X
 have hC:=KH _ _ GX.tl
 obtain⟨oe,he,hoe⟩:=S.own.at_ _ (List.mem_of_getElem? ei)
 have hoe:oe=_:=hoe
 subst hoe
 have I:W.InstAt h e {cls:=.ref 422,data:=.fields #[.ref tA,.none,.none,.none,.bool false,.none]} 422 none:=⟨he,rfl,rfl,trivial⟩
 have hec:e∈fp.cells:=FP.cells_mem (List.mem_of_getElem? ei) (by exact .head _)
 refine set_plain (s:=sh z h t) KH I GX.sa (bk1 (s:=sh z h (t+1)) KH GX I hn ?_)
 refine wpAny_bind (wpAny_pure (wpAny_bind (wpAny_bind (wpAny_loadPart he (wpAny_bind ((looks_clsIn KH (show clsIn K 422=some _ by unfold clsIn;rw[GX.tl])).here ?_))))))
 have he1:(h.push {cls:=.type "dict",data:=.dict #[]}).get? e=some {cls:=.ref 422,data:=.fields #[.ref tA,.none,.none,.none,.bool false,.none]}:=Heap.get?_push_of_some _ he
 have hne:e≠h.objs.size:=Nat.ne_of_lt (Heap.lt_size he)
 refine wpAny_bind (wpAny_alloc (s:=sh z h (t+1)) ?_)
 refine wpAny_bind (wpAny_update (s:=sh z (h.push {cls:=.type "dict",data:=.dict #[]}) (t+1)) he1 ?_)
 refine wpAny_pure ?_
 generalize hH:((h.push {cls:=.type "dict",data:=.dict #[]}).update e λo=>{o with dict:=some h.objs.size})=H
 have hD:H.get? h.objs.size=some {cls:=.type "dict",data:=.dict #[]}:=by rw[<-hH];exact (Heap.get?_update_other _ _ hne).trans (Heap.get?_push_size h rfl)
 have hE:H.get? e=some {cls:=.ref 422,dict:=some h.objs.size,data:=.fields #[.ref tA,.none,.none,.none,.bool false,.none]}:=by rw[<-hH];exact Heap.get?_update_self _ he1 rfl
 have hO:∀c ob,c≠e->h.get? c=some ob->H.get? c=some ob:=λc ob hc e1=>by rw[<-hH];exact (Heap.get?_update_other _ _ (Ne.symm hc)).trans (Heap.get?_push_of_some _ e1)
 have hnd:H.Ns h.objs.size (λU=>none):=⟨_,#[],_,hD,rfl,λe he=>absurd he (by simp),λU=>rfl⟩
 show wpAny _ _ (storeInDict h.objs.size (.str name t) name v) _ _ _
 unfold storeInDict newKeyGuard
 refine wpAny_bind (wpAny_pure (wpAny_bind (wpAny_nsSet1 (s:=sh z H (t+1)) (Heap.Ns1.of_empty hnd) λh' hn' hs=>?_)))
 obtain⟨oD,esD,epD,hoD,hdD,hcD⟩:=hn'.count (Within.cons name v Within.nil)
 refine wpAny_bind (wpAny_lookBehind hoD (by rw[hdD];exact pastItsLine_dict (Nat.le_trans hcD (by rw[List.length_cons,List.length_nil,sizeLine_eq];lia))) ?_)
 refine wpAny_pure (k h.objs.size h' _ ?_)
 have hlt:∀c ob,h.get? c=some ob->c≠h.objs.size:=λc ob ec q=>absurd (Heap.lt_size ec) (q▸Nat.lt_irrefl _)
 have st:∀c ob,c≠e->h.get? c=some ob->h'.get? c=some ob:=λc ob hc ec=>(hs.2 c (hlt c ob ec)).trans (hO c ob hc ec)
 have S1:St w.params b g L l (fp.set i (e,.cell (isX tA h.objs.size))) h':=by
  obtain⟨oL,es,ep,eL,r⟩:=S.ns
  exact S.upd ei rfl (.head _) ⟨oL,es,ep,st _ _ (λq=>S.nL (q▸hec)) eL,r⟩ (λc ob ec U n2=>st c ob n2 ec) ⟨_,(hs.2 e hne).trans hE,rfl⟩
 have ec:FP.cells ((h.objs.size,.cell (isN λx=>if x=name then some v else none))::fp.set i (e,.cell (isX tA h.objs.size)))=h.objs.size::fp.cells:=by
  rw[show FP.cells (_::fp.set i (e,.cell (isX tA h.objs.size)))=_::FP.cells (fp.set i (e,.cell (isX tA h.objs.size))) from rfl,FP.cells_set (o':=.cell (isX tA h.objs.size)) ei rfl]
 have n1:h.objs.size∉fp.cells:=λq=>Nat.lt_irrefl _ (at1 S.own q)
 have n2:∀o,¬ g h.objs.size o:=aL1 S.keep (Nat.le_refl _)
 refine⟨S1.ns,S1.keep,S1.base,S1.above,S1.out,⟨λp hp=>?_,λc hc=>?_,?_⟩,?_⟩
 ·rcases List.mem_cons.mp hp with rfl |hp
  ·exact bb5 hn'
  ·exact S1.own.at_ p hp
 ·rw [ec] at hc
  rcases List.mem_cons.mp hc with rfl |hc
  ·exact n2
  ·exact S.own.off c hc
 ·rw [ec,List.nodup_cons]
  exact⟨n1,S.own.nd⟩
 ·rw [ec]
  exact λq=>(List.mem_cons.mp q).elim (λe=>Nat.lt_irrefl _ (e▸S.L_lt)) S.nL
theorem aJ4 {gs:Array GenState} {x:Sem Value} {Q:Flow->Shared->Prop} (GX:KX K) (hh:A.handled=none)
  (k:wpAny M A x (λv s₁=>X3 λe tA dx=>A4 (v= .ref e) (K.In s₁.heap) (s₁.heap.get? e=some {cls:=.ref 422,dict:=some dx,data:=.fields #[.ref tA,.none,.none,.none,.bool false,.none]}) (E (.ref e) s₁)) E s):
  wpAny M A (raiseStmt env (some x) none) Q E s:=by
 have hcB:(Value.ref 422::bmX).contains (.type "BaseException")=true:=by decide+kernel
 unfold raiseStmt
 refine wpAny_bind (wpAny_mono k (λv s₁ h₁=>?_) λU V x=>x)
 obtain⟨e,tA,dx,rfl,KH,he,hE⟩:=h₁
 have hC:=KH _ _ GX.tl
 obtain⟨hp,g,d,tk,os⟩:=s₁
 repeat (first |with_reducible refine wpAny_loadPart_at he ?_ |with_reducible refine wpAny_loadPart_at hC ?_ |(with_reducible refine wpAny_isSubtype_exc hC ?_;rw[hcB])|wp_step)
 exact wpAny_raiseNew_none hh hE
theorem be3 {x:Expr} {pos:Pos} {Q:Flow->Shared->Prop} (GX:KX K) (hh:A.handled=none)
  (k:wpAny M A (eval x env) (λv s₁=>X3 λe tA dx=>A4 (v= .ref e) (K.In s₁.heap) (s₁.heap.get? e=some {cls:=.ref 422,dict:=some dx,data:=.fields #[.ref tA,.none,.none,.none,.bool false,.none]}) (E (.ref e) s₁)) E s):
  wpAny M A (exec (.Raise (some x) none pos) env) Q E s:=by
 show wpAny M A (do standAt pos;raiseStmt env (some (do let v<-eval x env;standAt pos;pure v)) none) Q E s
 exact wpAny_bind (wpAny_standAt (aJ4 (gs:=#[]) GX hh (wpAny_bind (wpAny_mono k (λv s₁ h₁=>wpAny_bind (wpAny_standAt (wpAny_pure h₁))) λU V x=>x))))
end
end
section
noncomputable def ba7 (h:Heap) (e D:Addr) (vs:Array Value):Prop:=∃sl,h.get? e=some ⟨.ref 422,some D,.fields vs,sl⟩
structure Fl (B:Heap) (l:List Env) (e D:Addr) (fl:Value) (h:Heap):Prop where
 stays:B.StaysIn h
 enew:B.get? e=none
 frames:h.FunFrames B l
 obj:X4 λvs T oT ts=>A7 (ba7 h e D vs) (vs[1]?=some (.ref T)) (B.get? T=none) (T≠e) (h.get? T=some oT) (oT.data= .fields ts) (ts[3]?=some fl)
section
variable {M:Model} {A:Around} {E:Value->Shared->Prop} {s:Shared} {B:Heap} {env:Env} {outer l:List Env} {L e D:Addr} {fl:Value} {Q:Unit->Shared->Prop}
theorem Fl.pop {h:Heap} (F:Fl B (env::outer) e D fl h):Fl B outer e D fl h:=⟨F.stays,F.enew,F.frames.2.2,F.obj⟩
theorem aP6 {head:Value} {hadNext:Bool} {vs:Array Value} (hfr:A.frames=some (env::outer)) (hf:env.frame=some L) (hk:B.StaysIn s.heap) (hn:B.get? e=none) (hl:s.heap.FunFrames B (env::outer)) (he:ba7 s.heap e D vs) (hsz:1<vs.size)
  (k:∀h',Fl B (env::outer) e D (rawInt L) h'->s.heap.UpToSlots h'->Q () {s with heap:=h'}):
  wpAny M A (do let a<-frameOf env;let pl<-entryPlaceOf L hadNext;let tb<-EntryCells.newEntry head a .none (rawInt L) .none pl;setField (.ref e) 1 tb) Q E s:=by
 obtain⟨sl,he⟩:=he
 have hef:e∉(env::outer).filterMap (·.frame):=λhm=>by
  obtain⟨_,o,ho,hd⟩:=hl.mem hm
  rw[he] at ho
  cases ho
  exact hd vs rfl
 refine wpAny_bind (wpAny_frameOf_fun hfr hl hf λh₁ hs₁=>?_)
 refine wpAny_bind (wpAny_entryPlaceOf λpl hpl=>?_)
 unfold EntryCells.newEntry newFields
 refine wpAny_bind (wpAny_newObj_type ?_ (hpl.sizeOk5 _ _ _ _ _))
 generalize hts:([head,.ref L,.none,rawInt L,.none]++(if pl.isEmpty then List.replicate 6 Value.none else pl)).toArray=ts
 have ht3:ts[3]?=some (rawInt L):=by rw[<-hts];simp
 have e1:h₁.get? e=some ⟨.ref 422,some D,.fields vs,sl⟩:=(hs₁.2.1 e hef).trans he
 have e2:=Heap.get?_push_of_some (h:=h₁) {cls:=.type "traceback",dict:=none,data:=.fields ts} e1
 refine wpAny_setField e2 rfl hsz ?_
 have hlt:e<h₁.objs.size:=Heap.lt_size e1
 have other:∀c o,c≠e->h₁.get? c=some o->((h₁.push {cls:=.type "traceback",dict:=none,data:=.fields ts}).update e (Obj.mapFields (·.setIfInBounds 1 (Value.ref h₁.objs.size)))).get? c=some o:=λc o hc ho=>by
  rw[Heap.get?_update_other _ _ (Ne.symm hc)]
  exact Heap.get?_push_of_some _ ho
 have notRec:∀c o,s.heap.get? c=some o->(∀ws,o.data≠ .fields ws)->c≠e:=λc o ho hd q=>by
  rw[q,he] at ho
  cases ho
  exact hd vs rfl
 refine k _ ⟨λc o hc=>other c o (λq=>by rw[q,hn] at hc;cases hc) ?_,hn,hl.of_keeps λc o ho hd=>?_,?_⟩ λc o ho hd=>?_
 ·exact (hs₁.2.1 c λhm=>by rw[(hl.mem hm).1] at hc;cases hc).trans (hk c o hc)
 ·obtain ⟨sl',hs⟩:=hs₁.2.2 c o ho
  exact⟨_,other c _ (notRec c o ho hd) hs,rfl⟩
 ·refine ⟨vs.setIfInBounds 1 (.ref h₁.objs.size),h₁.objs.size,{cls:=.type "traceback",dict:=none,data:=.fields ts},ts,⟨sl,Heap.get?_update_self _ e2 rfl⟩,by simp [hsz],?_,Nat.ne_of_gt hlt,?_,rfl,ht3⟩
  ·cases q:B.get? h₁.objs.size with
   |none=>rfl
   |some o=>exact absurd ((hs₁.2.1 _ λhm=>by rw[(hl.mem hm).1] at q;cases q).trans (hk _ o q)) (λz=>Nat.lt_irrefl _ (Heap.lt_size z))
  ·rw [Heap.get?_update_other _ _ (Nat.ne_of_lt hlt)]
   exact Heap.get?_push_size h₁ rfl
 ·obtain ⟨sl',hs⟩:=hs₁.2.2 c o ho
  exact⟨sl',other c _ (notRec c o ho hd) hs⟩
theorem aP5 {vs:Array Value} (hfr:A.frames=some (env::outer)) (hf:env.frame=some L) (hk:B.StaysIn s.heap) (hn:B.get? e=none) (hl:s.heap.FunFrames B (env::outer)) (he:ba7 s.heap e D vs) (h1:vs[1]?=some .none)
  (k:∀h',Fl B (env::outer) e D (rawInt L) h'->s.heap.UpToSlots h'->Q () {s with heap:=h'}):wpAny M A (noteFrame (.ref e) env) Q E s:=by
 obtain⟨sl,he'⟩:=id he
 unfold noteFrame
 simp only[hf]
 refine wpAny_bind (wpAny_field he' rfl h1 ?_)
 rw[if_neg (by decide)]
 exact aP6 hfr hf hk hn hl he (Array.getElem?_eq_some_iff.mp h1).1 k
theorem aM3 (hfr:A.frames=some (env::outer)) (hf:env.frame=some L) (F:Fl B (env::outer) e D .none s.heap)
  (k:∀h',Fl B (env::outer) e D (rawInt L) h'->s.heap.UpToSlots h'->Q () {s with heap:=h'}):wpAny M A (noteFrame (.ref e) env) Q E s:=by
 obtain⟨f1,f2,f3,vs,T,oT,ts,he,h1,hT0,hTe,hT,hdT,h3⟩:=F
 obtain⟨sl,he'⟩:=id he
 unfold noteFrame
 simp only[hf]
 refine wpAny_bind (wpAny_field he' rfl h1 ?_)
 rw[if_pos (show (Value.ref T !=Value.none)=true by simp)]
 refine wpAny_bind (wpAny_field hT hdT h3 ?_)
 rw[if_neg (show ¬ ((Value.none==rawInt L)=true) by simp [rawInt])]
 refine wpAny_bind (wpAny_setField hT hdT (Array.getElem?_eq_some_iff.mp h3).1 ?_)
 have other:∀c,c≠T->(s.heap.update T (Obj.mapFields (·.setIfInBounds 3 Value.none))).get? c=s.heap.get? c:=λc hc=>Heap.get?_update_other _ _ (Ne.symm hc)
 have notRec:∀c o,s.heap.get? c=some o->(∀ws,o.data≠ .fields ws)->c≠T:=λc o ho hd q=>by
  rw[q,hT] at ho
  cases ho
  exact hd ts hdT
 refine aP6 hfr hf (λc o hc=>(other c λq=>by rw[q,hT0] at hc;cases hc).trans (f1 c o hc)) f2 (f3.of_keeps λc o ho hd=>⟨o,(other c (notRec c o ho hd)).trans ho,rfl⟩) ⟨sl,(other e (Ne.symm hTe)).trans he'⟩ (Array.getElem?_eq_some_iff.mp h1).1
  λh' F' sm=>k h' F' λc o ho hd=>sm c o ((other c (notRec c o ho hd)).trans ho) hd
theorem aP7 (hf:env.frame=some L) (F:Fl B l e D (rawInt L) s.heap) (k:Q () s):wpAny M A (noteFrame (.ref e) env) Q E s:=by
 obtain⟨f1,f2,f3,vs,T,oT,ts,⟨sl,he⟩,h1,hT0,hTe,hT,hdT,h3⟩:=F
 unfold noteFrame
 simp only[hf]
 refine wpAny_bind (wpAny_field he rfl h1 ?_)
 rw[if_pos (show (Value.ref T !=Value.none)=true by simp)]
 refine wpAny_bind (wpAny_field hT hdT h3 ?_)
 rw[if_pos (show (rawInt L==rawInt L)=true by simp)]
 exact wpAny_pure k
theorem az2 {x:Option Addr} (F:Fl B l e D fl s.heap) (k:∀h',Fl B l e D (x.elim .none λf=>rawInt f) h'->s.heap.UpToSlots h'->Q () {s with heap:=h'}):wpAny M A (setFlight (.ref e) x) Q E s:=by
 obtain⟨f1,f2,f3,vs,T,oT,ts,⟨sl,he⟩,h1,hT0,hTe,hT,hdT,h3⟩:=F
 have hsz:=(Array.getElem?_eq_some_iff.mp h3).1
 have other:∀c,c≠T->(s.heap.update T (Obj.mapFields (·.setIfInBounds 3 (x.elim Value.none λf=>rawInt f)))).get? c=s.heap.get? c:=λc hc=>Heap.get?_update_other _ _ (Ne.symm hc)
 have notRec:∀c o,s.heap.get? c=some o->(∀ws,o.data≠ .fields ws)->c≠T:=λc o ho hd q=>by
  rw[q,hT] at ho
  cases ho
  exact hd ts hdT
 unfold setFlight
 refine wpAny_bind (wpAny_field he rfl h1 ?_)
 rw[if_pos (show (Value.ref T !=Value.none)=true by simp)]
 refine wpAny_setField hT hdT hsz (k _ ⟨λc o hc=>(other c λq=>by rw[q,hT0] at hc;cases hc).trans (f1 c o hc),f2,f3.of_keeps λc o ho hd=>⟨o,(other c (notRec c o ho hd)).trans ho,rfl⟩,?_⟩ λc o ho hd=>⟨o.slots,(other c (notRec c o ho hd)).trans ho⟩)
 exact⟨vs,T,_,_,⟨sl,(other e (Ne.symm hTe)).trans he⟩,h1,hT0,hTe,Heap.get?_update_self _ hT (Obj.isFreed_of_fields (Obj.data_mapFields hdT _)),Obj.data_mapFields hdT _,by simp [hsz]⟩
end
end
section
noncomputable def ah9 (g:Bas) (h:Heap):Prop:=∀c o,g c o->(∀vs,o.data≠ .fields vs)->∃sl,h.get? c=some {o with slots:=sl}
theorem ah9.trans {g:Bas} {h h':Heap} (x:ah9 g h) (y:h.UpToSlots h'):ah9 g h':=λc o e hd=>by
 obtain⟨sl,e1⟩:=x c o e hd
 obtain⟨sl',e2⟩:=y c _ e1 hd
 exact⟨sl',e2⟩
theorem ah9.sub {g g':Bas} {h:Heap} (x:ah9 g h) (s:Sub g' g):ah9 g' h:=λc o e hd=>x c o (s _ _ e) hd
structure b49 (B0:Heap) (l:List Env) (g:Bas) (lim fl:Value) (e:Addr) (h:Heap):Prop where
 ex:X4 λB D m o=>A5 (B0.StaysIn B) (Fl B l e D fl h) (B.get? D=some o) (isN m o) (m (Str.ofString "limit")=some lim)
 kept:ah9 g h
structure br6 (B0:Heap) (l:List Env) (g:Bas) (lim:Value) (e:Addr) (h:Heap):Prop where
 ex:X5 λB D m o vs=>A9 (B0.StaysIn B) (B.StaysIn h) (B.get? e=none) (h.FunFrames B l) (ba7 h e D vs) (vs[1]?=some .none) (B.get? D=some o) (isN m o) (m (Str.ofString "limit")=some lim)
 kept:ah9 g h
noncomputable def Esc (z:Z) (B0:Heap) (l:List Env) (g:Bas) (lim:Value) (v:Value) (s':Shared):Prop:=X3 λe h' t'=>A3 (v= .ref e) (s'=sh z h' t') (b49 B0 l g lim .none e h')
noncomputable def aQ9 (z:Z) (B0:Heap) (l:List Env) (L:Addr) (g:Bas) (lim:Value) (v:Value) (s':Shared):Prop:=X3 λe h' t'=>A3 (v= .ref e) (s'=sh z h' t') ((b49 B0 l g lim .none e h'∨b49 B0 l g lim (rawInt L) e h'∨br6 B0 l g lim e h'))
noncomputable def Frs (B0:Heap) (g:Bas) (l:List Env):Prop:=∀env∈l,env.scope.kind≠ .module/\X2 λL o=>A4 (env.frame=some L) (g L o) ((∀vs,o.data≠ .fields vs)) (B0.get? L=none)
theorem Frs.sub {B0:Heap} {g g':Bas} {l:List Env} (x:Frs B0 g l) (s:Sub g g'):Frs B0 g' l:=λenv he=>by
 obtain⟨h1,L,o,h2,h3,h4,h5⟩:=x env he
 exact⟨h1,L,o,h2,s _ _ h3,h4,h5⟩
noncomputable def a58 (w:World) (A:Around) (z:Z) (f:Value) (args:List Value) (h:Heap) (t:Nat) (B0:Heap) (outer:List Env) (g:Bas) (lim:Value):Prop:=
 codeAny (model pw w) A (.call f ⟨args,[]⟩) (λr s'=>∃v,r= .error v/\Esc z B0 outer g lim v s') (sh z h t)
section
variable {w:World} {K:Frag} {A:Around} {E:Value->Shared->Prop} {z:Z} {b h h' B0:Heap} {g d d' d'' fr:Bas} {t:Nat} {L f:Addr} {l:List (Str × Value)} {fp fp₁ fp₂:FP} {env:Env} {outer:List Env} {s s':Shared} {M:Model} {lim v:Value} {q:Str} {sc:Scope} {cd:Value}
theorem bo7 (hfr:A.frames=some (env::outer)) (hf:env.frame=some L) (x:aQ9 z B0 (env::outer) L g lim v s'):wpAny M A (leaving env v) (λU s''=>Esc z B0 outer g lim v s'') E s':=by
 obtain⟨e,h',t',rfl,rfl,x⟩:=x
 unfold leaving
 rcases x with x |x |x
 ·obtain ⟨⟨B,D,m,o,e1,F,e2,e3,e4⟩,kp⟩:=x
  refine wpAny_bind (aM3 (s:=sh z h' t') hfr hf F λh1 F1 u1=>az2 (s:=sh z h1 t') F1 λh2 F2 u2=>⟨e,h2,t',rfl,rfl,⟨B,D,m,o,e1,F2.pop,e2,e3,e4⟩,(kp.trans u1).trans u2⟩)
 ·obtain ⟨⟨B,D,m,o,e1,F,e2,e3,e4⟩,kp⟩:=x
  refine wpAny_bind (aP7 (s:=sh z h' t') hf F (az2 (s:=sh z h' t') F λh2 F2 u2=>⟨e,h2,t',rfl,rfl,⟨B,D,m,o,e1,F2.pop,e2,e3,e4⟩,kp.trans u2⟩))
 ·obtain ⟨⟨B,D,m,o,vs,e1,f1,f2,f3,f4,f5,e2,e3,e4⟩,kp⟩:=x
  refine wpAny_bind (aP5 (s:=sh z h' t') hfr hf f1 f2 f3 f4 f5 λh1 F1 u1=>az2 (s:=sh z h1 t') F1 λh2 F2 u2=>⟨e,h2,t',rfl,rfl,⟨B,D,m,o,e1,F2.pop,e2,e3,e4⟩,(kp.trans u1).trans u2⟩)
theorem loopT (hfr:A.frames=some (env::outer)) (hf:env.frame=some L) (x:aQ9 z B0 (env::outer) L g lim v s'):
  notedBy M A env (λe s'=>cameBackBy M A env (aQ9 z B0 (env::outer) L g lim) e s') v s':=by
 obtain⟨e,h',t',rfl,rfl,x⟩:=x
 have fin:∀{h1:Heap} {B D:_} {m:Str->Option Value} {o:Obj},B0.StaysIn B->Fl B (env::outer) e D (rawInt L) h1->B.get? D=some o->isN m o->m (Str.ofString "limit")=some lim->ah9 g h1->
   cameBackBy M A env (aQ9 z B0 (env::outer) L g lim) (.ref e) (sh z h1 t'):=by
  intro h1 B D m o e1 F e2 e3 e4 kp
  obtain⟨vs,T,oT,ts,⟨sl,he⟩,p1,_⟩:=F.obj
  refine wpAny_bind (wpAny_field (s:=sh z h1 t') he rfl p1 ?_)
  rw[if_neg (show ¬ ((Value.ref T==Value.none)=true) by simp)]
  rw[hf]
  exact az2 (s:=sh z h1 t') F λh2 F2 u2=>⟨e,h2,t',rfl,rfl,.inr (.inl ⟨⟨B,D,m,o,e1,F2,e2,e3,e4⟩,kp.trans u2⟩)⟩
 rcases x with x |x |x
 ·obtain ⟨⟨B,D,m,o,e1,F,e2,e3,e4⟩,kp⟩:=x
  exact aM3 (s:=sh z h' t') hfr hf F λh1 F1 u1=>fin e1 F1 e2 e3 e4 (kp.trans u1)
 ·obtain ⟨⟨B,D,m,o,e1,F,e2,e3,e4⟩,kp⟩:=x
  exact aP7 (s:=sh z h' t') hf F (fin e1 F e2 e3 e4 kp)
 ·obtain ⟨⟨B,D,m,o,vs,e1,f1,f2,f3,f4,f5,e2,e3,e4⟩,kp⟩:=x
  exact aP5 (s:=sh z h' t') hfr hf f1 f2 f3 f4 f5 λh1 F1 u1=>fin e1 F1 e2 e3 e4 (kp.trans u1)
theorem bp8 {i:FI} {args:List Value} {binds:List (Str × Value)} (F:a31 K f i) (X:a01 w K b) (T:Sit w.params b g fp h) (room:A.depth<recursionLimit) (hfr:A.frames=some outer)
  (hbind:BindsTo (sh z h t) i.fd ⟨args,[]⟩ binds) (hloc:(binds.all λx=>decide (i.scope.names.lookup x.1=some .local))=true)
  (k:∀L h₁,St w.params b g L binds.reverse fp h₁->(A.deeper (envOf i.qual i.scope L f i.cd)).frames=some (envOf i.qual i.scope L f i.cd::outer)->
   wpAny (model pw w) (A.deeper (envOf i.qual i.scope L f i.cd)) (execs i.body (envOf i.qual i.scope L f i.cd)) (λU V=>False) (aQ9 z B0 (envOf i.qual i.scope L f i.cd::outer) L g lim) (sh z h₁ (t+binds.length)))
  (hcell:(i.scope.names.all λx=>x.2 != .cell)=true:=by kernel_rfl)
  (hco:i.scope.isCoroutine=false:=by kernel_rfl) (hgen:i.scope.isGenerator=false:=by kernel_rfl) (hk:i.scope.kind= .function:=by kernel_rfl):a58 w A z (.ref f) args h t B0 outer g lim:=by
 have fd:=Around.frames_deeper (env:=envOf i.qual i.scope 0 f i.cd) hfr
 refine bq0 F X T room hbind (locs hloc) (λL h₁ S=>wpAny_mono (k L h₁ S (Around.frames_deeper hfr)) (λU V y=>y.elim) λv s' y=>?_) (λx hx=>?_) hco hgen hk
 ·exact wpAny_mono (bo7 (Around.frames_deeper hfr) rfl y) (λU s'' p=>⟨v,rfl,p⟩) λU V p=>p
 ·have:=List.all_eq_true.mp hcell x hx
  simpa using this
theorem be8 {f:Value} {args:List Value} {Q:Value->Shared->Prop} (S:St w.params b (fr.or d) L l (fp₁++fp₂) h) (hB:Sub (Bas.of B0) (fr.or d)) (hF:Frs B0 (fr.or d) outer) (hf:env.frame=some L) (hk:env.scope.kind≠ .module)
  (sp:∀fr',Sub (fr.or d) fr'->Frs B0 fr' (env::outer)->Sit w.params b (fr'.or d) fp₁ h->a58 w A z f args h t B0 (env::outer) fr' lim):
  wpAny (model pw w) A (call f args) Q (aQ9 z B0 (env::outer) L (fr.or d) lim) (sh z h t):=by
 obtain⟨a,c,e⟩:=S.split
 have nL:L∉fp₁.cells:=λq=>S.nL (by rw[a51];exact List.mem_append_left _ q)
 have b0L:B0.get? L=none:=by
  cases q:B0.get? L with
  |none=>rfl
  |some o=>exact absurd (hB _ _ q) (S.out o)
 have T:Sit w.params b ((rest h fp₁.cells).or d) fp₁ h:=c.anti (λa' o e'=>e'.elim id λe'=>a _ _ (.inr e')) λa' o e'=>.inl (c.base _ _ e')
 have hF':Frs B0 (rest h fp₁.cells) (env::outer):=λenv' he'=>by
  rcases List.mem_cons.mp he' with rfl |he'
  ·obtain ⟨oL,es,ep,eL,hd,_⟩:=S.ns
   exact⟨hk,L,oL,hf,⟨eL,nL⟩,(λvs q=>by rw[hd] at q;cases q),b0L⟩
  ·exact hF.sub a env' he'
 refine wpAny_call (codeAny_mono (sp _ a hF' T) ?_)
 rintro r s' ⟨v,rfl,e,h',t',rfl,rfl,ex,kp⟩
 exact⟨e,h',t',rfl,rfl,.inl ⟨ex,kp.sub a⟩⟩
theorem b95 {e tA dx:Addr} {u0 u1:Value} (S:St w.params b g L l ((dx,.cell (isN λx=>if x=Str.ofString "limit" then some lim else if x=Str.ofString "irritants" then some u1 else if x=Str.ofString "word" then some u0 else none))::(e,.cell (isX tA dx))::fp) h)
  (hB:Sub (Bas.of B0) g) (hF:Frs B0 g outer) (hf:env.frame=some L) (hk:env.scope.kind≠ .module):br6 B0 (env::outer) g lim e h:=by
 obtain⟨od,hd,hod⟩:=S.own.at_ _ (.head _)
 obtain⟨oe,he,hoe⟩:=S.own.at_ _ (.tail _ (.head _))
 have hoe:oe=_:=hoe
 subst hoe
 have hdc:dx∈FP.cells ((dx,.cell (isN λx=>if x=Str.ofString "limit" then some lim else if x=Str.ofString "irritants" then some u1 else if x=Str.ofString "word" then some u0 else none))::(e,.cell (isX tA dx))::fp):=.head _
 have hec:e∈FP.cells ((dx,.cell (isN λx=>if x=Str.ofString "limit" then some lim else if x=Str.ofString "irritants" then some u1 else if x=Str.ofString "word" then some u0 else none))::(e,.cell (isX tA dx))::fp):=.tail _ (.head _)
 have hde:dx≠e:=by
  have:=S.own.nd
  rw[show FP.cells _=dx::e::FP.cells fp from rfl,List.nodup_cons] at this
  intro q
  exact this.1 (by rw[q];exact .head _)
 have fin:∀c,c∈(env::outer).filterMap (·.frame)->c=L∨∃o,g c o/\B0.get? c=none:=λc hc=>by
  obtain⟨env',he',hf'⟩:=List.mem_filterMap.mp hc
  rcases List.mem_cons.mp he' with rfl |he'
  ·exact .inl (Option.some.inj (hf'.symm.trans hf))
  ·obtain ⟨_,L',o,h1,h2,_,h3⟩:=hF env' he'
   have:c=L':=Option.some.inj (hf'.symm.trans h1)
   subst this
   exact .inr ⟨o,h2,h3⟩
 have nin:∀c∈FP.cells ((dx,.cell (isN λx=>if x=Str.ofString "limit" then some lim else if x=Str.ofString "irritants" then some u1 else if x=Str.ofString "word" then some u0 else none))::(e,.cell (isX tA dx))::fp),c∉(env::outer).filterMap (·.frame):=λc hc hm=>by
  rcases fin c hm with rfl |⟨o,h1,_⟩
  ·exact S.nL hc
  ·exact S.own.off c hc o h1
 have out:∀env'∈outer,env'.scope.kind≠ .module/\X2 λL' o=>A3 (env'.frame=some L') (h.get? L'=some o) (∀vs,o.data≠ .fields vs):=λenv' he'=>by
  obtain⟨h1,L',o,h2,h3,h4,_⟩:=hF env' he'
  exact⟨h1,L',o,h2,S.keep _ _ h3,h4⟩
 have ff:∀(l':List Env),(∀env'∈l',env'∈env::outer)->h.FunFrames (hideAll h (e::(env::outer).filterMap (·.frame))) l':=by
  intro l'
  induction l' with
  |nil=>intro _;trivial
  |cons a r ih=>
   intro hs
   refine⟨?_,?_,ih λx hx=>hs x (.tail _ hx)⟩
   ·rcases List.mem_cons.mp (hs a (.head _)) with rfl |hm
    ·exact hk
    ·exact (out a hm).1
   ·rcases List.mem_cons.mp (hs a (.head _)) with rfl |hm
    ·obtain ⟨oL,es,ep,eL,hdL,_⟩:=S.ns
     exact⟨L,oL,hf,hideAll_none _ (.tail _ (List.mem_filterMap.mpr ⟨_,.head _,hf⟩)),eL,λvs q=>by rw[hdL] at q;cases q⟩
    ·obtain ⟨_,L',o,h2,h3,h4⟩:=out a hm
     exact⟨L',o,h2,hideAll_none _ (.tail _ (List.mem_filterMap.mpr ⟨_,.tail _ hm,h2⟩)),h3,h4⟩
 refine⟨⟨hideAll h (e::(env::outer).filterMap (·.frame)),dx,_,od,_,λc o hc=>hideAll_get _ (S.keep _ _ (hB _ _ hc)) λhm=>?_,λc o hc=>of_hideAll _ hc,hideAll_none _ (.head _),ff _ (λU h=>h),⟨_,he⟩,rfl,hideAll_get _ hd λhm=>?_,hod,by simp⟩,λc o hg U=>⟨o.slots,S.keep _ _ hg⟩⟩
 ·rcases List.mem_cons.mp hm with rfl |hm
  ·exact S.own.off _ hec o (hB _ _ hc)
  ·rcases fin c hm with rfl |⟨o',_,h2⟩
   ·exact S.out o (hB _ _ hc)
   ·have hc:B0.get? c=some o:=hc
    rw[h2] at hc;cases hc
 ·rcases List.mem_cons.mp hm with q |hm
  ·exact hde q
  ·exact nin dx hdc hm
end
end
section
open PySem.Builtin PySem.Builtin.ObjectAttr
section
variable {w:World} {K:Frag} {A:Around} {E:Value->Shared->Prop} {z:Z} {b h h' B0:Heap} {g d d' d'' fr:Bas} {t:Nat} {L f:Addr} {l:List (Str × Value)} {fp fp':FP} {env:Env} {s:Shared} {M:Model} {q:Str} {sc:Scope} {cd:Value}
theorem aR3 {e:Addr} {ox:Obj} {od:Option Obj} {nameV:Value} {Q:Unit->Shared->Prop} (hC:h.get? 422=some aR9) (I:W.InstAt h e ox 422 od) (hq:Q () (sh z h t)):wpAny M A (checkBuiltinCall "BaseException.__getattribute__" ⟨[.ref e,nameV],[]⟩) Q E (sh z h t):=by
 have hk:builtinKind "BaseException.__getattribute__"=some .slot:=by decide+kernel
 have hsplit:splitId "BaseException.__getattribute__"=some ("BaseException","__getattribute__"):=by decide+kernel
 have hcB:(Value.ref 422::bmX).contains (.type "BaseException")=true:=by decide+kernel
 have ha:=PySem.F.args_bexc_ga (.ref e) nameV
 have hx:=I.at_
 have hc:=I.cls
 simp only[checkBuiltinCall,hk,hsplit]
 refine wpAny_bind ?_
 ·unfold isInstance
  repeat (first |(with_reducible refine wpAny_loadPart_at hx ?_;rw[hc])|(with_reducible refine wpAny_isSubtype_exc hC ?_;rw[hcB])|wp_step)
  exact hq
theorem aJ7 {e:Addr} {ox od:Obj} {name:Str} {tk:Tok} {v:Value} {Q:PySem.Fin->Shared->Prop} (KH:K.In h) (GX:KX K) (I:W.InstAt h e ox 422 (some od)) (hn:name∈bn6) (hl:lookIn name od=some (some v)) (hq:Q (.done (.ret v)) (sh z h t)):
  wpAny M A (Builtin.«object.__getattribute__» ⟨[.ref e,.str name tk],[]⟩) Q E (sh z h t):=by
 have hcl:clsIn K 422=(match aR9.data with | .cls cd=>some cd | _=>none):=by unfold clsIn;rw[GX.tl]
 have hf:findObj K 422 (some od) name=some (.value v):=by
  unfold findObj
  rw[hcl,(GX.tk name hn).1]
  simp only[Option.bind_some,W.ownOf,hl]
  rfl
 have L0:=I.type (M:=M)
 have L1:=looks_find (M:=M) KH I hf
 refine wpAny_bind (wpAny_pure (wpAny_bind (wpAny_pure (wpAny_bind (L0.here (wpAny_bind (L1.here ?_)))))))
 exact wpAny_pure hq
theorem aW5 {e:Addr} {ox od:Obj} {name:Str} {v:Value} {expr:Bool} {Q:Value->Shared->Prop} (KH:K.In h) (GX:KX K) (I:W.InstAt h e ox 422 (some od)) (hn:name∈bn6) (hl:lookIn name od=some (some v)) (hv:handedIn v=true) (hq:Q v (sh z h (t+1))):
  wpAny (model pw w) A (getAttr (.ref e) name expr) Q E (sh z h t):=by
 have FB:=PySem.F.attrBase_Exception
 have f3:=FB.ga.bind (.ref e)
 have hx:=I.at_
 have hc:=I.cls
 have hC:=KH _ _ GX.tl
 have hx0:(expr&&onTheHeap (Value.builtin "BaseException.__getattribute__"))=false:=by induction expr using Bool.casesOn<;>rfl
 have hx2:(Value.builtin "BaseException.__getattribute__"==Value.builtin "object.__getattribute__")=false:=by decide+kernel
 have hx1:(onTheHeap (Value.ref 422)&&Value.builtin "BaseException.__getattribute__"==Value.builtin "object.__getattribute__")=false:=by rw[hx2];rfl
 unfold getAttr getAttrBy
 refine wpAny_bind (wpAny_mkText (wpAny_holding (wpAny_bind (I.type.here (wpAny_bind ((looks_findIn KH GX.ga).here ?_))))))
 dsimp only
 rw[if_neg (by rw[hx1];decide)]
 unfold getAttrByItsOwn hookBefore
 refine wpAny_bind ?_
 rw[if_pos (show onTheHeap (Value.ref 422)=true from rfl)]
 refine (looks_findIn KH GX.gt).here ?_
 unfold callGetattribute
 rw[if_neg (by rw[hx0];decide)]
 unfold boundAndCalled
 refine wpAny_bind (wpAny_attempt ?_)
 refine wpAny_mono (Q:=λr s₁=>r=v/\s₁=sh z h (t+1)) (E:=λU V=>False) (wpAny_holding ?_) (λr s₁ hr=>?_) (λU V x=>x.elim)
 ·rw [f3]
  refine wpAny_bind (wpAny_pure ?_)
  refine wpAny_call (codeAny_call_builtin FB.ga.plain PySem.F.entry_bexc_ga (aR3 hC I (aJ7 KH GX I hn hl ?_)))
  exact⟨rfl,rfl⟩
 ·obtain ⟨rfl,rfl⟩:=hr
  dsimp only
  rw[handedOut_of hv]
  exact wpAny_pure hq
end
end
section
section
variable {w:World} {K:Frag} {A:Around} {E:Value->Shared->Prop} {z:Z} {b h:Heap} {g:Bas} {t:Nat} {L:Addr} {l:List (Str × Value)} {fp:FP}
theorem aZ6 {a:Addr} {vs:List Value} {k:Int} {u:Tok} {v:Value} {Q:Unit->Shared->Prop} (i:Nat) (S:St w.params b g L l fp h) (e:fp[i]?=some (a,.list vs)) (h0:0<=k) (hn:k<vs.length) (hz:k<1000000)
  (hk:∀h',St w.params b g L l (fp.set i (a,.list (vs.set k.toNat v))) h'->Q () (sh z h' t)):wpAny (model pw w) A (setItem (.ref a) (.int k u) v) Q E (sh z h t):=by
 obtain⟨n,ea⟩:=S.own.at_ _ (List.mem_of_getElem? e)
 have ha:a∈fp.cells:=FP.cells_mem (List.mem_of_getElem? e) (by exact .head _)
 refine ki_setAt (s:=sh z h t) ea h0 (by lia) (by simpa using hn) (hk _ (S.upd e rfl (c:=a) (.head _) ?_ (λc ob ec U n2=>(Heap.get?_update_other _ _ (Ne.symm n2)).trans ec) ?_))
 ·obtain ⟨o,es,ep,eL,r⟩:=S.ns
  have n1:a≠L:=λq=>S.nL (q▸ha)
  exact⟨o,es,ep,(Heap.get?_update_other _ _ n1).trans eL,r⟩
 ·refine ⟨n,(Heap.get?_update_self _ ea rfl).trans ?_⟩
  simp [W.listOf,Obj.mapSeq]
end
end
section
section
variable {w:World} {K:Frag} {A:Around} {E:Value->Shared->Prop} {z:Z} {b h:Heap} {g:Bas} {t:Nat} {L:Addr} {l:List (Str × Value)} {fp:FP} {value slice:Expr}
theorem b02 (items:Array Value) (c:Nat):slicePick items none (some (c:Int)) none=(items.toList.take c).toArray:=by
 by_cases hb:c<=items.size
 ·exact slicePick_upto items c hb
 ·have e:sliceBounds none (some (c:Int)) none items.size=sliceBounds none (some (items.size:Int)) none items.size:=by
   simp only[sliceBounds,Option.getD_none]
   have h2:¬ ((c:Int)<0):=by lia
   have h3:¬ ((items.size:Int)<0):=by lia
   simp only[h2,h3,if_false,show (1:Int)>0 by decide,if_true]
   congr 1
   congr 1;lia
  unfold slicePick
  rw[e]
  have:=slicePick_upto items items.size (Nat.le_refl _)
  unfold slicePick at this
  rw[this,List.take_of_length_le (by simp),List.take_of_length_le (by simp;lia)]
theorem at3 {a:Addr} {vs:List Value} {j:Nat} {v:Tok} {Q:Value->Shared->Prop} (S:St w.params b g L l fp h) (ha:h.IsList a vs.toArray) (hz:vs.length<=sizeLine)
  (k:∀D h',St w.params b g L l ((D,.list (vs.take j))::fp) h'->Q (.ref D) (sh z h' t))
  (hs:subscripted slice false (.ref a) (.ref h.objs.size)=operate [.ref h.objs.size,.ref a] (getItem (.ref a) (.ref h.objs.size)):=by kernel_rfl):
  wpAny (model pw w) A (subscriptTail value slice (.ref a) (.ref h.objs.size)) Q E (sh z (h.push {cls:=.type "slice",data:=.fields #[.none,.int (j:Int) v,.none]}) t):=by
 have hl:(h.push {cls:=.type "slice",data:=.fields #[.none,.int (j:Int) v,.none]}).IsList a vs.toArray:=ha.push _
 have hT:(sh z (h.push {cls:=.type "slice",data:=.fields #[.none,.int (j:Int) v,.none]}) t).TypeIs (.ref a) "list":=Heap.IsList.typeIs hl
 unfold subscriptTail
 refine wpAny_bind ?_
 rw[getitemInPython_of_ne hT.not_modules]
 refine wpAny_bind (wpAny_specialOf hT list_getitem_lookup ?_)
 have fin:wpAny (model pw w) A (subscripted slice false (.ref a) (.ref h.objs.size)) (λr s₃=>wpAny (model pw w) A (letTemporaryGo value (.ref a) r>>=λU=>pure r) Q E s₃) E (sh z (h.push {cls:=.type "slice",data:=.fields #[.none,.int (j:Int) v,.none]}) t):=by
  rw[hs]
  refine wpAny_operating (wpAny_mono (wpAny_getItem_list_slice (s:=sh z (h.push {cls:=.type "slice",data:=.fields #[.none,.int (j:Int) v,.none]}) t) hl (Heap.IsSliceOf.new ..) .none (.int _ _) .none (by simp) (Q:=λr s'=>r= .ref (h.objs.size+1)/\∃h',s'=sh z h' t/\h'=(h.push {cls:=.type "slice",data:=.fields #[.none,.int (j:Int) v,.none]}).push {cls:=.type "list",data:=.seq (vs.take j).toArray}) ?_ (by simpa using hz)) (λr s₃ h₃=>?_) λU V x=>x)
  ·refine ⟨?_,_,rfl,?_⟩
   ·show Value.ref (Heap.push _ _).objs.size=_
    rw[Heap.size_push]
   ·rw [b02]
  ·obtain ⟨rfl,h',rfl,rfl⟩:=h₃
   refine wpAny_bind (wpAny_letTemporaryGo (wpAny_pure (k _ _ ?_)))
   refine S.more (a08.trans a08) (ao:=.list _) ⟨0,?_⟩ ?_ (by simp [AO.cells])
   ·have:=Heap.get?_push_size (h.push {cls:=.type "slice",data:=.fields #[.none,.int (j:Int) v,.none]}) (o:={cls:=.type "list",data:=.seq (vs.take j).toArray}) rfl
    rwa [Heap.size_push] at this
   ·intro c hc
    cases hc with
    |head=>exact Nat.le_succ _
    |tail U hc=>cases hc
 first
  |exact wpAny_pure (wpAny_bind fin)
  |exact wpAny_bind (wpAny_pure (wpAny_bind fin))
  |exact wpAny_bind fin
theorem bk3 {a c:Addr} {vs us:List Value} {Q:Value->Shared->Prop} (i j:Nat) (S:St w.params b g L l fp h) (ei:fp[i]?=some (a,.list vs)) (ej:fp[j]?=some (c,.list us)) (hz:vs.length+us.length<=sizeLine)
  (k:∀D h',St w.params b g L l ((D,.list (vs++us))::fp) h'->Q (.ref D) (sh z h' t)):wpAny (model pw w) A (binaryOp .Add (.ref a) (.ref c)) Q E (sh z h t):=by
 obtain⟨n,ea⟩:=S.own.at_ _ (List.mem_of_getElem? ei)
 obtain⟨m,ec⟩:=S.own.at_ _ (List.mem_of_getElem? ej)
 refine P.add_list (s:=sh z h t) ea ec (k _ _ ?_) (by simpa using hz)
 refine S.more a08 (ao:=.list _) ⟨0,?_⟩ (al1 (Nat.le_refl _)) (nd1 _)
 have:=Heap.get?_push_size h (o:={cls:=.type "list",data:=.seq (vs.toArray++us.toArray)}) rfl
 simpa [W.listOf] using this
theorem aD8 {n:Int} {u:Tok} {Q:Value->Shared->Prop} (hn:n.natAbs<1000) (k:∀tk,Q (.str (toString n) tk) (sh z h (t+1))):wpAny (model pw w) A (call (.type "str") [.int n u]) Q E (sh z h t):=
 PySem.P.str_of_int (s:=sh z h t) (Nat.lt_of_le_of_lt (Nat.log2_le_self _) (by exact ltT (by assumption))) (k t)
end
end
section
section
variable {w:World} {K:Frag} {A:Around} {E:Value->Shared->Prop} {z:Z} {b h h':Heap} {g:Bas} {t:Nat} {L:Addr} {l l':List (Str × Value)} {fp:FP} {env:Env} {s:Shared}
theorem St.moreL {P:Params} (S:St P b g L l fp h) (hn:h'.Ns L (λx=>l'.lookup x)) (k:∀c o,c≠L->h.get? c=some o->h'.get? c=some o) {a:Addr} {ao:AO} (hat:ao.At P h' a) (hc:∀c∈ao.cells a,h.get? c=none) (nd:(ao.cells a).Nodup):St P b g L l' ((a,ao)::fp) h':=by
 have S':St P b g L l' fp h':=S.loc hn λc o e n=>k c o n e
 have ec:FP.cells ((a,ao)::fp)=ao.cells a++fp.cells:=by unfold FP.cells;rw[List.flatMap_cons]
 refine⟨S'.ns,S'.keep,S'.base,S'.above,S'.out,⟨λp hp=>?_,λc hc'=>?_,?_⟩,?_⟩
 ·cases hp with
  |head=>exact hat
  |tail U hp=>exact S'.own.at_ p hp
 ·rw [ec] at hc'
  rcases List.mem_append.mp hc' with hc' |hc'
  ·intro o e
   have:=hc c hc'
   rw[S.keep _ _ e] at this
   cases this
  ·exact S'.own.off c hc'
 ·rw [ec,List.nodup_append]
  refine⟨nd,S.own.nd,λc h1 d h2 e=>?_⟩
  subst e
  obtain⟨p,hp,hcp⟩:=List.mem_flatMap.mp h2
  obtain⟨ob,eo⟩:=(S.own.at_ p hp).cell c hcp
  rw[hc c h1] at eo
  cases eo
 ·rw [ec,List.mem_append,not_or]
  refine⟨λq=>?_,S.nL⟩
  obtain⟨oL,_,_,e,_⟩:=S.ns
  rw[hc L q] at e
  cases e
noncomputable def bd4 (w:World) (A:Around) (env:Env) (scope:Scope) (cl:List (Str × Addr)) (x y:Str) (elt:Expr) (F:Value->Value->Prop) (Q:Flow->Shared->Prop):Value->Shared->Prop:=λit s₂=>
 ∃I fp wr n P St m,it= .ref I/\Walks pw w A I fp wr n P St/\n<=sizeLine/\St 0 s₂.heap/\(∀b∈fp,b<s₂.heap.objs.size)/\
   env.locals∉wr/\s₂.heap.Ns env.locals m/\QuietOnC pw w A env scope cl x [] elt wr P (λU=>true) F s₂/\
   (∀D h' tk ys (vs:List Value),s₂.heap.get? D=none->h'.IsList D ys->h'.PlainList D ys->vs.length=n->(∀j v,vs[j]?=some v->P j v)->Paired F (vs.filter λU=>true) ys.toList->
    h'.Ns env.locals (λz=>if z=y then some (.ref D) else m z)->(∀b o,b≠env.locals->b∉wr->s₂.heap.get? b=some o->h'.get? b=some o)->Q .next {s₂ with heap:=h',toks:=tk})
theorem be4 {elt iter:Expr} {x y:Str} {px py:Pos} {scope:Scope} {pos spos:Pos} {Q:Flow->Shared->Prop} (cl:List (Str × Addr)) (F:Value->Value->Prop)
  (k:wpAny (model pw w) A (eval iter env) (λxv s₁=>wpAny (model pw w) A (pyIter xv) (bd4 w A env scope cl x y elt F Q) E s₁) E s)
  (hsw:swapsWith (.ListComp elt [⟨.Name x px,iter,[],0⟩] scope pos) (some (.Name y py)) spos.line env=pure true:=by kernel_rfl)
  (hclos:closureFor scope env=pure cl:=by kernel_rfl) (hcell:(scope.names.all λy=>y.2 != .cell)=true:=by kernel_rfl) (hkind:scope.kind= .function:=by kernel_rfl)
  (hnames:(scope.names.all λy=>y.2 != .local||scope.names.lookup y.1==some .local)=true:=by kernel_rfl) (hx:scope.names.lookup x=some .local:=by kernel_rfl)
  (hy:env.kindOf y=some .local:=by kernel_rfl) (hp:(env.scope.kind== .class||(env.scope.kind== .module&&env.locals !=env.globals))=false:=by kernel_rfl)
  (hs:∀x,foldedSetIterable iter env x=pure x:=by intro _;kernel_rfl):
  wpAny (model pw w) A (exec (.Assign [.Name y py] (.ListComp elt [⟨.Name x px,iter,[],0⟩] scope pos) spos) env) Q E s:=by
 refine wpAny_Assign_ListComp_free (λU=>true) F hsw hclos (λy hy q=>?_) hkind (λy hy q=>?_) hx hy hp k hs
 ·have:=List.all_eq_true.mp hcell y hy
  rw[q] at this
  cases this
 ·have:=List.all_eq_true.mp hnames y hy
  rw[q] at this
  simpa using this
theorem b39 {elt:Expr} {x y:Str} {scope:Scope} {cl:List (Str × Addr)} {F:Value->Value->Prop} {Q:Flow->Shared->Prop} {a:Addr} {vs:List Value} (S:St w.params b g L l fp h) (hh:A.handled=none) (hL:env.locals=L)
  (ha:h.IsTuple a vs.toArray) (hz:vs.length<=sizeLine)
  (elts:∀C v s₃ m₃ E',v∈vs->s₃.heap.Ns C m₃->m₃ x=some v->a15 h s₃.heap->wpAny (model pw w) A (eval elt (compEnvC scope cl C env)) (λy s₄=>F v y/\PySem.Keeps s₃ s₄) E' s₃)
  (k:∀(D:Addr) (ys:List Value) (h':Heap) (t':Nat),Paired F vs ys->St w.params b g L ((y,.ref D)::l) ((D,.list ys)::fp) h'->Q .next (sh z h' t')):
  wpAny (model pw w) A (pyIter (.ref a)) (bd4 w A env scope cl x y elt F Q) E (sh z h t):=by
 subst hL
 have hlt:a<h.objs.size:=by obtain⟨_,e,_⟩:=ha;exact Heap.lt_size e
 have hLlt:env.locals<h.objs.size:=S.L_lt
 have up:∀h':Heap,(∀b o,b∉[h.objs.size]->(h.push {cls:=.type "tuple_iterator",data:=.fields #[.ref a,.int 0 0]}).get? b=some o->h'.get? b=some o)->a15 h h':=
  λh' hk b o e=>hk b o (old_not_new e) (Heap.get?_push_of_some _ e)
 refine wpAny_pyIter_tuple (s:=sh z h t) ha ⟨h.objs.size,[h.objs.size,a],[h.objs.size],vs.toArray.size,_,_,_,rfl,Walks.tuple hh _ _ (Nat.ne_of_lt hlt) vs.toArray,by simpa using hz,⟨⟨_,Heap.get?_push_size _ rfl,rfl,rfl⟩,ha.push _⟩,?_,?_,S.ns.push _,⟨?_,?_⟩,?_⟩
 ·intro b hb
  show b<(h.push _).objs.size
  rw[Heap.size_push]
  rcases List.mem_cons.mp hb with rfl |hb
  ·exact Nat.lt_succ_self _
  ·rcases List.mem_cons.mp hb with rfl |hb
   ·exact Nat.lt_succ_of_lt hlt
   ·cases hb
 ·intro q
  rw[List.mem_singleton] at q
  rw[q] at hLlt
  exact Nat.lt_irrefl _ hLlt
 ·intro C i v s₃ m₃ E' _ hP hn hm hk _
  exact a93 (v:=v)
 ·intro C i v s₃ m₃ E' _ hP hp hn hm hk _
  exact elts C v s₃ m₃ E' (by simpa using Array.mem_of_getElem? hP) hn hm (up _ hk)
 ·intro D h' tk ys vs' hnew hlD hpl hlen hP hF hns hk
  have e:vs'=vs:=by simpa using list_of_places hlen hP
  subst e
  obtain⟨n,eD⟩:=hpl
  rw[List.filter_eq_self.mpr (λU V=>rfl)] at hF
  refine k D ys.toList h' tk hF (S.moreL (l':=(y,.ref D)::l) ?_ (λc o hc e=>hk c o hc (old_not_new e) (Heap.get?_push_of_some _ e)) (ao:=.list ys.toList) ⟨n,by simpa using eD⟩ (λc hc=>?_) (by simp [AO.cells]))
  ·have:(λx=>((y,Value.ref D)::l).lookup x)=λx=>if x=y then some (.ref D) else l.lookup x:=by
    funext x
    by_cases q:x=y
    ·simp [q]
    ·have:(x==y)=false:=by simpa using q
     simp [List.lookup,this,q]
   rw[this];exact hns
  ·cases hc with
   |head=>
    cases q:h.get? D with
    |none=>rfl
    |some o=>rw[show (h.push _).get? D=some o from Heap.get?_push_of_some _ q] at hnew;cases hnew
   |tail U hc=>cases hc
end
end
section
section
variable {w:World} {K:Frag} {A:Around} {E:Value->Shared->Prop} {z:Z} {b h:Heap} {g d fr:Bas} {t:Nat} {L:Addr} {l:List (Str × Value)} {fp:FP}
theorem x_max {a c:Int} {u v:Tok} {Q:Value->Shared->Prop} (S:St w.params b g L l fp h) (hh:A.handled=none) (k:∀h' t' tk,St w.params b g L l fp h'->Q (.int (if c>a then c else a) tk) (sh z h' t')):wpAny (model pw w) A (call (.builtin "max") [.int a u,.int c v]) Q E (sh z h t):=by
 refine max_two_ints (s:=sh z h t) hh λh' tk hk=>?_
 have:=k h' tk (if c>a then v else u) (S.grow hk)
 by_cases hc:c>a
 ·rw [if_pos hc,if_pos hc] at this;rw[if_pos hc];exact this
 ·rw [if_neg hc,if_neg hc] at this;rw[if_neg hc];exact this
theorem at2 {a c:Bool} {Q:Value->Shared->Prop} (k:Q (.bool (a !=c)) (sh z h t)):wpAny (model pw w) A (compareOp .NotEq (.bool a) (.bool c)) Q E (sh z h t):=SeqAt.RcNeAt.bool_bool a c pw w E Q (by induction a using Bool.casesOn<;>induction c using Bool.casesOn<;>exact k)
end
end
section
set_option genCtorIdx false
noncomputable abbrev Loc:=List (Str × Value)
structure Cx where
 A:Around
 L:Addr
 f:Addr
 E:Value->Shared->Prop
 R:Flow->Shared->Prop
inductive Ans
 |v (x:Value)|vs (xs:List Value)|m (f:Value) (first:List Value)|b (x:Bool)|fl (f:Flow)
inductive Fr
 |attr (n:Str)|gm (o:Expr) (n:Str)|ca (pos:Pos) (args:List Expr)|cf (pos:Pos) (args:List Expr)
 |cl (f:Value) (first:List Value)|cr (f:Value) (first:List Value)|sp1 (pos:Pos) (es:List Expr)|cons (x:Value)|mkt |mkl
 |cm1 (op:CmpOp) (e:Expr)|cm2 (op:CmpOp) (a:Value)|bi1 (op:Operator) (e:Expr)|bi2 (op:Operator) (a:Value)
 |ifx (b o:Expr)|ifs (b o:List Stmt)|tand (es:List Expr) (pos:Pos)|tor (es:List Expr) (pos:Pos)|tnot |tr
 |sb1 (v s:Expr)|sb2 (v s:Expr) (o:Value)|sl1 (v s:Expr) (o:Value) (hi:Option Expr)|sl2 (v s:Expr) (o lo:Value)
 |bo (op:BoolOp) (es:List Expr) (pos:Pos)|bo2 (op:BoolOp) (x:Value) (es:List Expr) (pos:Pos)|un (op:UnaryOp)
 |jp (out:Str) (es:List Expr)|fm |sto (x:Str)|sa1 (o:Expr) (n:Str)|sa2 (n:Str) (x:Value)
 |ss1 (o i:Expr)|ss2 (i:Expr) (x:Value)|ss3 (o x:Value)|drop |retv |ta (elts:List Expr) (n:Nat) (pos:Pos)|sw (x y:Str)
 |fr (t:Expr) (b:List Stmt)|wh (b:List Stmt)|sq (rest:List Stmt)|lp (J:Heap->Nat->Prop)|lw (t:Expr) (b:List Stmt)|sv (y:Str) (x:Value)|raw (P:Value->Shared->Prop) (E:Value->Shared->Prop)|rawF (P:Flow->Shared->Prop) (E:Value->Shared->Prop)
inductive Ct
 |an (a:Ans)|ev (e:Expr)|ts (e:Expr)|xs (ss:List Stmt)|x (st:Stmt)|sp (pos:Pos) (es:List Expr)|jn (out:Str) (es:List Expr)|cl (f:Value) (xs:List Value)|bl (x:Bool)
noncomputable def nonC (x:Value) (P Q:Prop):Prop:=match x with
 | .none=>P
 | _=>Q
noncomputable def bh0 (x a:Value) (P:Int->Int->Prop) (Q:Prop):Prop:=match x with
 | .int y U=>(match a with
  | .int n U=>P y n
  | _=>Q)
 | _=>Q
noncomputable def bl9 (x a:Value) (P:Str->Str->Prop) (Q:Prop):Prop:=match x with
 | .str y U=>(match a with
  | .str n U=>P y n
  | _=>Q)
 | _=>Q
noncomputable def bj6:List Value->List Value->List Value
 |[],xs=>xs
 |x::r,xs=>x::bj6 r xs
theorem b31:∀a c:List Value,bj6 a c=a++c
 |[],U=>rfl
 |x::r,c=>by rw[bj6,b31 r c];rfl
section
variable (w:World) (z:Z) (K:Frag) (i:FI) (c:Cx)
noncomputable abbrev Cx.env:Env:=ac9 i.qual i.scope c.L c.f i.cd
noncomputable def eO:List Fr->Value->Shared->Prop
 |[]=>c.E
 | .lp U::k=>notedBy (model pw w) c.A (c.env i) λe s'=>cameBackBy (model pw w) c.A (c.env i) (eO k) e s'
 | .lw U V::k=>notedBy (model pw w) c.A (c.env i) λe s'=>cameBackBy (model pw w) c.A (c.env i) (eO k) e s'
 | .raw U E::V=>E
 | .rawF U E::V=>E
 |U::k=>eO k
noncomputable abbrev wp1 {α:Type} (E:Value->Shared->Prop) (t:Sem α) (Q:α->Shared->Prop) (s:Shared):Prop:=wpAny (model pw w) c.A t Q E s
noncomputable def slcQ (E:Value->Shared->Prop) (Q:Ans->Shared->Prop) (v sl:Expr) (o lo hi:Value) (s:Shared):Prop:=
 wp1 w c E (subscriptTail v sl o (.ref s.heap.objs.size)) (λx=>Q (.v x)) {s with heap:=s.heap.push {cls:=.type "slice",data:=.fields #[lo,hi,.none]} }
noncomputable def denF (E:Value->Shared->Prop) (Q:Ans->Shared->Prop):Fr->Ans->Shared->Prop
 | .attr n,.v o=>wp1 w c E (getAttr o n true) λx=>Q (.v x)
 | .gm o n,.v ov=>wp1 w c E (getMethod ov n (bb4 o (c.env i))) λx=>Q (.m x.1 x.2)
 | .ca pos args,.m f first=>wp1 w c E (callWith pos f first (backTo pos (starEach args (c.env i))) []) λx=>Q (.v x)
 | .cf pos args,.v f=>wp1 w c E (callWith pos f [] (backTo pos (starEach args (c.env i))) []) λx=>Q (.v x)
 | .cl f first,.vs xs=>wp1 w c E (call f (bj6 first xs)) λx=>Q (.v x)
 | .cr f first,.vs xs=>λs=>K.In s.heap/\wp1 w c E (call f (bj6 first xs)) (λx=>Q (.v x)) s
 | .sp1 pos es,.v x=>wp1 w c E (spliced (backTo pos (starEach es (c.env i)))) λxs=>Q (.vs (x::xs))
 | .cons x,.vs xs=>Q (.vs (x::xs))
 | .mkt,.vs xs=>wp1 w c E (newTuple xs) λx=>Q (.v x)
 | .mkl,.vs xs=>wp1 w c E (newList xs) λx=>Q (.v x)
 | .cm1 op e,.v a=>wp1 w c E (eval e (c.env i)) λb=>wp1 w c E (compareOp op a b) λx=>Q (.v x)
 | .cm2 op a,.v b=>wp1 w c E (compareOp op a b) λx=>Q (.v x)
 | .bi1 op e,.v a=>wp1 w c E (eval e (c.env i)) λb=>wp1 w c E (binaryOp op a b) λx=>Q (.v x)
 | .bi2 op a,.v b=>wp1 w c E (binaryOp op a b) λx=>Q (.v x)
 | .ifx b o,.b x=>λs=>if x=true then wp1 w c E (eval b (c.env i)) (λx=>Q (.v x)) s else wp1 w c E (eval o (c.env i)) (λx=>Q (.v x)) s
 | .ifs b o,.b x=>λs=>if x=true then wp1 w c E (execs b (c.env i)) (λx=>Q (.fl x)) s else wp1 w c E (execs o (c.env i)) (λx=>Q (.fl x)) s
 | .tand es pos,.b x=>λs=>if x=true then wp1 w c E (isTrue (.BoolOp .And es pos) (c.env i) (eval (.BoolOp .And es pos) (c.env i))) (λx=>Q (.b x)) s else Q (.b false) s
 | .tor es pos,.b x=>λs=>if x=true then Q (.b true) s else wp1 w c E (isTrue (.BoolOp .Or es pos) (c.env i) (eval (.BoolOp .Or es pos) (c.env i))) (λx=>Q (.b x)) s
 | .tnot,.b x=>Q (.b (!x))
 | .tr,.v x=>wp1 w c E (truthy x) λx=>Q (.b x)
 | .sb1 v sl,.v o=>wp1 w c E (eval sl (c.env i)) λiv=>wp1 w c E (subscriptTail v sl o iv) λx=>Q (.v x)
 | .sb2 v sl o,.v iv=>wp1 w c E (subscriptTail v sl o iv) λx=>Q (.v x)
 | .sl1 v sl o none,.v lo=>slcQ w c E Q v sl o lo .none
 | .sl1 v sl o (some e),.v lo=>wp1 w c E (eval e (c.env i)) λhi=>slcQ w c E Q v sl o lo hi
 | .sl2 v sl o lo,.v hi=>slcQ w c E Q v sl o lo hi
 | .bo op es pos,.v x=>wp1 w c E (truthy x) λy s=>match op with
  | .Or=>if y=true then Q (.v x) s else wp1 w c E (eval (.BoolOp .Or es pos) (c.env i)) (λx=>Q (.v x)) s
  | .And=>if y=true then wp1 w c E (eval (.BoolOp .And es pos) (c.env i)) (λx=>Q (.v x)) s else Q (.v x) s
 | .bo2 op x es pos,.b y=>λs=>match op with
  | .Or=>if y=true then Q (.v x) s else wp1 w c E (eval (.BoolOp .Or es pos) (c.env i)) (λx=>Q (.v x)) s
  | .And=>if y=true then wp1 w c E (eval (.BoolOp .And es pos) (c.env i)) (λx=>Q (.v x)) s else Q (.v x) s
 | .un op,.v x=>wp1 w c E (unaryOp op x) λx=>Q (.v x)
 | .jp out es,.v x=>λs=>match x with
  | .str y U=>(out++y).length<=sizeLine/\wp1 w c E (joinParts (out++y) (evalEach es (c.env i))) (λx=>Q (.v x)) s
  | _=>False
 | .fm,.v x=>wp1 w c E (formatField x Str.empty) λx=>Q (.v x)
 | .sto y,.v x=>wp1 w c E (storeName (c.env i) y x) λU=>Q (.fl .next)
 | .sa1 o n,.v x=>wp1 w c E (eval o (c.env i)) λov=>wp1 w c E (setAttr ov n x) λU=>Q (.fl .next)
 | .sa2 n x,.v ov=>wp1 w c E (setAttr ov n x) λU=>Q (.fl .next)
 | .ss1 o e,.v x=>wp1 w c E (eval o (c.env i)) λov=>wp1 w c E (eval e (c.env i)) λiv=>wp1 w c E (setItem ov iv x) λU=>Q (.fl .next)
 | .ss2 e x,.v ov=>wp1 w c E (eval e (c.env i)) λiv=>wp1 w c E (setItem ov iv x) λU=>Q (.fl .next)
 | .ss3 ov x,.v iv=>wp1 w c E (setItem ov iv x) λU=>Q (.fl .next)
 | .drop,.v U=>Q (.fl .next)
 | .sv y x,.fl f=>match f with
  | .next=>wp1 w c E (storeName (c.env i) y x) λU=>Q (.fl .next)
  | _=>λU=>False
 | .raw P U,.v x=>P x
 | .rawF P U,.fl x=>P x
 | .retv,.v x=>Q (.fl (.ret x))
 | .ta elts n pos,.v x=>wp1 w c E (assign (.Tuple elts n pos) (c.env i) x) λU=>Q (.fl .next)
 | .sw x y,.v v=>wp1 w c E (unpackItems v 2 none) λitems=>wp1 w c E (assignInOrder [bindName (c.env i) y,bindName (c.env i) x] items.reverse) λU=>Q (.fl .next)
 | .fr t b,.v x=>wp1 w c E (pyIter x) λit s=>codeAny (model pw w) c.A (.forLoop t it b [] (c.env i)) (aI7 (model pw w) c.A (c.env i) (λf=>Q (.fl f)) E) s
 | .wh b,.b x=>λs=>if x=true then wp1 w c E (execs b (c.env i)) (λx=>Q (.fl x)) s else Q (.fl .brk) s
 | .sq rest,.fl f=>match f with
  | .next=>wp1 w c E (execs rest (c.env i)) λf=>Q (.fl f)
  |f=>Q (.fl f)
 | .lp J,.fl f=>match f with
  | .next | .cont=>λs=>X2 λh t=>s=sh z h t/\J h t
  | .brk=>Q (.fl .next)
  | .ret v=>Q (.fl (.ret v))
 | .lw t b,.fl f=>match f with
  | .next | .cont=>λs=>codeAny (model pw w) c.A (.whileLoop t b [] (c.env i)) (aI7 (model pw w) c.A (c.env i) (λf=>Q (.fl f)) E) s
  | .brk=>Q (.fl .next)
  | .ret v=>Q (.fl (.ret v))
 |U,V=>λU=>False
noncomputable def den:List Fr->Ans->Shared->Prop
 |[],.fl f=>c.R f
 |[],U=>λU=>False
 |f::k,a=>denF w z K i c (eO w i c k) (den k) f a
noncomputable def Dn:Ct->List Fr->Shared->Prop
 | .an a,k=>den w z K i c k a
 | .ev e,k=>wp1 w c (eO w i c k) (eval e (c.env i)) λx=>den w z K i c k (.v x)
 | .ts e,k=>wp1 w c (eO w i c k) (isTrue e (c.env i) (eval e (c.env i))) λx=>den w z K i c k (.b x)
 | .xs ss,k=>wp1 w c (eO w i c k) (execs ss (c.env i)) λx=>den w z K i c k (.fl x)
 | .x st,k=>wp1 w c (eO w i c k) (exec st (c.env i)) λx=>den w z K i c k (.fl x)
 | .sp pos es,k=>wp1 w c (eO w i c k) (spliced (backTo pos (starEach es (c.env i)))) λx=>den w z K i c k (.vs x)
 | .jn out es,k=>wp1 w c (eO w i c k) (joinParts out (evalEach es (c.env i))) λx=>den w z K i c k (.v x)
 | .bl x,k=>den w z K i c k (.b x)
 | .cl f xs,k=>wp1 w c (eO w i c k) (call f xs) λx=>den w z K i c k (.v x)
end
noncomputable def eqL:List Nat->List Nat->Bool
 |[],[]=>true
 |a::r,b::s=>match Nat.beq a b with
  |true=>eqL r s
  |false=>false
 |U,V=>false
noncomputable def seq (x y:Str):Bool:=eqL x.cps.toList y.cps.toList
noncomputable def lk {α:Type} (x:Str):List (Str × α)->Option α
 |[]=>none
 |(y,v)::r=>match seq y x with
  |true=>some v
  |false=>lk x r
noncomputable def lkN {α:Type} (n:Nat):List (Nat × List α)->List α
 |[]=>[]
 |(m,v)::r=>match Nat.beq m n with
  |true=>v
  |false=>lkN n r
noncomputable def bp3:List (Nat × List (Str × Option Value)):=[
 (66,[(Str.ofString "Box",some (Value.ref 236)),(Str.ofString "BLANKS",some (Value.str (Str.ofString " \n\t\x0d\x0c") 1390)),(Str.ofString "BEHIND_DOT",some (Value.int 1 1656))]),
 (67,[(Str.ofString "Char",some (Value.ref 173)),(Str.ofString "CAPITALS",some (Value.str (Str.ofString "ABCDEFGHIJKLMNOPQRSTUVWXYZ") 1398))]),
 (68,[(Str.ofString "DELIMITERS",some (Value.str (Str.ofString " \n\t\x0d\x0c()\";") 1392)),(Str.ofString "DATUM",some (Value.int 1 1840))]),
 (69,[(Str.ofString "EMPTY",some (Value.ref 44)),(Str.ofString "EOF",some (Value.ref 50))]),
 (70,[(Str.ofString "FIGURES_numtext",some (Value.str (Str.ofString "0123456789abcdef") 997)),(Str.ofString "FIGURES_lexer",some (Value.str (Str.ofString "0123456789") 1400)),(Str.ofString "FIRST_SIGNS",some (Value.str (Str.ofString "!$%&*/:<=>?^_~") 1402)),(Str.ofString "Frame",some (Value.ref 1036))]),
 (72,[(Str.ofString "HAS_TAIL",some (Value.int 2 1658))]),
 (76,[(Str.ofString "LexError",some (Value.ref 384)),(Str.ofString "LATER_SIGNS",some (Value.str (Str.ofString "+-.@") 1404)),(Str.ofString "Lexer",some (Value.ref 1015))]),
 (77,[(Str.ofString "MARKS",some (Value.str (Str.ofString "esfdl") 1012)),(Str.ofString "MOST_EXPONENT_FIGURES",some (Value.int 5 1014)),(Str.ofString "MOST_BEFORE_POINT",some (Value.int 21 1016)),(Str.ofString "MOST_NOUGHTS_BEHIND_POINT",some (Value.int 6 1018))]),
 (78,[(Str.ofString "NOT_DOTTED",some (Value.int 0 1654))]),
 (79,[(Str.ofString "OutOfRange",some (Value.ref 441))]),
 (80,[(Str.ofString "Pair",some (Value.ref 152)),(Str.ofString "Promise",some (Value.ref 257)),(Str.ofString "PortRef",some (Value.ref 278)),(Str.ofString "Procedure",some (Value.ref 299)),(Str.ofString "Primitive",some (Value.ref 320)),(Str.ofString "PECULIAR",some (Value.ref 849)),(Str.ofString "PREFIXES",some (Value.str (Str.ofString "bodxei") 1410)),(Str.ofString "PIECE",some (Value.int 0 1838)),(Str.ofString "Printer",some (Value.ref 1227))]),
 (81,[(Str.ofString "QUOTATIONS",some (Value.ref 857))]),
 (82,[(Str.ofString "ReadError",some (Value.ref 403)),(Str.ofString "REACH",some (Value.int 65536 788)),(Str.ofString "Real",some (Value.ref 460)),(Str.ofString "Ratio",some (Value.ref 579)),(Str.ofString "RADICES",some (Value.ref 605)),(Str.ofString "Reading",some (Value.ref 768)),(Str.ofString "RESERVED",some (Value.str (Str.ofString "[]{}|") 1394)),(Str.ofString "Reader",some (Value.ref 1121))]),
 (83,[(Str.ofString "Special",some (Value.ref 38)),(Str.ofString "Symbol",some (Value.ref 68)),(Str.ofString "SymbolTable",some (Value.ref 131)),(Str.ofString "SchemeError",some (Value.ref 364)),(Str.ofString "Surroundings",some (Value.ref 678)),(Str.ofString "SMALL",some (Value.str (Str.ofString "abcdefghijklmnopqrstuvwxyz") 1396)),(Str.ofString "SIGN_NAMES",some (Value.ref 852))]),
 (84,[(Str.ofString "Text",some (Value.ref 194)),(Str.ofString "TooLong",some (Value.ref 422)),(Str.ofString "Token",some (Value.ref 874)),(Str.ofString "TAIL",some (Value.int 2 1842))]),
 (85,[(Str.ofString "UNSPECIFIED",some (Value.ref 47))]),
 (86,[(Str.ofString "Vector",some (Value.ref 215))]),
 (95,[(Str.ofString "_wall",some (Value.ref 21)),(Str.ofString "_law_marks",some (Value.ref 1261)),(Str.ofString "_law_draw",some (Value.ref 1268)),(Str.ofString "_law_atom",some (Value.ref 1275)),(Str.ofString "_law_next",some (Value.ref 1280)),(Str.ofString "_law_bounded",some (Value.ref 1287))]),
 (97,[(Str.ofString "are_figures",some (Value.ref 744)),(Str.ofString "are_decimal_parts",some (Value.ref 793)),(Str.ofString "abs",none),(Str.ofString "all",none)]),
 (98,[(Str.ofString "bool",none)]),
 (99,[(Str.ofString "chr",none)]),
 (100,[(Str.ofString "decimal_text",some (Value.ref 724)),(Str.ofString "display_text",some (Value.ref 1247)),(Str.ofString "divmod",none)]),
 (101,[(Str.ofString "exact_parts",some (Value.ref 534)),(Str.ofString "exact_text",some (Value.ref 626)),(Str.ofString "enumerate",none)]),
 (102,[(Str.ofString "full_mantissa",some (Value.ref 562)),(Str.ofString "figures_of",some (Value.ref 612)),(Str.ofString "finished",some (Value.ref 840)),(Str.ofString "folded",some (Value.ref 885))]),
 (103,[(Str.ofString "gcd_of",some (Value.ref 590))]),
 (105,[(Str.ofString "is_boolean",some (Value.ref 347)),(Str.ofString "is_real",some (Value.ref 471)),(Str.ofString "is_first",some (Value.ref 892)),(Str.ofString "is_later",some (Value.ref 899)),(Str.ofString "is_identifier",some (Value.ref 906)),(Str.ofString "is_numberlike",some (Value.ref 913)),(Str.ofString "is_readable_symbol",some (Value.ref 1147)),(Str.ofString "is_readable",some (Value.ref 1254)),(Str.ofString "isinstance",none),(Str.ofString "int",none)]),
 (108,[(Str.ofString "list_of",some (Value.ref 340)),(Str.ofString "lean",some (Value.ref 499)),(Str.ofString "laid_out",some (Value.ref 717)),(Str.ofString "law",some (Value.ref 1292)),(Str.ofString "len",none)]),
 (109,[(Str.ofString "make_text",some (Value.ref 327)),(Str.ofString "magnitude",some (Value.ref 555)),(Str.ofString "made",some (Value.ref 597)),(Str.ofString "mark_place",some (Value.ref 805)),(Str.ofString "max",none),(Str.ofString "min",none)]),
 (110,[(Str.ofString "nearest_shift",some (Value.ref 506)),(Str.ofString "number_text",some (Value.ref 732)),(Str.ofString "name_of_sign",some (Value.ref 927))]),
 (111,[(Str.ofString "other_text",some (Value.ref 1168)),(Str.ofString "ord",none)]),
 (112,[(Str.ofString "python_text",some (Value.ref 332)),(Str.ofString "place_of",some (Value.ref 541)),(Str.ofString "parted",some (Value.ref 751)),(Str.ofString "parse_number",some (Value.ref 848))]),
 (113,[(Str.ofString "quotation_sign",some (Value.ref 1140))]),
 (114,[(Str.ofString "rounded",some (Value.ref 527)),(Str.ofString "ratio_of",some (Value.ref 604)),(Str.ofString "read_whole",some (Value.ref 779)),(Str.ofString "read_ratio",some (Value.ref 786)),(Str.ofString "read_exponent",some (Value.ref 800)),(Str.ofString "read_mantissa",some (Value.ref 812)),(Str.ofString "read_decimal",some (Value.ref 819)),(Str.ofString "read_unsigned",some (Value.ref 826)),(Str.ofString "read_one",some (Value.ref 1133)),(Str.ofString "range",none),(Str.ofString "reversed",none)]),
 (115,[(Str.ofString "size_of",some (Value.ref 478)),(Str.ofString "sign_of_whole",some (Value.ref 485)),(Str.ofString "shifted_round",some (Value.ref 513)),(Str.ofString "sign_of",some (Value.ref 548)),(Str.ofString "shortest_figures",some (Value.ref 703)),(Str.ofString "split_prefixes",some (Value.ref 833)),(Str.ofString "sign_named",some (Value.ref 920)),(Str.ofString "str",none)]),
 (116,[(Str.ofString "tens_above",some (Value.ref 696))]),
 (119,[(Str.ofString "with_sticky",some (Value.ref 520)),(Str.ofString "whole_text",some (Value.ref 619)),(Str.ofString "with_lower_ones",some (Value.ref 689)),(Str.ofString "without_noughts",some (Value.ref 710)),(Str.ofString "worth_of",some (Value.ref 739)),(Str.ofString "written_sign",some (Value.ref 1154)),(Str.ofString "written_string",some (Value.ref 1161)),(Str.ofString "write_text",some (Value.ref 1239))]),
 (122,[(Str.ofString "zeros_below",some (Value.ref 492))])]
noncomputable def bh3 (x:Str):Option (Option Value):=match x.cps.toList with
 |[]=>none
 |n::U=>lk x (lkN n bp3)
inductive EV
 |call (f:Expr) (args:List Expr) (kws:List Keyword)|name (x:Str) (p:Pos)|tup (es:List Expr) (n:Nat) (p:Pos)|attr (o:Expr) (n:Str) (p:Pos)|sub (o s:Expr)|sl (lo hi stp:Option Expr)|o
set_option backward.match.sparseCases false in
noncomputable def vE:Expr->EV
 | .Call f a k U=>.call f a k
 | .Name x p=>.name x p
 | .Tuple es n p=>.tup es n p
 | .Attribute o n p=>.attr o n p
 | .Subscript o s U=>.sub o s
 | .Slice lo hi stp U=>.sl lo hi stp
 | _=>.o
noncomputable def ah0 (e:Expr):Bool:=match vE e with
 | .call f a k=>(match vE f with
  | .name U V=>!(a.isEmpty&&k.isEmpty)
  | _=>true)
 | _=>true
noncomputable def noStar:List Expr->Bool
 |[]=>true
 |e::r=>!Nat.beq e.ctorIdx 22&&noStar r
noncomputable def aP2 (e:Expr):Bool:=Nat.beq e.ctorIdx 8||(Nat.beq e.ctorIdx 9||Nat.beq e.ctorIdx 10)
noncomputable def bp0 (e:Expr):Bool:=Nat.beq e.ctorIdx 7
noncomputable def btab:List (Str × Value):=[("len",.builtin "len"),("range",.type "range"),("isinstance",.builtin "isinstance"),("ord",.builtin "ord"),("chr",.builtin "chr"),("abs",.builtin "abs"),("bool",.type "bool"),("max",.builtin "max"),("min",.builtin "min"),("str",.type "str"),("divmod",.builtin "divmod"),("reversed",.type "reversed"),("all",.builtin "all"),("enumerate",.type "enumerate"),("int",.type "int")]
noncomputable def bg6 (a:Addr):Bool:=ftab.any (λp=>p.1==a)||ctab.any (λp=>p.1==a)
noncomputable def aL9 (i:FI) (x:Str):Option NameKind:=match i.scope.kind with
 | .function=>lk x i.scope.names
 | _=>none
noncomputable def swB (i:FI) (x y:Str) (p1 p2:Pos) (vs:List Expr):Bool:=
 vs.length==2&&noStar vs&&aL9 i x==some .local&&aL9 i y==some .local&&p2.line==p1.line&& !(seq x y)&& !(vs.all (foldedForSure 8))&& !(vs.all (constantsAlone 8))&&i.scope.kind== .function
noncomputable def bc6:Option NameKind->Bool
 |some .cell=>true
 | _=>false
noncomputable def swN1 (i:FI) (e:Expr):Bool:=match vE e with
 | .name x U=>bc6 (i.scope.names.lookup x)
 | _=>false
noncomputable def swN (i:FI):List Expr->Bool
 |[]=>false
 |e::r=>swN1 i e||swN i r
noncomputable def nm1 (e:Expr):Option (Str × Pos):=match vE e with
 | .name x p=>some (x,p)
 | _=>none
noncomputable def pr2 {α:Type} (x y:Option α):Option (α × α):=match x,y with
 |some p,some q=>some (p,q)
 |U,V=>none
noncomputable def two:List Expr->Option ((Str × Pos) × (Str × Pos))
 |[a,b]=>pr2 (nm1 a) (nm1 b)
 | _=>none
noncomputable def tupE (e:Expr):Option (List Expr):=match vE e with
 | .tup vs U V=>some vs
 | _=>none
noncomputable def strM:List (Str × String):=[("join","str.join"),("find","str.find"),("lower","str.lower"),("rstrip","str.rstrip"),("index","str.index")]
noncomputable def aM8 (c:Bool) (p q:Prop):Prop:=Bool.rec q p c
noncomputable def aW0 {α:Type} (c:Option α) (p:α->Prop) (q:Prop):Prop:=Option.rec q p c
section
variable (i:FI) (r:Ct->List Fr->Loc->Prop) (st:Prop)
noncomputable def bn8 (x:Str) (k:List Fr) (l:Loc):Prop:=
 aM8 (seq x (Str.ofString "__debug__")) st (aW0 (aL9 i x) (λy=>match y with
  | .local=>aW0 (lk x l) (λv=>r (.an (.v v)) k l) st
  | .globalImplicit=>aW0 (bh3 x) (λv=>aW0 v (λv=>r (.an (.v v)) k l) (aW0 (lk x btab) (λv=>r (.an (.v v)) k l) st)) st
  | _=>st) st)
noncomputable def bi3 (pos:Pos) (f:Value) (first:List Value) (args:List Expr) (k:List Fr) (l:Loc):Prop:=
 aM8 (noStar args) (match f with
  | .builtin id=>(match args with
   |[]=>r (.cl (.builtin id) first) k l
   |U::V=>r (.sp pos args) (.cl (.builtin id) first::k) l)
  | .ref a=>aM8 (bg6 a) (match args with
    |[]=>r (.cl (.ref a) first) k l
    |U::V=>r (.sp pos args) (.cr (.ref a) first::k) l) st
  | .type T=>(match first with
   |[]=>(match args with
    |U::V=>r (.sp pos args) (.cl (.type T) []::k) l
    |[]=>st)
   |U::V=>st)
  | _=>st) st
set_option backward.match.sparseCases false in
noncomputable def evS (e:Expr) (k:List Fr) (l:Loc):Prop:=match e with
 | .Name x U=>bn8 i r st x k l
 | .Constant c U V=>(match c with
  | .str x=>∀tk,r (.an (.v (.str x tk))) k l
  | .int n=>∀tk,r (.an (.v (.int n tk))) k l
  | .none=>r (.an (.v .none)) k l
  | .bool b=>r (.an (.v (.bool b))) k l
  | _=>st)
 | .Attribute v n U=>aM8 (ah0 v) (r (.ev v) (.attr n::k) l) st
 | .Call f args kws pos=>(match kws with
  |[]=>(match vE f with
   | .attr o n apos=>aM8 (ah0 o&&noStar args&&Nat.blt args.length 30&&apos.endLine==pos.line) (r (.ev o) (.gm o n:: .ca pos args::k) l) st
   | _=>r (.ev f) (.cf pos args::k) l)
  |U::V=>st)
 | .Compare a ops bs U=>(match ops with
  |[]=>st
  |op::ops=>(match ops with
   |U::V=>st
   |[]=>(match bs with
    |[]=>st
    |b::bs=>(match bs with
     |U::V=>st
     |[]=>aM8 (behindInMarks op b) st (r (.ev a) (.cm1 op b::k) l)))))
 | .BinOp a op b U=>r (.ev a) (.bi1 op b::k) l
 | .IfExp t b o U=>r (.ts t) (.ifx b o::k) l
 | .Subscript v s U=>r (.ev v) (.sb1 v s::k) l
 | .Tuple es U pos=>r (.sp pos es) (.mkt::k) l
 | .List es pos=>r (.sp pos es) (.mkl::k) l
 | .BoolOp op es pos=>(match es with
  |[]=>st
  |e::es=>(match es with
   |[]=>r (.ev e) k l
   |e2::es=>r (.ev e) (.bo op (e2::es) pos::k) l))
 | .UnaryOp op x U=>r (.ev x) (.un op::k) l
 | .JoinedStr vs U=>(match vs with
  |[]=>st
  |e1::vs=>(match vs with
   |[]=>st
   |e2::rest=>r (.jn Str.empty (e1::e2::rest)) k l))
 | .FormattedValue v cv spec U=>aM8 (cv== -1) (match spec with
  |none=>r (.ev v) (.fm::k) l
  |some U=>st) st
 | _=>st
set_option backward.match.sparseCases false in
noncomputable def tsS (e:Expr) (k:List Fr) (l:Loc):Prop:=match e with
 | .UnaryOp op x U=>(match op with
  | .Not=>r (.ts x) (.tnot::k) l
  | _=>r (.ev e) (.tr::k) l)
 | .BoolOp op es pos=>(match op with
  | .And=>(match es with
   |[]=>r (.bl true) k l
   |x::es=>r (.ts x) (.tand es pos::k) l)
  | .Or=>(match es with
   |[]=>r (.bl false) k l
   |x::es=>r (.ts x) (.tor es pos::k) l))
 | .IfExp .. =>st
 | .Compare a ops bs U=>(match ops with
  |[]=>st
  |op::ops=>(match ops with
   |U::V=>st
   |[]=>(match bs with
    |[]=>st
    |b::bs=>(match bs with
     |U::V=>st
     |[]=>aM8 (behindInMarks op b) st (r (.ev a) (.cm1 op b:: .tr::k) l)))))
 |e=>r (.ev e) (.tr::k) l
set_option backward.match.sparseCases false in
noncomputable def xS (s:Stmt) (k:List Fr) (l:Loc):Prop:=match s with
 | .Assign ts v U=>(match ts with
  |[]=>st
  |t::ts=>(match ts with
   |U::V=>st
   |[]=>aM8 (aP2 v) st (match vE t with
    | .name x U=>r (.ev v) (.sto x::k) l
    | .attr o n U=>r (.ev v) (.sa1 o n::k) l
    | .sub o e=>r (.ev v) (.ss1 o e::k) l
    | .tup elts n pos=>aW0 (tupE v) (λvs=>aM8 (vs.all (foldedForSure 8)||swN i elts) (r (.ev v) (.ta elts n pos::k) l) (aW0 (two elts) (λp=>aM8 (swB i p.1.1 p.2.1 p.1.2 p.2.2 vs) (r (.ev v) (.sw p.1.1 p.2.1::k) l) st) st)) (r (.ev v) (.ta elts n pos::k) l)
    | _=>st)))
 | .Expr e U=>aM8 (aP2 e|| !(i.scope.kind== .function)) st (r (.ev e) (.drop::k) l)
 | .If t b o U=>r (.ts t) (.ifs b o::k) l
 | .Return e U=>(match e with
  |some e=>r (.ev e) (.retv::k) l
  |none=>r (.an (.fl (.ret .none))) k l)
 | .For t it b o U=>(match o with
  |[]=>aM8 (bp0 it) st (r (.ev it) (.fr t b::k) l)
  |U::V=>st)
 | .Continue U=>r (.an (.fl .cont)) k l
 | .Break U=>r (.an (.fl .brk)) k l
 | .Pass U=>r (.an (.fl .next)) k l
 | _=>st
noncomputable def cmpS (op:CmpOp) (a x:Value) (k:List Fr) (l:Loc):Prop:=match op with
 | .Is=>nonC x (r (.an (.v (.bool (a== .none)))) k l) st
 | .IsNot=>nonC x (r (.an (.v (.bool (!(a== .none))))) k l) st
 | .Lt=>bh0 x a (λy n=>r (.an (.v (.bool (decide (n<y))))) k l) st
 | .Gt=>bh0 x a (λy n=>r (.an (.v (.bool (decide (y<n))))) k l) st
 | .LtE=>bh0 x a (λy n=>r (.an (.v (.bool (decide (n<=y))))) k l) st
 | .GtE=>bh0 x a (λy n=>r (.an (.v (.bool (decide (y<=n))))) k l) st
 | .Eq=>bh0 x a (λy n=>r (.an (.v (.bool (n==y)))) k l) (bl9 x a (λy n=>r (.an (.v (.bool (n==y)))) k l) st)
 | .NotEq=>bh0 x a (λy n=>r (.an (.v (.bool (n !=y)))) k l) (bl9 x a (λy n=>r (.an (.v (.bool (n !=y)))) k l) st)
 | .In=>bl9 x a (λy n=>r (.an (.v (.bool (inS n y)))) k l) st
 | .NotIn=>bl9 x a (λy n=>r (.an (.v (.bool (!inS n y)))) k l) st
noncomputable def vS (f:Fr) (x:Value) (k:List Fr) (l:Loc):Prop:=match f with
 | .gm U n=>(match x with
  | .str y u=>aW0 (lk n strM) (λid=>r (.an (.m (.builtin id) [.str y u])) k l) st
  | _=>st)
 | .cf pos args=>bi3 r st pos x [] args k l
 | .cm1 op b=>r (.ev b) (.cm2 op x::k) l
 | .cm2 op a=>cmpS r st op a x k l
 | .bi1 op b=>r (.ev b) (.bi2 op x::k) l
 | .bi2 op a=>(match op with
  | .Add=>(match x,a with
   | .int m u,.int n v=>∀tk,r (.an (.v (.int (n+m) tk))) k l
   |U,V=>st)
  | .Sub=>(match x,a with
   | .int m u,.int n v=>∀tk,r (.an (.v (.int (n -m) tk))) k l
   |U,V=>st)
  | _=>st)
 | .sb1 v s=>(match vE s with
  | .sl lo hi stp=>(match stp with
   |some U=>st
   |none=>match lo with
    |some e=>r (.ev e) (.sl1 v s x hi::k) l
    |none=>match hi with
     |some e=>r (.ev e) (.sl2 v s x .none::k) l
     |none=>st)
  | _=>r (.ev s) (.sb2 v s x::k) l)
 | .sl1 v s o hi=>(match hi with
  |some e=>r (.ev e) (.sl2 v s o x::k) l
  |none=>st)
 | .sp1 pos es=>r (.sp pos es) (.cons x::k) l
 | .bo op es pos=>r (.an (.v x)) (.tr:: .bo2 op x es pos::k) l
 | .tr=>(match x with
  | .bool b=>r (.an (.b b)) k l
  | _=>st)
 | .un op=>(match op with
  | .USub=>(match x with
   | .int n u=>∀tk,r (.an (.v (.int (-n) tk))) k l
   | _=>st)
  | _=>st)
 | .sto y=>aW0 (aL9 i y) (λq=>match q with
  | .local=>r (.an (.fl .next)) k ((y,x)::l)
  | _=>st) st
 | .sa1 o n=>r (.ev o) (.sa2 n x::k) l
 | .ss1 o e=>r (.ev o) (.ss2 e x::k) l
 | .ss2 e y=>r (.ev e) (.ss3 x y::k) l
 | .drop=>r (.an (.fl .next)) k l
 | .retv=>r (.an (.fl (.ret x))) k l
 | _=>st
noncomputable def anS (a:Ans) (k:List Fr) (l:Loc):Prop:=match k with
 |[]=>st
 |f::k=>match a with
  | .v x=>vS i r st f x k l
  | .vs xs=>(match f with
   | .cl g first=>(match first with
    |[]=>r (.cl g xs) k l
    |[y]=>r (.cl g (y::xs)) k l
    | _=>st)
   | .cr g first=>(match first with
    |[]=>r (.cl g xs) k l
    |[y]=>r (.cl g (y::xs)) k l
    | _=>st)
   | .cons x=>r (.an (.vs (x::xs))) k l
   | _=>st)
  | .m g first=>(match f with
   | .ca pos args=>bi3 r st pos g first args k l
   | _=>st)
  | .b x=>(match f with
   | .tnot=>r (.an (.b (!x))) k l
   | _=>st)
  | .fl g=>(match f with
   | .sq rest=>(match g with
    | .next=>r (.xs rest) k l
    |g=>r (.an (.fl g)) k l)
   | .lp J=>(match g with
    | .next=>st
    | .cont=>r (.an (.fl .next)) (.lp J::k) l
    | .brk=>r (.an (.fl .next)) k l
    | .ret v=>r (.an (.fl (.ret v))) k l)
   | .sv y x=>(match g with
    | .next=>r (.an (.v x)) (.sto y::k) l
    | _=>st)
   | .lw t b=>(match g with
    | .next=>st
    | .cont=>r (.an (.fl .next)) (.lw t b::k) l
    | .brk=>r (.an (.fl .next)) k l
    | .ret v=>r (.an (.fl (.ret v))) k l)
   | _=>st)
noncomputable def bS (f:Fr) (x:Bool) (k:List Fr) (l:Loc):Prop:=match f with
 | .ifs b o=>(match x with
  |true=>r (.xs b) k l
  |false=>r (.xs o) k l)
 | .ifx b o=>(match x with
  |true=>r (.ev b) k l
  |false=>r (.ev o) k l)
 | .tand es pos=>(match x with
  |true=>r (.ts (.BoolOp .And es pos)) k l
  |false=>r (.bl false) k l)
 | .tor es pos=>(match x with
  |true=>r (.bl true) k l
  |false=>r (.ts (.BoolOp .Or es pos)) k l)
 | .bo2 op v es pos=>(match op with
  | .Or=>(match x with
   |true=>r (.an (.v v)) k l
   |false=>r (.ev (.BoolOp .Or es pos)) k l)
  | .And=>(match x with
   |true=>r (.ev (.BoolOp .And es pos)) k l
   |false=>r (.an (.v v)) k l))
 | .wh b=>(match x with
  |true=>r (.xs b) k l
  |false=>r (.an (.fl .brk)) k l)
 | .tnot=>r (.bl (!x)) k l
 | _=>st
noncomputable def stp (ct:Ct) (k:List Fr) (l:Loc):Prop:=match ct with
 | .an a=>anS i r st a k l
 | .ev e=>evS i r st e k l
 | .ts e=>tsS r st e k l
 | .xs ss=>(match ss with
  |[]=>r (.an (.fl .next)) k l
  |s::rest=>r (.x s) (.sq rest::k) l)
 | .x s=>xS i r st s k l
 | .sp pos es=>(match es with
  |[]=>r (.an (.vs [])) k l
  |e::es=>aM8 (noStar [e]) (r (.ev e) (.sp1 pos es::k) l) st)
 | .jn out es=>(match es with
  |[]=>st
  |e::es=>r (.ev e) (.jp out es::k) l)
 | .cl U V=>st
 | .bl x=>(match k with
  |[]=>st
  |f::k=>bS r st f x k l)
end
section
variable (w:World) (z:Z) (K:Frag) (b:Heap) (i:FI) (c:Cx) (g:Bas) (fp:FP)
noncomputable def am5 (ct:Ct) (k:List Fr) (l:Loc):Prop:=∀h t,St w.params b g c.L l fp h->Dn w z K i c ct k (sh z h t)
noncomputable def bj1 (ct:Ct) (k:List Fr) (l:Loc):Prop:=match ct with
 | .an a=>∀h t,St w.params b g c.L l fp h->den w z K i c k a (sh z h t)
 | .bl x=>∀h t,St w.params b g c.L l fp h->den w z K i c k (.b x) (sh z h t)
 |ct=>∀h t,St w.params b g c.L l fp h->Dn w z K i c ct k (sh z h t)
noncomputable def Run:Nat->Ct->List Fr->Loc->Prop:=Nat.rec (bj1 w z K b i c g fp) λU r ct k l=>stp i r (bj1 w z K b i c g fp ct k l) ct k l
end
end
section
theorem br2 {v:Expr} {n:Str} {env:Env} {whole:Sem Value} (h:ah0 v=true):attributeBase v n env whole=whole:=by
 induction v using Expr.casesOn with
 |Call f args kws pos=>
  induction f using Expr.casesOn with
  |Name x p=>
   induction args using List.casesOn with
   |nil=>
    induction kws using List.casesOn with
    |nil=>cases h
    |cons=>rfl
   |cons=>rfl
  | _=>rfl
 | _=>rfl
theorem eAttr {value:Expr} {attr:Str} {pos:Pos} {env:Env} (h:ah0 value=true):eval (.Attribute value attr pos) env=(do
   let o<-eval value env
   standAt pos.atName
   let r<-holding [o] (getAttr o attr true)
   letTemporaryGo value o r
   pure r):=by rw[arm_eval_Attribute,br2 h]
theorem a88 {e:Expr} {es:List Expr} {env:Env} (h:noStar [e]=true):starEach (e::es) env=(false,eval e env)::starEach es env:=by
 induction e using Expr.casesOn with
 |Starred=>cases h
 | _=>rfl
theorem a46 {e:Expr} {es:List Expr} (h:noStar (e::es)=true):noStar [e]=true/\noStar es=true:=by
 induction e using Expr.casesOn with
 |Starred=>cases h
 | _=>exact⟨rfl,h⟩
theorem an3 {env:Env} {pos:Pos}:∀{es:List Expr},noStar es=true->(backTo pos (starEach es env)).any (·.1)=false
 |[],U=>rfl
 |e::es,h=>by
  obtain⟨h1,h2⟩:=a46 h
  rw[a88 h1]
  show (false||(backTo pos (starEach es env)).any (·.1))=false
  rw[an3 h2];rfl
theorem aY4 {env:Env} {pos:Pos} {n:Nat} {es:List Expr} (h:noStar es=true) (hn:Nat.blt n 30=true):methodCallForm n (backTo pos (starEach es env)) []=true:=by
 have e:∀{es:List Expr},noStar es=true->(backTo pos (starEach es env)).all (!·.1)=true:=by
  intro es
  induction es with
  |nil=>intro _;rfl
  |cons e es ih=>
   intro h
   obtain⟨h1,h2⟩:=a46 h
   rw[a88 h1]
   show (!false&&(backTo pos (starEach es env)).all (!·.1))=true
   rw[ih h2];rfl
 unfold methodCallForm
 rw[e h]
 have:n<30:=by
  have:=Nat.le_of_ble_eq_true hn
  exact leT (by assumption)
 simpa using this
theorem eMeth {o:Expr} {name:Str} {apos pos:Pos} {args:List Expr} {env:Env} (h1:ah0 o=true) (h2:noStar args=true) (h3:Nat.blt args.length 30=true) (h4:(apos.endLine==pos.line)=true):
  eval (.Call (.Attribute o name apos) args [] pos) env=(do
   let ov<-eval o env
   standAt apos.atName
   let (f,first)<-holding [ov] (getMethod ov name (bb4 o env))
   callWith pos f first (backTo pos (starEach args env)) []):=by
 rw[arm_eval_Call,br2 h1]
 have e0:backToKw pos (keywordEach [] env)=[]:=rfl
 have e1:args.length+([]:List Keyword).length=args.length:=rfl
 have e2:∀p:Pos,methodCallPos true o env apos pos=pure pos:=λp=>by
  unfold methodCallPos
  rw[h4];rfl
 simp only[e0,e1,methodCall,aY4 h2 h3,calleeOf,e2 pos]
 rfl
theorem bc8:∀x y:List Nat,eqL x y=(x==y)
 |[],[]=>rfl
 |[],U::V=>rfl
 |U::V,[]=>rfl
 |a::r,b::s=>by
  show (match Nat.beq a b with |true=>eqL r s |false=>false)=_
  rw[List.cons_beq_cons,<-bc8 r s]
  cases q:Nat.beq a b with
  |true=>rw[Nat.eq_of_beq_eq_true q];simp
  |false=>
   have:(a==b)=false:=by
    rw[beq_eq_false_iff_ne]
    intro e
    rw[e,Nat.beq_refl] at q
    cases q
   rw[this];rfl
theorem au1 (x y:Str):seq x y=(x==y):=by
 unfold seq
 rw[bc8,Bool.eq_iff_iff,beq_iff_eq,beq_iff_eq]
 obtain⟨⟨a⟩⟩:=x
 obtain⟨⟨c⟩⟩:=y
 simp
theorem av3 {α:Type} (x:Str):∀l:List (Str × α),lk x l=l.lookup x
 |[]=>rfl
 |(y,v)::r=>by
  show (match seq y x with |true=>some v |false=>lk x r)=_
  rw[av3 x r,au1,List.lookup]
  cases q:y==x with
  |true=>rw[show (x==y)=true by rw[eq_of_beq q];simp]
  |false=>rw[show (x==y)=false by
    rw[beq_eq_false_iff_ne] at q ⊢
    exact Ne.symm q]
theorem b20 {α:Type} {n:Nat} {p:α}:∀{l:List (Nat × List α)},p∈lkN n l->∃q∈l,p∈q.2
 |(m,v)::r,h=>by
  have h:p∈(match Nat.beq m n with |true=>v |false=>lkN n r):=h
  cases q:Nat.beq m n with
  |true=>rw[q] at h;exact⟨_,.head _,h⟩
  |false=>
   rw[q] at h
   obtain⟨q,h1,h2⟩:=b20 h
   exact⟨q,.tail _ h1,h2⟩
theorem b94:(bp3.all λq=>q.2.all λp=>lk p.1 gtab==some p.2)=true:=by kernel_rfl!
set_option tactic.hygienic true in
theorem b93 {x:Str} {v:Option Value} (h:bh3 x=some v):∃j:Nat,gtab[j]?=some (x,v):=by
 unfold bh3 at h
 split at h
 ·cases h
 next n r=>
  rw[av3] at h
  obtain⟨q,h1,h2⟩:=b20 (a16 h)
  have:=List.all_eq_true.mp (List.all_eq_true.mp b94 q h1) _ h2
  rw[av3,beq_iff_eq] at this
  exact List.getElem?_of_mem (a16 this)
theorem av5 {i:FI} {L f:Addr} {x:Str} {y:NameKind} (h:aL9 i x=some y):i.scope.kind= .function/\(ac9 i.qual i.scope L f i.cd).kindOf x=some y:=by
 unfold aL9 at h
 split at h
 ·next q=>exact⟨q,(av3 _ _).symm.trans h⟩
 ·cases h
theorem an1 {v:Expr} {t:Option Expr} {n:Nat} {env:Env} (h:aP2 v=false):swapsWith v t n env=pure false:=by
 induction v using Expr.casesOn<;>first |rfl |cases h
theorem at7 {v t:Expr} {n:Nat} {env:Env} (h:aP2 v=false):swapsWithSole [t] v n env=pure false:=an1 h
theorem b27 {e:Expr} {env:Env} (h:bp0 e=false) (x:Value):foldedSetIterable e env x=pure x:=by
 induction e using Expr.casesOn<;>first |rfl |cases h
theorem bl6 {elts:List Expr} {n:Nat} {tpos:Pos} {v:Expr} {env:Env} (h:∀vs m p,v≠ .Tuple vs m p):swappedStores [.Tuple elts n tpos] v env=pure none:=by
 induction v using Expr.casesOn<;>first |rfl |exact absurd rfl (h _ _ _)
theorem it3 {α:Type} {a b c:Prop} [Decidable a] [Decidable b] [Decidable c] {x y:α} (h:c):(if a then x else if b then x else if c then x else y)=x:=by
 by_cases ha:a
 ·exact if_pos ha
 ·rw [if_neg ha]
  by_cases hb:b
  ·exact if_pos hb
  ·rw [if_neg hb];exact if_pos h
theorem it4 {α:Type} {a b c d:Prop} [Decidable a] [Decidable b] [Decidable c] [Decidable d] {x y:α} (h:d):(if a then x else if b then x else if c then x else if d then x else y)=x:=by
 by_cases ha:a
 ·exact if_pos ha
 ·rw [if_neg ha];exact it3 h
theorem bl7 {elts vs:List Expr} {n m:Nat} {tpos vpos:Pos} {env:Env} (h:vs.all (foldedForSure 8)=true):swappedStores [.Tuple elts n tpos] (.Tuple vs m vpos) env=pure none:=it4 h
theorem bp6 {α β:Type} (f:α->Option β):∀l:List α,(l.filterMap f).length<=l.length
 |[]=>Nat.le_refl _
 |x::r=>by
  rw[List.filterMap_cons]
  have:=bp6 f r
  cases f x<;>simp<;>lia
theorem bp5 {α β:Type} (f:α->Option β):∀{l:List α},(∃x∈l,f x=none)->(l.filterMap f).length<l.length
 |x::r,h=>by
  rw[List.filterMap_cons]
  have le:=bp6 f r
  cases q:f x with
  |none=>simp only[List.length_cons];exact Nat.lt_succ_of_le (by assumption)
  |some y=>
   obtain⟨z,hz,e⟩:=h
   rcases List.mem_cons.mp hz with rfl |hz
   ·rw [q] at e;cases e
   ·have:=bp5 f ⟨z,hz,e⟩
    simp only[List.length_cons];lia
theorem b23 {o:Option NameKind} (h:bc6 o=true):o=some .cell:=by
 induction o using Option.casesOn with
 |none=>cases h
 |some k=>induction k using NameKind.casesOn<;>first |rfl |cases h
theorem aY0 {i:FI}:∀{elts:List Expr},swN i elts=true->X2 λx pos=>Expr.Name x pos∈elts/\i.scope.names.lookup x=some .cell
 |e::r,h=>by
  have h:(swN1 i e||swN i r)=true:=h
  rw[Bool.or_eq_true] at h
  rcases h with h |h
  ·induction e using Expr.casesOn with
   |Name x pos=>exact⟨x,pos,.head _,b23 h⟩
   | _=>exact ftE h
  ·obtain ⟨x,pos,h1,h2⟩:=aY0 h
   exact⟨x,pos,.tail _ h1,h2⟩
theorem bl8 {i:FI} {L f:Addr} {elts vs:List Expr} {n m:Nat} {tpos vpos:Pos} (h:swN i elts=true):swappedStores [.Tuple elts n tpos] (.Tuple vs m vpos) (ac9 i.qual i.scope L f i.cd)=pure none:=by
 obtain⟨x,pos,hm,hk⟩:=aY0 h
 have hk:(ac9 i.qual i.scope L f i.cd).kindOf x=some .cell:=hk
 have lt:=bp5 (λ
  | .Name id pos=>if (ac9 i.qual i.scope L f i.cd).kindOf id==some .local&&pos.line==(elts.head?.map (·.pos.line)).getD 0 then some id else none
  | _=>none:Expr->Option Str) (l:=elts) ⟨_,hm,if_neg (by rw[hk];exact Bool.false_ne_true)⟩
 have ne:((elts.filterMap λ
  | .Name id pos=>if (ac9 i.qual i.scope L f i.cd).kindOf id==some .local&&pos.line==(elts.head?.map (·.pos.line)).getD 0 then some id else none
  | _=>none).length !=elts.length)=true:=by
  simp only[bne_iff_ne,ne_eq]
  lia
 exact it3 (Bool.or_eq_true_iff.mpr (.inl ne))
theorem it5 {α:Type} {a b c d e:Prop} [Decidable a] [Decidable b] [Decidable c] [Decidable d] [Decidable e] {x y z:α} (ha:¬ a) (hb:¬ b) (hc:¬ c) (hd:¬ d) (he:¬ e):(if a then x else if b then x else if c then x else if d then x else if e then z else y)=y:=by
 rw[if_neg ha,if_neg hb,if_neg hc,if_neg hd,if_neg he]
theorem fm2 {f:Expr->Option Str} {e1 e2:Expr} {x y:Str} (h1:f e1=some x) (h2:f e2=some y):[e1,e2].filterMap f=[x,y]:=by
 rw[List.filterMap_cons,h1,List.filterMap_cons,h2];rfl
theorem nd2 {x y:Str} (h:(y==x)=false) {l:List Str} (e:l=[x,y]):¬ ((l.length !=2||l.eraseDups.length !=l.length)=true):=by
 subst e
 simp [List.eraseDups,List.eraseDupsBy,List.eraseDupsBy.loop,h]
theorem anyS {f:Expr->Bool} (hf:∀e,noStar [e]=true->f e=false):∀{vs:List Expr},noStar vs=true->vs.any f=false
 |[],U=>rfl
 |e::es,h=>by rw[List.any_cons,hf e (a46 h).1,anyS hf (a46 h).2];rfl
theorem sw_of {i:FI} {L f:Addr} {x y:Str} {p1 p2 tpos vpos:Pos} {n m:Nat} {vs:List Expr} (h:swB i x y p1 p2 vs=true):
  swappedStores [.Tuple [.Name x p1,.Name y p2] n tpos] (.Tuple vs m vpos) (ac9 i.qual i.scope L f i.cd)=pure (some [x,y]):=by
 unfold swB at h
 simp only[Bool.and_eq_true,Bool.not_eq_true',beq_iff_eq,au1] at h
 obtain⟨⟨⟨⟨⟨⟨⟨⟨h1,h2⟩,h3⟩,h4⟩,h5⟩,h6⟩,h7⟩,h8⟩,h9⟩:=h
 have k1:(ac9 i.qual i.scope L f i.cd).kindOf x=some .local:=(av5 h3).2
 have k2:(ac9 i.qual i.scope L f i.cd).kindOf y=some .local:=(av5 h4).2
 have k3:(ac9 i.qual i.scope L f i.cd).blockKind= .function:=by
  unfold Env.blockKind
  rw[show (ac9 i.qual i.scope L f i.cd).scope.kind= .function from h9];rfl
 have hyx':(y==x)=false:=by simpa using Ne.symm (show x≠y by simpa using h6)
 have F1:((ac9 i.qual i.scope L f i.cd).kindOf x==some .local&&p1.line==p1.line)=true:=by rw[k1,beq_self_eq_true p1.line];rfl
 have F2:((ac9 i.qual i.scope L f i.cd).kindOf y==some .local&&p2.line==p1.line)=true:=by rw[k2,h5,beq_self_eq_true p1.line];rfl
 refine (it5 ?_ ?_ (nd2 hyx' (fm2 (if_pos F1) (if_pos F2))) ?_ ?_).trans (congrArg (λl=>pure (some l)) (fm2 (if_pos F1) (if_pos F2)))
 ·rw [k3,h1];exact Bool.false_ne_true
 ·rw [anyS (λe he=>by induction e using Expr.casesOn<;>first |rfl |cases he) h2];exact Bool.false_ne_true
 ·rw [h7];exact Bool.false_ne_true
 ·rw [h8];exact Bool.false_ne_true
theorem bi4:∀p∈btab,bootBuiltins p.1=some p.2/\(p.1==("__name__":Str))=false:=λp h=>
 ⟨bg0 (f:=λp:Str × Value=>bootBuiltins p.1) (g:=λp=>some p.2) (by kernel_rfl!) p h,Bool.not_eq_true' _▸List.all_eq_true.mp (show btab.all (λp=>!(p.1==("__name__":Str)))=true by kernel_rfl!) p h⟩
theorem b88 {K:Frag} (G:KOk K) {a:Addr} (h:bg6 a=true):keepIn K (.ref a)=true:=by
 unfold bg6 at h
 rw[Bool.or_eq_true,List.any_eq_true,List.any_eq_true] at h
 rcases h with⟨p,hp,e⟩|⟨p,hp,e⟩
 ·obtain ⟨j,hj⟩:=List.getElem?_of_mem hp
  have:=(G.fn j p hj).keep
  rwa [beq_iff_eq.mp e] at this
 ·obtain ⟨j,hj⟩:=List.getElem?_of_mem hp
  have:=(G.cl j p hj).keep
  rwa [beq_iff_eq.mp e] at this
end
section
section
variable {w:World} {z:Z} {b:Heap} {K:Frag} {i:FI} {c:Cx} {g:Bas} {fp:FP} {r:Ct->List Fr->Loc->Prop} {st:Prop} {k:List Fr} {l:Loc}
theorem bt {P Q R:Prop} {c:Bool} (H:aM8 c P Q) (f:c=true->P->R) (g:c=false->Q->R):R:=by
 induction c using Bool.casesOn
 ·exact g rfl H
 ·exact f rfl H
theorem ot {α:Type} {P:α->Prop} {Q R:Prop} {c:Option α} (H:aW0 c P Q) (f:∀v,c=some v->P v->R) (g:Q->R):R:=by
 induction c using Option.casesOn
 ·exact g H
 ·exact f _ rfl H
theorem bf4 (X:a01 w K b) (G:KOk K) (hr:∀ct k l,r ct k l->am5 w z K b i c g fp ct k l) {x:Str} {pos:Pos} (hs:st->am5 w z K b i c g fp (.ev (.Name x pos)) k l) (H:bn8 i r st x k l):am5 w z K b i c g fp (.ev (.Name x pos)) k l:=by
 refine bt H (λU H=>hs H) λhd H=>?_
 rw[au1] at hd
 refine ot H (λy hk H=>?_) hs
 obtain⟨h1,h2⟩:=av5 (L:=c.L) (f:=c.f) hk
 induction y using NameKind.casesOn with
 |«local»=>exact ot H (λv hv H h t S=>bb7 S (a16 ((av3 _ _).symm.trans hv)) ((av3 _ _).symm.trans hv) (hr _ _ _ H h t S) h1 h2 hd) hs
 |globalImplicit=>
  refine ot H (λv hv H=>?_) hs
  obtain⟨j,hj⟩:=b93 hv
  induction v using Option.casesOn with
  |some v=>exact λh t S=>b14 S X (G.gl j _ hj) (hr _ _ _ H h t S) h1 h2 hd
  |none=>
   have H:aW0 (lk x btab) (λv=>r (.an (.v v)) k l) st:=H
   refine ot H (λv hb H=>?_) hs
   obtain⟨e1,e2⟩:=bi4 _ (a16 ((av3 _ _).symm.trans hb))
   exact λh t S=>bn9 _ S X (G.gl j _ hj) e1 rfl (hr _ _ _ H h t S) e2 h1 h2 hd
 | _=>exact hs H
theorem b42 (X:a01 w K b) (G:KOk K) (hr:∀ct k l,r ct k l->am5 w z K b i c g fp ct k l) {pos:Pos} {f:Value} {first:List Value} {args:List Expr}
  (hs:st->∀h t,St w.params b g c.L l fp h->wp1 w c (eO w i c k) (callWith pos f first (backTo pos (starEach args (c.env i))) []) (λx=>den w z K i c k (.v x)) (sh z h t)) (H:bi3 r st pos f first args k l):
  ∀h t,St w.params b g c.L l fp h->wp1 w c (eO w i c k) (callWith pos f first (backTo pos (starEach args (c.env i))) []) (λx=>den w z K i c k (.v x)) (sh z h t):=by
 refine bt H (λhst H=>?_) λU H=>hs H
 have fc:∀vs,bj6 first vs=first++vs:=b31 first
 induction f using Value.casesOn with
 |builtin id=>induction args using List.casesOn with
  |nil=>exact λh t S=>callWith_method0 (hr _ _ _ H h t S)
  |cons e es=>
   obtain⟨a1,a2⟩:=a46 hst
   exact λh t S=>callWith_method1 (wpAny_mono (hr _ _ _ H h t S) (λvs s q=>fc vs▸q) λU V q=>q) (a88 a1) (an3 a2)
 |ref a=>
  refine bt H (λhk H=>?_) λU H=>hs H
  have hk:=b88 G hk
  induction args using List.casesOn with
  |nil=>exact λh t S=>callWith_K0 (S.kin X) hk (by rw[List.append_nil];exact hr _ _ _ H h t S)
  |cons e es=>
   obtain⟨a1,a2⟩:=a46 hst
   exact λh t S=>callWith_K X.kin hk (wpAny_mono (hr _ _ _ H h t S) (λvs s q=>fc vs▸q) λU V q=>q) (a88 a1) (an3 a2)
 |type T=>induction first using List.casesOn with
  |cons=>exact hs H
  |nil=>induction args using List.casesOn with
   |nil=>exact hs H
   |cons e es=>
    obtain⟨a1,a2⟩:=a46 hst
    exact λh t S=>PySem.Pv.callWith_type1 (hr _ _ _ H h t S) (a88 a1) (an3 a2)
 | _=>exact hs H
theorem ev_ok (X:a01 w K b) (G:KOk K) (hr:∀ct k l,r ct k l->am5 w z K b i c g fp ct k l) {e:Expr} (hs:st->am5 w z K b i c g fp (.ev e) k l) (H:evS i r st e k l):am5 w z K b i c g fp (.ev e) k l:=by
 induction e using Expr.casesOn with
 |Name x pos=>exact bf4 X G hr hs H
 |Constant cc n pos=>induction cc using Const.casesOn with
  |str x=>exact λh t S=>aZ5 λtk=>hr _ _ _ (H tk) h _ S
  |int x=>exact λh t S=>r_int λtk=>hr _ _ _ (H tk) h _ S
  |none=>exact λh t S=>bk2 (hr _ _ _ H h t S)
  |bool x=>exact λh t S=>bk6 (hr _ _ _ H h t S)
  | _=>exact hs H
 |Attribute v n pos=>
  exact bt H (λhp H h t S=>Attribute_any_ (hr _ _ _ H h t S) (eAttr hp)) λU H=>hs H
 |Call f args kws pos=>
  induction kws using List.casesOn with
  |cons=>exact hs H
  |nil=>
   induction f using Expr.casesOn with
   |Attribute o n apos=>
    refine bt H (λhp H=>?_) λU H=>hs H
    rw[Bool.and_eq_true,Bool.and_eq_true,Bool.and_eq_true] at hp
    obtain⟨⟨⟨h1,h2⟩,h3⟩,h4⟩:=hp
    exact λh t S=>MethodCall_ (hr _ _ _ H h t S) (eMeth h1 h2 h3 h4)
   | _=>exact λh t S=>Call_ (hr _ _ _ H h t S)
 |Compare a ops bs pos=>
  induction ops using List.casesOn with
  |nil=>exact hs H
  |cons op ops=>induction ops using List.casesOn with
   |cons=>exact hs H
   |nil=>induction bs using List.casesOn with
    |nil=>exact hs H
    |cons e bs=>induction bs using List.casesOn with
     |cons=>exact hs H
     |nil=>exact bt H (λU H=>hs H) λhb H h t S=>wpAny_Compare1 (hr _ _ _ H h t S) hb
 |BinOp a op e pos=>exact λh t S=>wpAny_BinOp (hr _ _ _ H h t S)
 |IfExp a e o pos=>exact λh t S=>IfExp_ (hr _ _ _ H h t S)
 |Subscript v s pos=>exact λh t S=>Subscript_ (hr _ _ _ H h t S)
 |Tuple es n pos=>exact λh t S=>Tuple_ (hr _ _ _ H h t S)
 |List es pos=>exact λh t S=>List_ (hr _ _ _ H h t S)
 |BoolOp op es pos=>
  induction es using List.casesOn with
  |nil=>exact hs H
  |cons e es=>induction es using List.casesOn with
   |nil=>exact λh t S=>BoolOp_one (hr _ _ _ H h t S)
   |cons e2 es=>
    intro h t S
    have h1:=hr _ _ _ H h t S
    induction op using BoolOp.casesOn with
    |Or=>exact BoolOp_or h1
    |And=>exact BoolOp_and h1
 |UnaryOp op x pos=>exact λh t S=>wpAny_UnaryOp (hr _ _ _ H h t S)
 |JoinedStr vs pos=>
  induction vs using List.casesOn with
  |nil=>exact hs H
  |cons e1 vs=>induction vs using List.casesOn with
   |nil=>exact hs H
   |cons e2 vs=>exact λh t S=>JoinedStr_many (hr _ _ _ H h t S)
 |FormattedValue v cv spec pos=>
  refine bt H (λh1 H=>?_) λU H=>hs H
  induction spec using Option.casesOn with
  |some=>exact hs H
  |none=>
   intro h t S
   rw[eq_of_beq h1]
   exact FormattedValue_plain (hr _ _ _ H h t S)
 | _=>exact hs H
theorem ts_ok (hr:∀ct k l,r ct k l->am5 w z K b i c g fp ct k l) {e:Expr} (hs:st->am5 w z K b i c g fp (.ts e) k l) (H:tsS r st e k l):am5 w z K b i c g fp (.ts e) k l:=by
 induction e using Expr.casesOn with
 |UnaryOp op x pos=>induction op using UnaryOp.casesOn with
  |Not=>exact λh t S=>isTrue_not (hr _ _ _ H h t S)
  | _=>exact λh t S=>isTrue_plain (hr _ _ _ H h t S)
 |BoolOp op es pos=>induction op using BoolOp.casesOn with
  |And=>induction es using List.casesOn with
   |nil=>exact λh t S=>isTrue_and_nil (hr _ _ _ H h t S)
   |cons x es=>exact λh t S=>isTrue_and (hr _ _ _ H h t S)
  |Or=>induction es using List.casesOn with
   |nil=>exact λh t S=>isTrue_or_nil (hr _ _ _ H h t S)
   |cons x es=>exact λh t S=>isTrue_or (hr _ _ _ H h t S)
 |IfExp=>exact hs H
 |Compare a ops bs pos=>
  induction ops using List.casesOn with
  |nil=>exact hs H
  |cons op ops=>induction ops using List.casesOn with
   |cons=>exact hs H
   |nil=>induction bs using List.casesOn with
    |nil=>exact hs H
    |cons e bs=>induction bs using List.casesOn with
     |cons=>exact hs H
     |nil=>exact bt H (λU H=>hs H) λhb H h t S=>wpAny_isTrue_Compare1 (hr _ _ _ H h t S) hb
 | _=>exact λh t S=>isTrue_plain (hr _ _ _ H h t S)
theorem ot' {α:Type} {c:Option α} {p:α->Prop} {q R:Prop} (H:aW0 c p q) (f:∀x,c=some x->p x->R) (g:c=none->q->R):R:=by
 induction c using Option.casesOn with
 |none=>exact g rfl H
 |some x=>exact f x rfl H
theorem aX2 {v:Expr} {vs:List Expr} (h:tupE v=some vs):∃m p,v= .Tuple vs m p:=by
 induction v using Expr.casesOn with
 |Tuple vs m p=>cases h;exact⟨m,p,rfl⟩
 | _=>exact nsE h
theorem aX3 {v:Expr} (h:tupE v=none) (vs:List Expr) (m:Nat) (p:Pos) (e:v= .Tuple vs m p):False:=by
 subst e;cases h
theorem bb6 {e:Expr} {p:Str × Pos} (h:nm1 e=some p):e= .Name p.1 p.2:=by
 induction e using Expr.casesOn with
 |Name=>cases h;rfl
 | _=>exact nsE h
theorem bl4 {elts:List Expr} {x y:Str} {p1 p2:Pos} (h:two elts=some ((x,p1),(y,p2))):elts=[.Name x p1,.Name y p2]:=by
 rcases elts with _ |⟨a,_ |⟨b,_ |⟨c,r⟩⟩⟩
 ·cases h
 ·cases h
 ·have h:pr2 (nm1 a) (nm1 b)=_:=h
  cases ha:nm1 a with
  |none=>rw[ha] at h;cases h
  |some p=>
   cases hb:nm1 b with
   |none=>rw[ha,hb] at h;cases h
   |some q=>rw[ha,hb] at h;cases h;rw[bb6 ha,bb6 hb]
 ·cases h
theorem x_ok (hr:∀ct k l,r ct k l->am5 w z K b i c g fp ct k l) {s:Stmt} (hs:st->am5 w z K b i c g fp (.x s) k l) (H:xS i r st s k l):am5 w z K b i c g fp (.x s) k l:=by
 induction s using Stmt.casesOn with
 |Assign ts v pos=>
  induction ts using List.casesOn with
  |nil=>exact hs H
  |cons t0 ts=>induction ts using List.casesOn with
   |cons=>exact hs H
   |nil=>
    refine bt H (λU H=>hs H) λhc H=>?_
    induction t0 using Expr.casesOn with
    |Name x p=>exact λh t S=>wpAny_Assign_Name (hr _ _ _ H h t S) (an1 hc)
    |Attribute o n p=>exact λh t S=>plainObj_wpAny_Assign_Attribute (hr _ _ _ H h t S) (an1 hc)
    |Subscript o e p=>exact λh t S=>wpAny_Assign_Subscript (hr _ _ _ H h t S) (an1 hc)
    |Tuple elts n p=>
     refine ot' H (λvs hv H=>?_) λhn H h t S=>Assign_Tuple (hr _ _ _ H h t S) (at7 hc) (bl6 (aX3 hn))
     obtain⟨m,p',rfl⟩:=aX2 hv
     refine bt H (λhf H h t S=>?_) λU H=>ot H (λq hq H=>?_) hs
     ·refine Assign_Tuple (hr _ _ _ H h t S) (at7 hc) ?_
      rcases Bool.or_eq_true_iff.mp hf with hf |hf
      ·exact bl7 hf
      ·exact bl8 hf
     ·obtain ⟨⟨x,p1⟩,⟨y,p2⟩⟩:=q
      refine bt H (λhw H2 h t S=>?_) λU H=>hs H
      obtain rfl:=bl4 hq
      exact Assign_Tuple_swapped (names:=[x,y]) (hr _ _ _ H2 h t S) (at7 hc) (sw_of hw)
    | _=>exact hs H
 |Expr e pos=>
  refine bt H (λU H=>hs H) λh1 H=>?_
  rw[Bool.or_eq_false_iff,Bool.not_eq_false'] at h1
  intro h t S
  refine wpAny_Expr_any (hr _ _ _ H h t S) ?_ (an1 h1.1)
  show ((i.scope.kind==ScopeKind.module)&&_)=false
  rw[eq_of_beq h1.2];rfl
 |If a e o pos=>exact λh t S=>wpAny_If (hr _ _ _ H h t S)
 |Return e pos=>induction e using Option.casesOn with
  |some e=>exact λh t S=>wpAny_Return_some (hr _ _ _ H h t S)
  |none=>exact λh t S=>wpAny_Return_none (hr _ _ _ H h t S)
 |For t0 it e o pos=>
  induction o using List.casesOn with
  |cons=>exact hs H
  |nil=>exact bt H (λU H=>hs H) λhq H h t S=>s_for (hr _ _ _ H h t S) (b27 hq)
 |Continue pos=>exact λh t S=>wpAny_Continue (hr _ _ _ H h t S)
 |Break pos=>exact λh t S=>wpAny_Break (hr _ _ _ H h t S)
 |Pass pos=>exact λh t S=>wpAny_Pass (hr _ _ _ H h t S)
 | _=>exact hs H
theorem bd9 {M:Model} {A:Around} {E:Value->Shared->Prop} {s:Shared} {y:Str} {u:Tok} {pl:Sem Bool} {Q:Value × List Value->Shared->Prop}:∀p∈strM,Q (.builtin p.2,[.str y u]) s->wpAny M A (getMethod (.str y u) p.1 pl) Q E s:=by
 intro p hp q
 simp only[strM,List.mem_cons,List.not_mem_nil,or_false] at hp
 rcases hp with rfl |rfl |rfl |rfl |rfl
 ·exact GM.join q
 ·exact GM.find q
 ·exact GM.lower q
 ·exact GM.rstrip q
 ·exact GM.index q
theorem b08 {x:Value} {P Q R:Prop} (H:nonC x P Q) (f:x= .none->P->R) (g:Q->R):R:=by
 induction x using Value.casesOn with
 |none=>exact f rfl H
 | _=>exact g H
theorem ap7 {x a:Value} {P:Int->Int->Prop} {Q R:Prop} (H:bh0 x a P Q) (f:∀y u n t,x= .int y u->a= .int n t->P y n->R) (g:Q->R):R:=by
 induction x using Value.casesOn with
 |int y u=>induction a using Value.casesOn with
  |int n t=>exact f _ _ _ _ rfl rfl H
  | _=>exact g H
 | _=>exact g H
theorem aA1 {x a:Value} {P:Str->Str->Prop} {Q R:Prop} (H:bl9 x a P Q) (f:∀y u n t,x= .str y u->a= .str n t->P y n->R) (g:Q->R):R:=by
 induction x using Value.casesOn with
 |str y u=>induction a using Value.casesOn with
  |str n t=>exact f _ _ _ _ rfl rfl H
  | _=>exact g H
 | _=>exact g H
theorem bq8 (hr:∀ct k l,r ct k l->am5 w z K b i c g fp ct k l) {op:CmpOp} {a x:Value} (hs:st->am5 w z K b i c g fp (.an (.v x)) (.cm2 op a::k) l) (H:cmpS r st op a x k l):am5 w z K b i c g fp (.an (.v x)) (.cm2 op a::k) l:=by
 induction op using CmpOp.casesOn with
 |Is=>exact b08 H (λe H=>e▸λh t S=>aW4 (hr _ _ _ H h t S)) hs
 |IsNot=>exact b08 H (λe H=>e▸λh t S=>aE0 (hr _ _ _ H h t S)) hs
 |Lt=>exact ap7 H (λy u n t e1 e2 H=>e1▸e2▸λh t S=>x_lt (hr _ _ _ H h t S)) hs
 |Gt=>exact ap7 H (λy u n t e1 e2 H=>e1▸e2▸λh t S=>x_gt (hr _ _ _ H h t S)) hs
 |LtE=>exact ap7 H (λy u n t e1 e2 H=>e1▸e2▸λh t S=>x_le (hr _ _ _ H h t S)) hs
 |GtE=>exact ap7 H (λy u n t e1 e2 H=>e1▸e2▸λh t S=>x_ge (hr _ _ _ H h t S)) hs
 |Eq=>exact ap7 H (λy u n t e1 e2 H=>e1▸e2▸λh t S=>b62 (hr _ _ _ H h t S)) λH=>aA1 H (λy u n t e1 e2 H=>e1▸e2▸λh t S=>b61 (hr _ _ _ H h t S)) hs
 |NotEq=>exact ap7 H (λy u n t e1 e2 H=>e1▸e2▸λh t S=>b58 (hr _ _ _ H h t S)) λH=>aA1 H (λy u n t e1 e2 H=>e1▸e2▸λh t S=>b57 (hr _ _ _ H h t S)) hs
 |In=>exact aA1 H (λy u n t e1 e2 H=>e1▸e2▸λh t S=>b60 (hr _ _ _ H h t S)) hs
 |NotIn=>exact aA1 H (λy u n t e1 e2 H=>e1▸e2▸λh t S=>aJ5 (hr _ _ _ H h t S)) hs
theorem v_ok (X:a01 w K b) (G:KOk K) (hr:∀ct k l,r ct k l->am5 w z K b i c g fp ct k l) {f:Fr} {x:Value} (hs:st->am5 w z K b i c g fp (.an (.v x)) (f::k) l) (H:vS i r st f x k l):am5 w z K b i c g fp (.an (.v x)) (f::k) l:=by
 induction f using Fr.casesOn with
 |gm o n=>
  induction x using Value.casesOn with
  |str y u=>exact ot H (λid hq H h t S=>by
    have q:=hr _ _ _ H h t S
    exact bd9 (Q:=λx=>den w z K i c k (.m x.1 x.2)) (n,id) (a16 ((av3 _ _).symm.trans hq)) q) hs
  | _=>exact hs H
 |cf pos args=>exact b42 X G hr hs H
 |cm1 op e=>exact (by have q:=hr _ _ _ H;exact q)
 |cm2 op a=>exact bq8 hr hs H
 |bi1 op e=>exact (by have q:=hr _ _ _ H;exact q)
 |bi2 op a=>
  induction op using Operator.casesOn with
  |Add=>induction x using Value.casesOn with
   |int=>induction a using Value.casesOn with
    |int=>exact λh t S=>x_add λtk=>hr _ _ _ (H tk) h _ S
    | _=>exact hs H
   | _=>exact hs H
  |Sub=>induction x using Value.casesOn with
   |int=>induction a using Value.casesOn with
    |int=>exact λh t S=>x_sub λtk=>hr _ _ _ (H tk) h _ S
    | _=>exact hs H
   | _=>exact hs H
  | _=>exact hs H
 |sb1 v s=>
  induction s using Expr.casesOn with
  |Slice lo hi stp pos=>
   induction stp using Option.casesOn with
   |some=>exact hs H
   |none=>induction lo using Option.casesOn with
    |some e=>induction hi using Option.casesOn with
     |some e'=>exact λh t S=>aU3 (hr _ _ _ H h t S)
     |none=>exact λh t S=>aU4 (hr _ _ _ H h t S)
    |none=>induction hi using Option.casesOn with
     |some e'=>exact λh t S=>az3 (hr _ _ _ H h t S)
     |none=>exact hs H
  | _=>exact (by have q:=hr _ _ _ H;exact q)
 |sl1 v s o hi=>
  induction hi using Option.casesOn with
  |some e=>exact (by have q:=hr _ _ _ H;exact q)
  |none=>exact hs H
 |sp1 pos es=>exact (by have q:=hr _ _ _ H;exact q)
 |bo op es pos=>exact (by have q:=hr _ _ _ H;exact q)
 |tr=>
  induction x using Value.casesOn with
  |bool=>exact λh t S=>am7 (hr _ _ _ H h t S)
  | _=>exact hs H
 |un op=>
  induction op using UnaryOp.casesOn with
  |USub=>induction x using Value.casesOn with
   |int=>exact λh t S=>x_neg λtk=>hr _ _ _ (H tk) h _ S
   | _=>exact hs H
  | _=>exact hs H
 |sto y=>
  refine ot H (λq hk H=>?_) hs
  induction q using NameKind.casesOn with
  |«local»=>
   obtain⟨h1,h2⟩:=av5 (L:=c.L) (f:=c.f) hk
   exact λh t S=>aB5 S (λh' S'=>hr _ _ _ H h' _ S') h1 h2
  | _=>exact hs H
 |sa1 o n=>exact (by have q:=hr _ _ _ H;exact q)
 |ss1 o e=>exact (by have q:=hr _ _ _ H;exact q)
 |ss2 e y=>exact (by have q:=hr _ _ _ H;exact q)
 |drop=>exact (by have q:=hr _ _ _ H;exact q)
 |retv=>exact (by have q:=hr _ _ _ H;exact q)
 | _=>exact hs H
theorem an_ok (X:a01 w K b) (G:KOk K) (hr:∀ct k l,r ct k l->am5 w z K b i c g fp ct k l) {a:Ans} (hs:st->am5 w z K b i c g fp (.an a) k l) (H:anS i r st a k l):am5 w z K b i c g fp (.an a) k l:=by
 induction k using List.casesOn with
 |nil=>exact hs H
 |cons f k=>
  induction a using Ans.casesOn with
  |v x=>exact v_ok X G hr hs H
  |vs xs=>
   induction f using Fr.casesOn with
   |cl g' first=>induction first using List.casesOn with
    |nil=>exact (by have q:=hr _ _ _ H;exact q)
    |cons y ys=>induction ys using List.casesOn with
     |nil=>exact (by have q:=hr _ _ _ H;exact q)
     |cons=>exact hs H
   |cr g' first=>induction first using List.casesOn with
    |nil=>exact λh t S=>⟨S.kin X,hr _ _ _ H h t S⟩
    |cons y ys=>induction ys using List.casesOn with
     |nil=>exact λh t S=>⟨S.kin X,hr _ _ _ H h t S⟩
     |cons=>exact hs H
   |cons x=>exact (by have q:=hr _ _ _ H;exact q)
   | _=>exact hs H
  |m g' first=>
   induction f using Fr.casesOn with
   |ca pos args=>exact b42 X G hr hs H
   | _=>exact hs H
  |b x=>
   induction f using Fr.casesOn with
   |tnot=>exact (by have q:=hr _ _ _ H;exact q)
   | _=>exact hs H
  |fl g'=>
   induction f using Fr.casesOn with
   |sq rest=>induction g' using Flow.casesOn<;>exact (by have q:=hr _ _ _ H;exact q)
   |lp J=>
    induction g' using Flow.casesOn with
    |next=>exact hs H
    |cont=>exact (by have q:=hr _ _ _ H;exact q)
    |brk=>exact (by have q:=hr _ _ _ H;exact q)
    |ret v=>exact (by have q:=hr _ _ _ H;exact q)
   |sv y0 x0=>
    induction g' using Flow.casesOn with
    |next=>exact (by have q:=hr _ _ _ H;exact q)
    | _=>exact hs H
   |lw t0 b0=>
    induction g' using Flow.casesOn with
    |next=>exact hs H
    |cont=>exact (by have q:=hr _ _ _ H;exact q)
    |brk=>exact (by have q:=hr _ _ _ H;exact q)
    |ret v=>exact (by have q:=hr _ _ _ H;exact q)
   | _=>exact hs H
theorem b_ok (hr:∀ct k l,r ct k l->am5 w z K b i c g fp ct k l) {f:Fr} {x:Bool} (hs:st->am5 w z K b i c g fp (.bl x) (f::k) l) (H:bS r st f x k l):am5 w z K b i c g fp (.bl x) (f::k) l:=by
 induction f using Fr.casesOn with
 |ifs b' o=>induction x using Bool.casesOn<;>(have q:=hr _ _ _ H;exact q)
 |ifx b' o=>induction x using Bool.casesOn<;>(have q:=hr _ _ _ H;exact q)
 |tand es pos=>induction x using Bool.casesOn<;>(have q:=hr _ _ _ H;exact q)
 |tor es pos=>induction x using Bool.casesOn<;>(have q:=hr _ _ _ H;exact q)
 |bo2 op v es pos=>induction op using BoolOp.casesOn<;>induction x using Bool.casesOn<;>(have q:=hr _ _ _ H;exact q)
 |wh b'=>induction x using Bool.casesOn<;>(have q:=hr _ _ _ H;exact q)
 |tnot=>exact (by have q:=hr _ _ _ H;exact q)
 | _=>exact hs H
theorem aY1 (X:a01 w K b) (G:KOk K) (hr:∀ct k l,r ct k l->am5 w z K b i c g fp ct k l) {ct:Ct} (hs:st->am5 w z K b i c g fp ct k l) (H:stp i r st ct k l):am5 w z K b i c g fp ct k l:=by
 induction ct using Ct.casesOn with
 |an a=>exact an_ok X G hr hs H
 |ev e=>exact ev_ok X G hr hs H
 |ts e=>exact ts_ok hr hs H
 |xs ss=>
  induction ss using List.casesOn with
  |nil=>exact λh t S=>wpAny_execs_nil (hr _ _ _ H h t S)
  |cons s rest=>exact λh t S=>wpAny_execs_cons (wpAny_mono (hr _ _ _ H h t S) (λf s q=>by induction f using Flow.casesOn<;>exact q) λU V q=>q)
 |x s=>exact x_ok hr hs H
 |sp pos es=>
  induction es using List.casesOn with
  |nil=>exact λh t S=>spliced_none (hr _ _ _ H h t S)
  |cons e es=>
   exact bt H (λhq H h t S=>spliced_more (hr _ _ _ H h t S) (a88 hq)) λU H=>hs H
 |jn out es=>
  induction es using List.casesOn with
  |nil=>exact hs H
  |cons e es=>
   intro h t S
   refine joinParts_cons (wpAny_mono (hr _ _ _ H h t S) (λv s q=>?_) λU V q=>q)
   induction v using Value.casesOn<;>exact q
 |cl f xs=>exact hs H
 |bl x=>
  induction k using List.casesOn with
  |nil=>exact hs H
  |cons f k=>exact b_ok hr hs H
theorem bm0 {ct:Ct} (H:bj1 w z K b i c g fp ct k l):am5 w z K b i c g fp ct k l:=by induction ct using Ct.casesOn<;>exact H
theorem a44 (X:a01 w K b) (G:KOk K):∀(n:Nat) (ct:Ct) (k:List Fr) (l:Loc),Run w z K b i c g fp n ct k l->am5 w z K b i c g fp ct k l
 |0,U,V,U1,H=>bm0 H
 |n+1,ct,k,l,H=>aY1 X G (a44 X G n) bm0 H
end
end
section
section
variable {w:World} {K:Frag} {A:Around} {z:Z} {b h:Heap} {g:Bas} {t n m:Nat} {f:Addr} {fp:FP} {i:FI} {c:Cx} {k:List Fr} {l:Loc} {a:Ans} {ct:Ct}
structure Rm (A:Around) (n:Nat):Prop where
 of:∀m,m<n->a04 A m
theorem Rm.deeper (r:Rm A n) (h:m<n):a04 A m:=r.of m h
theorem go (n:Nat) (X:a01 w K b) (G:KOk K) (S:St w.params b g c.L l fp h) (H:stp i (Run w z K b i c g fp n) False ct k l):Dn w z K i c ct k (sh z h t):=aY1 X G (a44 X G n) (λq=>q.elim) H h t S
theorem goA (n:Nat) (X:a01 w K b) (G:KOk K) (S:St w.params b g c.L l fp h) (H:anS i (Run w z K b i c g fp n) False a k l):den w z K i c k a (sh z h t):=go (ct:=.an a) n X G S H
theorem goJ {out:Str} {es:List Expr} (n:Nat) (X:a01 w K b) (G:KOk K) (S:St w.params b g c.L l fp h) (H:Run w z K b i c g fp n (.jn out es) k l):
  wpAny (model pw w) c.A (joinParts out (evalEach es (c.env i))) (λx=>den w z K i c k (.v x)) (eO w i c k) (sh z h t):=a44 X G n (.jn out es) k l H h t S
theorem goR {e:Expr} {P E:Value->Shared->Prop} (n:Nat) (X:a01 w K b) (G:KOk K) (S:St w.params b g c.L l fp h) (H:Run w z K b i c g fp n (.ev e) [.raw P E] l):
  wpAny (model pw w) c.A (eval e (c.env i)) P E (sh z h t):=a44 X G n (.ev e) [.raw P E] l H h t S
theorem goF {ss:List Stmt} {P:Flow->Shared->Prop} {E:Value->Shared->Prop} (n:Nat) (X:a01 w K b) (G:KOk K) (S:St w.params b g c.L l fp h) (H:Run w z K b i c g fp n (.xs ss) [.rawF P E] l):
  wpAny (model pw w) c.A (execs ss (c.env i)) P E (sh z h t):=a44 X G n (.xs ss) [.rawF P E] l H h t S
theorem az7:∀(names:List (Str × NameKind)) (n:Nat) (acc:List (Str × Addr)),(names.all λx=>x.2 != .cell)=true->cellsFrom n names acc=acc
 |[],U,V,U1=>rfl
 |(x,kd)::r,n,acc,hc=>by
  rw[List.all_cons,Bool.and_eq_true] at hc
  have:(kd==NameKind.cell)=false:=by simpa using hc.1
  rw[cellsFrom,this]
  exact az7 r n acc hc.2
theorem b34 {q:Str} {sc:Scope} {L f:Addr} {cd:Value} (hc:(sc.names.all λx=>x.2 != .cell)=true):envOf q sc L f cd=ac9 q sc L f cd:=by
 have:ac9 q sc L f cd={scope:=sc,locals:=L,globals:=mainGlobals,cells:=cellsFrom (L+1) sc.names [],qual:=q++".<locals>.",func:=some f,code:=cd,frame:=some L,builtins:=builtinsNs}:=rfl
 rw[this,az7 _ _ _ hc]
 rfl
structure Rt (z:Z) (P:Value->Heap->Prop) (c:Cx):Prop where
 s:∀{v:Value} {h:Heap} {t:Nat},P v h->c.R (.ret v) (sh z h t)
 n:∀{h:Heap} {t:Nat},P .none h->c.R .next (sh z h t)
noncomputable def enB (i:FI) (binds:List (Str × Value)):Bool:=(binds.all λx=>decide (i.scope.names.lookup x.1=some .local))&&((i.scope.names.all λx=>x.2 != .cell)&&(!i.scope.isCoroutine&&(!i.scope.isGenerator&&i.scope.kind== .function)))
theorem b35 {binds:List (Str × Value)} (e:enB i binds=true):A5 ((binds.all λx=>decide (i.scope.names.lookup x.1=some .local))=true) ((i.scope.names.all λx=>x.2 != .cell)=true) (i.scope.isCoroutine=false) (i.scope.isGenerator=false) (i.scope.kind= .function):=by
 unfold enB at e
 rw[Bool.and_eq_true,Bool.and_eq_true,Bool.and_eq_true,Bool.and_eq_true,Bool.not_eq_true',Bool.not_eq_true'] at e
 exact⟨e.1,e.2.1,e.2.2.1,e.2.2.2.1,eq_of_beq e.2.2.2.2⟩
theorem en {args:List Value} {binds:List (Str × Value)} {Post:Value->Heap->Prop} (F:a31 K f i) (X:a01 w K b) (T:Sit w.params b g fp h) (room:a04 A n)
  (k:∀c:Cx,c.A.handled=A.handled->Rm c.A n->let P:=Post;Rt z P c->∀h₁ t₁,St w.params b g c.L binds.reverse fp h₁->Dn w z K i c (.xs i.body) [] (sh z h₁ t₁))
  (hbind:BindsTo (sh z h t) i.fd ⟨args,[]⟩ binds:=by exact BindsTo.of_eq (by kernel_rfl)) (hen:enB i binds=true:=by kernel_rfl):a07 w A z (.ref f) args h t Post:=by
 obtain⟨hloc,hcell,hco,hgen,hk⟩:=b35 hen
 refine aG9 F X T room.here hbind hloc (λL h₁ S=>?_) hcell hco hgen hk
 rw[b34 hcell]
 exact k ⟨A.deeper (ac9 i.qual i.scope L f i.cd),L,f,NoE,bj3 z Post⟩ rfl ⟨λm hm=>room.deeper hm⟩ ⟨λp=>aA4 p,λp=>aA5 p⟩ h₁ _ S
noncomputable def clsB (C:Addr) (n:Str):Bool:=ctab.any λp=>p.1==C&&p.2.1.any λy=>seq y n
theorem b41 (G:KOk K) {C:Addr} {n:Str} (e:clsB C n=true):∃names,aM7 K C names=true/\names.contains n=true:=by
 obtain⟨p,hp,e⟩:=List.any_eq_true.mp e
 rw[Bool.and_eq_true] at e
 obtain⟨j,hj⟩:=List.getElem?_of_mem hp
 have:=(G.cl j p hj).cls
 rw[beq_iff_eq.mp e.1] at this
 obtain⟨y,h1,h2⟩:=List.any_eq_true.mp e.2
 rw[au1] at h2
 exact⟨_,this,List.contains_iff_mem.mpr (eq_of_beq h2▸h1)⟩
noncomputable def getI (C:Addr) (al:List (Str × Value)) (n:Str):Option Value:=match clsB C n with
 |true=>lk n al
 |false=>none
noncomputable def atB (fp:FP) (j:Nat):Option Addr:=match fp[j]?with
 |some (x,U)=>some x
 |none=>none
noncomputable def getB (fp:FP) (j:Nat) (n:Str):Option Value:=match fp[j]?with
 |some (U,.inst C V al)=>getI C al n
 | _=>none
theorem ba4 {fp:FP} {j:Nat} {x y:Addr} {o:AO} (e:atB fp j=some x) (h:fp[j]?=some (y,o)):y=x:=by
 unfold atB at e
 rw[h] at e
 exact Option.some.inj e
theorem bb9 (nf:Nat) {x C:Addr} {al:List (Str × Value)} {n:Str} {v:Value} (X:a01 w K b) (G:KOk K) (S:St w.params b g c.L l fp h) (I:am6 h x C al) (e:getI C al n=some v) (hv:handedIn v=true) (H:Run w z K b i c g fp nf (.an (.v v)) k l):
  den w z K i c (.attr n::k) (.v (.ref x)) (sh z h t):=by
 unfold getI at e
 split at e
 next hc=>
  rw[av3] at e
  obtain⟨names,h1,h2⟩:=b41 G hc
  exact r_get S X I h1 h2 e hv (a44 X G nf _ k l H h _ S)
 ·cases e
set_option tactic.hygienic true in
theorem m_get (nf j:Nat) {x:Addr} {n:Str} {v:Value} (X:a01 w K b) (G:KOk K) (S:St w.params b g c.L l fp h) (e0:atB fp j=some x) (e:getB fp j n=some v) (hv:handedIn v=true) (H:Run w z K b i c g fp nf (.an (.v v)) k l):
  den w z K i c (.attr n::k) (.v (.ref x)) (sh z h t):=by
 unfold getB at e
 split at e
 next x' C dx al hj=>
  obtain rfl:=ba4 e0 hj
  exact bb9 nf X G S (S.inst j hj) e hv H
 ·cases e
noncomputable def bf7 (C:Addr) (al:List (Str × Value)) (n:Str):Option Addr:=match (lk n al).isNone&&ctab.any λp=>p.1==C with
 |true=>(match mtab.find? λp=>p.1==C&&seq p.2.1 n with
  |some p=>(match ftab.any λq=>q.1==p.2.2 with
   |true=>some p.2.2
   |false=>none)
  |none=>none)
 |false=>none
noncomputable def bg3:List (Str × String):=[("append","list.append"),("extend","list.extend"),("pop","list.pop")]
noncomputable def bf8 (fp:FP) (j:Nat) (n:Str):Option Value:=match fp[j]?with
 |some (U,.inst C V al)=>(match bf7 C al n with
  |some f=>some (.ref f)
  |none=>none)
 |some (U,.list V)=>(match lk n bg3 with
  |some id=>some (.builtin id)
  |none=>none)
 | _=>none
theorem lm_ok {A:Around} {E:Value->Shared->Prop} {L:Addr} {a:Addr} {vs:List Value} {pl:Sem Bool} {Q:Value × List Value->Shared->Prop} (j:Nat) (S:St w.params b g L l fp h) (e:fp[j]?=some (a,.list vs)):
  ∀p∈bg3,Q (.builtin p.2,[.ref a]) (sh z h t)->wpAny (model pw w) A (getMethod (.ref a) p.1 pl) Q E (sh z h t):=by
 intro p hp q
 simp only[bg3,List.mem_cons,List.not_mem_nil,or_false] at hp
 rcases hp with rfl |rfl |rfl
 ·exact aS8 j S e q
 ·exact aO6 PySem.F.slot_list_extend PySem.F.type_list_extend j S e q
 ·exact aO6 PySem.F.slot_list_pop PySem.F.type_list_pop j S e q
set_option tactic.hygienic true in
theorem bg1 (nf:Nat) {x C f:Addr} {al:List (Str × Value)} {n:Str} {o:Expr} (X:a01 w K b) (G:KOk K) (S:St w.params b g c.L l fp h) (I:am6 h x C al) (e:bf7 C al n=some f) (H:Run w z K b i c g fp nf (.an (.m (.ref f) [.ref x])) k l):
  den w z K i c (.gm o n::k) (.v (.ref x)) (sh z h t):=by
 unfold bf7 at e
 split at e
 next hc=>
  rw[Bool.and_eq_true,av3] at hc
  split at e
  next p hp=>
   split at e
   next hq=>
    cases e
    have e1:=List.find?_some hp
    rw[Bool.and_eq_true,au1] at e1
    obtain⟨jm,hm⟩:=List.getElem?_of_mem (List.mem_of_find?_eq_some hp)
    have h1:=G.me jm p hm
    rw[beq_iff_eq.mp e1.1,beq_iff_eq.mp e1.2] at h1
    obtain⟨q,hq1,hq2⟩:=List.any_eq_true.mp hq
    obtain⟨jq,hq3⟩:=List.getElem?_of_mem hq1
    have h2:=(G.fn jq q hq3).isFn
    rw[beq_iff_eq.mp hq2] at h2
    obtain⟨cc,hc1,hc2⟩:=List.any_eq_true.mp hc.2
    obtain⟨jc,hc3⟩:=List.getElem?_of_mem hc1
    have h3:=(G.cl jc cc hc3).pg
    rw[beq_iff_eq.mp hc2] at h3
    exact bp4 S X I h1 h3 h2 (a44 X G nf _ k l H h _ S) hc.1
   ·cases e
  ·cases e
 ·cases e
set_option tactic.hygienic true in
theorem bo4 (nf j:Nat) {x:Addr} {f:Value} {n:Str} {o:Expr} (X:a01 w K b) (G:KOk K) (S:St w.params b g c.L l fp h) (e0:atB fp j=some x) (e:bf8 fp j n=some f) (H:Run w z K b i c g fp nf (.an (.m f [.ref x])) k l):
  den w z K i c (.gm o n::k) (.v (.ref x)) (sh z h t):=by
 unfold bf8 at e
 split at e
 next x' C dx al hj=>
  obtain rfl:=ba4 e0 hj
  split at e
  next v' he=>cases e;exact bg1 nf X G S (S.inst j hj) he H
  ·cases e
 next x' vs hj=>
  obtain rfl:=ba4 e0 hj
  split at e
  next id hid=>
   cases e
   rw[av3] at hid
   have q:=a44 X G nf _ k l H h t S
   exact lm_ok (Q:=λx=>den w z K i c k (.m x.1 x.2)) j S hj (n,id) (a16 hid) q
  ·cases e
 ·cases e
noncomputable def putK (n:Str) (v:Value):List (Str × Value)->(List (Str × Value)->Prop)->Prop
 |[],k=>k [(n,v)]
 |(m,u)::r,k=>match seq m n with
  |true=>k ((n,v)::r)
  |false=>putK n v r λr'=>k ((m,u)::r')
theorem b00 {n:Str} {v:Value}:∀{al:List (Str × Value)} {k:List (Str × Value)->Prop},putK n v al k->k (b01 n v al)
 |[],k,h=>h
 |(m,u)::r,k,h=>by
  unfold putK at h
  unfold b01
  split at h
  next q=>
   rw[au1] at q
   have q':((m,u).1==n)=true:=q
   rw[q'];exact h
  next q=>
   rw[au1] at q
   have q':((m,u).1==n)=false:=q
   rw[q'];exact b00 h
noncomputable def bm2 (n:Str) (v:Value):FP->Nat->(FP->Prop)->Prop
 |[],U,V=>False
 |(x,o)::r,0,k=>(match o with
  | .inst C dx al=>(match clsB C n&&Nat.blt al.length 100 with
   |true=>putK n v al λal'=>k ((x,.inst C dx al')::r)
   |false=>False)
  | _=>False)
 |p::r,j+1,k=>bm2 n v r j λr'=>k (p::r')
theorem aY9 {n:Str} {v:Value}:∀{fp:FP} {j:Nat} {k:FP->Prop},bm2 n v fp j k->X4 λx C dx al=>A4 (fp[j]?=some (x,.inst C dx al)) (clsB C n=true) (al.length<100) (k (fp.set j (x,.inst C dx (b01 n v al))))
 |[],U,V,h=>h.elim
 |(x,o)::r,0,k,h=>by
  induction o using AO.casesOn with
  |inst C dx al=>
   unfold bm2 at h
   simp only at h
   split at h
   next q=>
    rw[Bool.and_eq_true] at q
    exact⟨x,C,dx,al,rfl,q.1,Nat.le_of_ble_eq_true q.2,b00 h⟩
   ·exact h.elim
  | _=>exact h.elim
 |p::r,j+1,k,h=>by
  obtain⟨x,C,dx,al,e,h1,h2,h3⟩:=aY9 (fp:=r) (j:=j) (k:=λr'=>k (p::r')) h
  exact⟨x,C,dx,al,e,h1,h2,h3⟩
theorem m_set (nf j:Nat) {x:Addr} {n:Str} {v:Value} (X:a01 w K b) (G:KOk K) (S:St w.params b g c.L l fp h) (e:atB fp j=some x) (H:bm2 n v fp j λfp'=>Run w z K b i c g fp' nf (.an (.fl .next)) k l):
  den w z K i c (.sa2 n v::k) (.v (.ref x)) (sh z h t):=by
 obtain⟨x',C,dx,al,e',h1,h2,h3⟩:=aY9 H
 obtain rfl:=ba4 e e'
 obtain⟨names,c1,c2⟩:=b41 G h1
 exact aZ7 j S X e' c1 c2 (Nat.le_trans (aO8 _ _ _) h2) λh' S'=>a44 X G nf _ k l h3 h' _ S'
theorem m_tup (nf:Nat) {vs:List Value} (X:a01 w K b) (G:KOk K) (S:St w.params b g c.L l fp h) (e:Nat.ble vs.length 1000=true) (H:∀a,Run w z K b i c g ((a,.tup vs)::fp) nf (.an (.v (.ref a))) k l):
  den w z K i c (.mkt::k) (.vs vs) (sh z h t):=
 aS7 S (Nat.le_trans (Nat.le_of_ble_eq_true e) (by rw[sizeLine_eq];decide)) λa h' S'=>a44 X G nf _ k l (H a) h' _ S'
theorem bo5 (nf:Nat) {vs:List Value} (X:a01 w K b) (G:KOk K) (S:St w.params b g c.L l fp h) (e:Nat.ble vs.length 1000=true) (H:∀a,Run w z K b i c g ((a,.list vs)::fp) nf (.an (.v (.ref a))) k l):
  den w z K i c (.mkl::k) (.vs vs) (sh z h t):=
 aZ8 S (Nat.le_trans (Nat.le_of_ble_eq_true e) (by rw[sizeLine_eq];decide)) λa h' S'=>a44 X G nf _ k l (H a) h' _ S'
theorem a32 (nf:Nat) {x:Bool} (y:Bool) {f:Fr} (X:a01 w K b) (G:KOk K) (S:St w.params b g c.L l fp h) (e:x=y) (H:bS (Run w z K b i c g fp nf) False f y k l):den w z K i c (f::k) (.b x) (sh z h t):=by
 subst e
 exact b_ok (a44 X G nf) (λq=>q.elim) H h t S
noncomputable def aT6 (i:FI) (x:Str):Bool:=match aL9 i x with
 |some .local=>true
 | _=>false
theorem aY3 {x:Str} {v:Value} {E:Value->Shared->Prop} {Q:Unit->Shared->Prop} (e:aT6 i x=true) (S:St w.params b g c.L l fp h) (H:∀h' t',St w.params b g c.L ((x,v)::l) fp h'->Q () (sh z h' t')):wpAny (model pw w) c.A (storeName (c.env i) x v) Q E (sh z h t):=by
 unfold aT6 at e
 split at e
 next q=>
  obtain⟨h1,h2⟩:=av5 (L:=c.L) (f:=c.f) q
  exact aB5 S (λh' S'=>H h' _ S') h1 h2
 ·cases e
theorem aN0 {a c:Bool} (e:(a&&c)=true):a=true/\c=true:=by rwa [Bool.and_eq_true] at e
theorem ad6 (nf:Nat) {x y:Str} {p1 p2 pos:Pos} {n:Nat} {a:Addr} {v1 v2:Value} (X:a01 w K b) (G:KOk K) (S:St w.params b g c.L l fp h) (hh:c.A.handled=none) (ht:h.IsTuple a [v1,v2].toArray) (e:(aT6 i x&&aT6 i y)=true)
  (H:Run w z K b i c g fp nf (.an (.fl .next)) k ((y,v2)::(x,v1)::l)):den w z K i c (.ta [.Name x p1,.Name y p2] n pos::k) (.v (.ref a)) (sh z h t):=by
 obtain⟨e1,e2⟩:=aN0 e
 exact aF2 S hh ht λh' S'=>aY3 e1 S' λh' t' S'=>aY3 e2 S' λh' t' S'=>a44 X G nf _ k _ H h' t' S'
theorem bo3 (nf:Nat) {x y u:Str} {p1 p2 p3 pos:Pos} {n:Nat} {a:Addr} {v1 v2 v3:Value} (X:a01 w K b) (G:KOk K) (S:St w.params b g c.L l fp h) (hh:c.A.handled=none) (ht:h.IsTuple a [v1,v2,v3].toArray) (e:(aT6 i x&&aT6 i y&&aT6 i u)=true)
  (H:Run w z K b i c g fp nf (.an (.fl .next)) k ((u,v3)::(y,v2)::(x,v1)::l)):den w z K i c (.ta [.Name x p1,.Name y p2,.Name u p3] n pos::k) (.v (.ref a)) (sh z h t):=by
 obtain⟨e,e3⟩:=aN0 e
 obtain⟨e1,e2⟩:=aN0 e
 exact aF1 S hh ht λh' S'=>aY3 e1 S' λh' t' S'=>aY3 e2 S' λh' t' S'=>aY3 e3 S' λh' t' S'=>a44 X G nf _ k _ H h' t' S'
theorem m_un4 (nf:Nat) {x y u r:Str} {p1 p2 p3 p4 pos:Pos} {n:Nat} {a:Addr} {v1 v2 v3 v4:Value} (X:a01 w K b) (G:KOk K) (S:St w.params b g c.L l fp h) (hh:c.A.handled=none) (ht:h.IsTuple a [v1,v2,v3,v4].toArray) (e:(aT6 i x&&aT6 i y&&aT6 i u&&aT6 i r)=true)
  (H:Run w z K b i c g fp nf (.an (.fl .next)) k ((r,v4)::(u,v3)::(y,v2)::(x,v1)::l)):den w z K i c (.ta [.Name x p1,.Name y p2,.Name u p3,.Name r p4] n pos::k) (.v (.ref a)) (sh z h t):=by
 obtain⟨e,e4⟩:=aN0 e
 obtain⟨e,e3⟩:=aN0 e
 obtain⟨e1,e2⟩:=aN0 e
 exact aZ4 S hh ht λh' S'=>aY3 e1 S' λh' t' S'=>aY3 e2 S' λh' t' S'=>aY3 e3 S' λh' t' S'=>aY3 e4 S' λh' t' S'=>a44 X G nf _ k _ H h' t' S'
theorem b86 (nf:Nat) {x y:Str} {a:Addr} {v1 v2:Value} (X:a01 w K b) (G:KOk K) (S:St w.params b g c.L l fp h) (hh:c.A.handled=none) (ht:h.IsTuple a [v1,v2].toArray) (e:(aT6 i x&&aT6 i y)=true)
  (H:Run w z K b i c g fp nf (.an (.fl .next)) k ((x,v1)::(y,v2)::l)):den w z K i c (.sw x y::k) (.v (.ref a)) (sh z h t):=by
 obtain⟨e1,e2⟩:=aN0 e
 exact aZ3 (Q:=λU=>den w z K i c k (.fl .next)) S hh ht λh' S'=>aY3 e2 S' λh' t' S'=>aY3 e1 S' λh' t' S'=>a44 X G nf _ k _ H h' t' S'
set_option backward.match.sparseCases false in
noncomputable def bo8 (w:World) (z:Z) (K:Frag) (i:FI) (c:Cx) (target:Expr) (it v:Value) (k:List Fr):Shared->Prop:=match target with
 | .Name x U=>den w z K i c (.sto x::k) (.v v)
 | .Tuple elts n pos=>wpAny (model pw w) c.A (letOwnedTupleGo (.Tuple elts n pos) it v) (λU=>den w z K i c (.ta elts n pos::k) (.v v)) (eO w i c k)
 | _=>λU=>False
theorem goI {x:Str} {pos:Pos} {it v:Value} (n:Nat) (X:a01 w K b) (G:KOk K) (S:St w.params b g c.L l fp h) (H:Run w z K b i c g fp n (.an (.v v)) (.sto x::k) l):bo8 w z K i c (.Name x pos) it v k (sh z h t):=a44 X G n (.an (.v v)) (.sto x::k) l H h t S
theorem av2 {it:Value} {n:Nat} {target:Expr} {body:List Stmt} (J:Nat->Heap->Nat->Prop)
  (turn:∀i' h t,i'<n->J i' h t->∀Jn:Heap->Nat->Prop,(∀{h t},J (i'+1) h t->den w z K i c (.lp Jn::k) (.fl .next) (sh z h t))->wpAny (model pw w) c.A (pyNext it) (λr s=>∃v,r=some v/\bo8 w z K i c target it v (.sq body:: .lp Jn::k) s) (eO w i c (.lp Jn::k)) (sh z h t))
  (stop:∀h t,J n h t->wpAny (model pw w) c.A (pyNext it) (λr s=>r=none/\den w z K i c k (.fl .next) s) (eO w i c (.lp (λU V=>True)::k)) (sh z h t)):
  ∀(m i':Nat) (h:Heap) (t:Nat),i'+m=n->J i' h t->codeAny (model pw w) c.A (.forLoop target it body [] (c.env i)) (aI7 (model pw w) c.A (c.env i) (λx=>den w z K i c k (.fl x)) (eO w i c k)) (sh z h t):=by
 refine be7 J (λi' h t hi j=>wpAny_mono (turn i' h t hi j (J (i'+1)) λj=>⟨_,_,rfl,j⟩) (λr s q=>?_) λU V q=>q) (λh t j=>wpAny_mono (stop h t j) (λr s q=>q) λU V q=>q)
 obtain⟨v,rfl,q⟩:=q
 refine⟨v,rfl,?_⟩
 have key:∀{s:Shared} {t:Sem Unit},wpAny (model pw w) c.A t (λU=>den w z K i c (.sq body:: .lp (J (i'+1))::k) (.fl .next)) (eO w i c (.lp (J (i'+1))::k)) s->
   wpAny (model pw w) c.A t (λU s₂=>wpAny (model pw w) c.A (execs body (c.env i)) (λf s₃=>match f with
    | .next | .cont=>X2 λh' t'=>s₃=sh z h' t'/\J (i'+1) h' t'
    | .brk=>aI7 (model pw w) c.A (c.env i) (λx=>den w z K i c k (.fl x)) (eO w i c k) (.ok .next) s₃
    | .ret v=>aI7 (model pw w) c.A (c.env i) (λx=>den w z K i c k (.fl x)) (eO w i c k) (.ok (.ret v)) s₃) (eO w i c (.lp (J (i'+1))::k)) s₂) (eO w i c (.lp (J (i'+1))::k)) s:=
  λq=>wpAny_mono q (λU s₂ q=>wpAny_mono q (λfl s₃ q=>by induction fl using Flow.casesOn<;>exact q) λU V q=>q) λU V q=>q
 induction target using Expr.casesOn with
 |Name x pos=>exact b80 (wpAny_assign_Name (key q))
 |Tuple elts m pos=>exact wpAny_mono q (λU s₁ q=>key q) λU V q=>q
 | _=>exact q.elim
theorem a56 {test:Expr} {body:List Stmt} {pos:Pos} (J:Nat->Heap->Nat->Prop)
  (turn:∀n h t,J n h t->∀Jn:Heap->Nat->Prop,(∀{m h t},m<n->J m h t->den w z K i c (.lp Jn::k) (.fl .next) (sh z h t))->Dn w z K i c (.ts test) (.wh body:: .lp Jn::k) (sh z h t)):
  ∀(n:Nat) (h:Heap) (t:Nat),J n h t->Dn w z K i c (.x (.While test body [] pos)) k (sh z h t):=by
 intro n h t j
 refine aZ0 (be6 (orelse:=[]) J (λn h t j=>?_) n h t j)
 have q:=turn n h t j (λh t=>∃m,m<n/\J m h t) λhm j=>⟨_,_,rfl,_,hm,j⟩
 refine wpAny_mono q (λb s q=>?_) λU V q=>q
 induction b using Bool.casesOn with
 |true=>exact wpAny_mono q (λfl s₃ q=>by
   induction fl using Flow.casesOn with
   |next=>obtain⟨h',t',e,m,hm,j⟩:=q;exact⟨m,h',t',hm,e,j⟩
   |cont=>obtain⟨h',t',e,m,hm,j⟩:=q;exact⟨m,h',t',hm,e,j⟩
   | _=>exact q) λU V q=>q
 |false=>exact wpAny_execs_nil q
theorem aP1 {test:Expr} {body:List Stmt} {s:Shared} (H:Dn w z K i c (.ts test) (.wh body:: .lw test body::k) s):den w z K i c (.lw test body::k) (.fl .next) s:=by
 refine aE2 (wpAny_mono H (λb s q=>?_) λU V q=>q)
 induction b using Bool.casesOn with
 |true=>exact wpAny_mono q (λfl s₃ q=>by induction fl using Flow.casesOn<;>exact q) λU V q=>q
 |false=>exact wpAny_execs_nil q
theorem aB7 {test:Expr} {body:List Stmt} {pos:Pos} {s:Shared} (H:Dn w z K i c (.ts test) (.wh body:: .lw test body::k) s):Dn w z K i c (.x (.While test body [] pos)) k s:=
 aZ0 (aP1 H)
theorem enC {args:List Value} {binds:List (Str × Value)} {Post:Value->Heap->Prop} (F:a31 K f i) (X:a01 w K b) (T:Sit w.params b g fp h) (room:a04 A n)
  (hbind:bindArgs i.fd ⟨args,[]⟩=pure binds) (hkind:(binds.all λx=>i.scope.names.lookup x.1==some .local||(i.scope.names.lookup x.1==some .cell&&((cellsFrom 0 i.scope.names []).lookup x.1).isSome))=true)
  (k:∀c:Cx,c.A.handled=A.handled->Rm c.A n->let P:=Post;Rt z P c->∀h₁ t₁,St w.params b g c.L (binds.filter λp=>i.scope.names.lookup p.1==some .local).reverse (aQ5 (cellsFrom (c.L+1) i.scope.names []) (bindC (λx=>i.scope.names.lookup x) binds λU=>none)++fp) h₁->Dn w z K i c (.xs i.body) [] (sh z h₁ t₁))
  (hnd:(((cellsFrom 0 i.scope.names []).map (·.1)).eraseDups.length==((cellsFrom 0 i.scope.names []).map (·.1)).length&&decide ((cellsFrom 0 i.scope.names []).map (·.1)).Nodup)=true:=by kernel_rfl)
  (hco:i.scope.isCoroutine=false:=by kernel_rfl) (hgen:i.scope.isGenerator=false:=by kernel_rfl) (hk:i.scope.kind= .function:=by kernel_rfl):a07 w A z (.ref f) args h t Post:=
 bp9 F X T room.here hbind hkind (λL h₁ tk S=>k ⟨A.deeper (ac9 i.qual i.scope L f i.cd),L,f,NoE,bj3 z Post⟩ rfl ⟨λm hm=>room.deeper hm⟩ ⟨λp=>aA4 p,λp=>aA5 p⟩ h₁ _ S) hnd hco hgen hk
theorem enF {args:List Value} {binds:List (Str × Value)} {outer:List Env} {Post:Value->Heap->Prop} (F:a31 K f i) (X:a01 w K b) (T:Sit w.params b g fp h) (room:a04 A n) (hfr:A.frames=some outer)
  (hbind:BindsTo (sh z h t) i.fd ⟨args,[]⟩ binds) (hen:enB i binds=true)
  (k:∀c:Cx,c.A.handled=A.handled->Rm c.A n->c.A.frames=some (c.env i::outer)->let P:=Post;Rt z P c->∀h₁ t₁,St w.params b g c.L binds.reverse fp h₁->Dn w z K i c (.xs i.body) [] (sh z h₁ t₁)):a07 w A z (.ref f) args h t Post:=by
 obtain⟨hloc,hcell,hco,hgen,hk⟩:=b35 hen
 refine aG9 F X T room.here hbind hloc (λL h₁ S=>?_) hcell hco hgen hk
 rw[b34 hcell]
 exact k ⟨A.deeper (ac9 i.qual i.scope L f i.cd),L,f,NoE,bj3 z Post⟩ rfl ⟨λm hm=>room.deeper hm⟩ (Around.frames_deeper hfr) ⟨λp=>aA4 p,λp=>aA5 p⟩ h₁ _ S
theorem enT {args:List Value} {binds:List (Str × Value)} {outer:List Env} {B0:Heap} {lim:Value} (F:a31 K f i) (X:a01 w K b) (T:Sit w.params b g fp h) (room:a04 A n) (hfr:A.frames=some outer)
  (hbind:BindsTo (sh z h t) i.fd ⟨args,[]⟩ binds) (hen:enB i binds=true)
  (k:∀c:Cx,c.A.handled=A.handled->Rm c.A n->c.A.frames=some (c.env i::outer)->(∀{v s},aQ9 z B0 (c.env i::outer) c.L g lim v s->c.E v s)->∀h₁ t₁,St w.params b g c.L binds.reverse fp h₁->Dn w z K i c (.xs i.body) [] (sh z h₁ t₁)):a58 w A z (.ref f) args h t B0 outer g lim:=by
 obtain⟨hloc,hcell,hco,hgen,hk⟩:=b35 hen
 refine bp8 F X T room.here hfr hbind hloc (λL h₁ S hf=>?_) hcell hco hgen hk
 rw[b34 hcell] at hf ⊢
 exact k ⟨A.deeper (ac9 i.qual i.scope L f i.cd),L,f,aQ9 z B0 (ac9 i.qual i.scope L f i.cd::outer) L g lim,λU V=>False⟩ rfl ⟨λm hm=>room.deeper hm⟩ hf (λp=>p) h₁ _ S
theorem ab0 {f:Value} {args:List Value} {outer:List Env} {B0:Heap} {fr d:Bas} {fp₁ fp₂:FP} {lim:Value} (hE:∀{v s},aQ9 z B0 (c.env i::outer) c.L (fr.or d) lim v s->eO w i c k v s) (S:St w.params b (fr.or d) c.L l (fp₁++fp₂) h) (hB:Sub (Bas.of B0) (fr.or d)) (hF:Frs B0 (fr.or d) outer) (hk:i.scope.kind= .function)
  (sp:∀fr',Sub (fr.or d) fr'->Frs B0 fr' (c.env i::outer)->Sit w.params b (fr'.or d) fp₁ h->a58 w c.A z f args h t B0 (c.env i::outer) fr' lim):Dn w z K i c (.cl f args) k (sh z h t):=
 wpAny_mono (be8 (env:=c.env i) S hB hF rfl (λq=>by rw[show (c.env i).scope.kind= .function from hk] at q;cases q) sp) (λU V q=>q) λU V q=>hE q
theorem bc0 {outer:List Env} {B0:Heap} {lim:Value} {J:Heap->Nat->Prop} (hfr:c.A.frames=some (c.env i::outer)) (hE:∀{v s},aQ9 z B0 (c.env i::outer) c.L g lim v s->eO w i c k v s) {v:Value} {s:Shared} (x:aQ9 z B0 (c.env i::outer) c.L g lim v s):eO w i c (.lp J::k) v s:=
 wpAny_mono (loopT (M:=model pw w) hfr rfl x) (λU V q=>wpAny_mono q (λU V q=>hE q) λU V q=>hE q) λU V q=>wpAny_mono q (λU V q=>hE q) λU V q=>hE q
theorem m_own {pos:Pos} {a:Addr} {e:Expr} {es:List Expr} (nf:Nat) (X:a01 w K b) (G:KOk K) (S:St w.params b g c.L l fp h) (hk:keepIn K (.ref a)=true) (hs:noStar (e::es)=true) (H:Run w z K b i c g fp nf (.sp pos (e::es)) (.cr (.ref a) []::k) l):
  den w z K i c (.cf pos (e::es)::k) (.v (.ref a)) (sh z h t):=by
 obtain⟨a1,a2⟩:=a46 hs
 exact callWith_K X.kin hk (a44 X G nf _ _ l H h t S) (a88 a1) (an3 a2)
theorem bb8 (nf:Nat) {x y:Str} {p1 p2 pos:Pos} {n:Nat} {a:Addr} {v1 v2:Value} (X:a01 w K b) (G:KOk K) (S:St w.params b g c.L l fp h) (hh:c.A.handled=none) (ht:h.IsTuple a [v1,v2].toArray)
  (H:Run w z K b i c g fp nf (.an (.v v1)) (.sto x:: .sv y v2::k) l):den w z K i c (.ta [.Name x p1,.Name y p2] n pos::k) (.v (.ref a)) (sh z h t):=
 aF2 S hh ht λh' S'=>a44 X G nf _ _ l H h' t S'
theorem bo1 (nf:Nat) {x y u:Str} {p1 p2 p3 pos:Pos} {n:Nat} {a:Addr} {v1 v2 v3:Value} (X:a01 w K b) (G:KOk K) (S:St w.params b g c.L l fp h) (hh:c.A.handled=none) (ht:h.IsTuple a [v1,v2,v3].toArray)
  (H:Run w z K b i c g fp nf (.an (.v v1)) (.sto x:: .sv y v2:: .sv u v3::k) l):den w z K i c (.ta [.Name x p1,.Name y p2,.Name u p3] n pos::k) (.v (.ref a)) (sh z h t):=
 aF1 S hh ht λh' S'=>a44 X G nf _ _ l H h' t S'
end
end
section
section
variable {w:World} {K:Frag} {A:Around} {z:Z} {b h:Heap} {g:Bas} {t n m:Nat} {f:Addr} {fp:FP} {i:FI} {c:Cx} {k:List Fr} {l:Loc} {a:Ans} {ct:Ct}
noncomputable abbrev shQ {P:Params} {b:Heap} {g:Bas} {L:Addr} (l:Loc) (fp:FP) {X:Heap->Nat->Prop}:Prop:=∀(h:Heap) (t:Nat),St P b g L l fp h->X h t
noncomputable abbrev shP {P:Params} {b:Heap} {g:Bas} {L:Addr} {l:Loc} {fp:FP} {X:Heap->Nat->Prop}:Prop:=∀(h:Heap) (t:Nat),St P b g L l fp h->X h t
noncomputable abbrev shF {P:Params} {b:Heap} {g:Bas} {L:Addr} {l:Loc} {fp:FP} {w:World} {z:Z} {K:Frag} {i:FI} {c:Cx} {k:List Fr} {a:Ans} (f:Fr):Prop:=∀(h:Heap) (t:Nat),St P b g L l fp h->den w z K i c (f::k) a (sh z h t)
noncomputable abbrev shI {P:Params} {b:Heap} {g:Bas} {L:Addr} {l:Loc} {fp:FP} {w:World} {z:Z} {K:Frag} {i:FI} {c:Cx} {k:List Fr} {xs:List Value}:Prop:=∀(h:Heap) (t:Nat),St P b g L l fp h->Dn w z K i c (.cl (.builtin "isinstance") xs) k (sh z h t)
theorem nbF {x y C D:Addr} {al al':List (Str × Value)} (I:am6 h x C al) (J:am6 h y D al') (e:Nat.beq C D=false):Nat.beq x y=false:=by
 cases q:Nat.beq x y with
 |false=>rfl
 |true=>
  obtain rfl:=Nat.eq_of_beq_eq_true q
  rw[(aP3 I J).1,Nat.beq_refl] at e
  exact ftE e.symm
theorem ar8 {A:Around} {E:Value->Shared->Prop} {x y C D:Addr} {al al':List (Str × Value)} {Q:Value->Shared->Prop} (I:am6 h x C al) (J:am6 h y D al') (k:Q (.bool false) (sh z h t)) (e:Nat.beq C D=false:=by rfl):wpAny (model pw w) A (compareOp .Is (.ref x) (.ref y)) Q E (sh z h t):=
 b59 I J ((nbF I J e).symm▸k)
theorem ad9 {A:Around} {E:Value->Shared->Prop} {x y C D:Addr} {al al':List (Str × Value)} {Q:Value->Shared->Prop} (I:am6 h x C al) (J:am6 h y D al') (k:Q (.bool true) (sh z h t)) (e:Nat.beq C D=false:=by rfl):wpAny (model pw w) A (compareOp .IsNot (.ref x) (.ref y)) Q E (sh z h t):=
 ap1 I J ((nbF I J e).symm▸k)
theorem a70 {A:Around} {E:Value->Shared->Prop} {value slice:Expr} {x y:Str} {n:Int} {u v:Tok} {Q:Value->Shared->Prop} (e:Txt.item x n=y) (hx:(x.length:Int)<1000000) (h1: -(x.length:Int)<=n) (h2:n<x.length) (k:∀tk,Q (.str y tk) (sh z h (t+1)))
  (hs:subscripted slice false (.str x u) (.int n v)=operate [.str x u,.int n v] (getItem (.str x u) (.int n v)):=by kernel_rfl) (ht:∀r,letTemporaryGo value (.str x u) r=pure ():=by intro _;kernel_rfl):
  wpAny (model pw w) A (subscriptTail value slice (.str x u) (.int n v)) Q E (sh z h t):=aN5 hx h1 h2 (e.symm▸k) hs ht
theorem a63 {A:Around} {E:Value->Shared->Prop} {L:Addr} {value slice:Expr} {x y:Str} {u:Tok} {i j:Int} {v v':Tok} {Q:Value->Shared->Prop} (e:Txt.slice x (some i) (some j)=y) (S:St w.params b g L l fp h) (hx:x.length<=sizeLine) (k:∀h' tk t',St w.params b g L l fp h'->Q (.str y tk) (sh z h' t'))
  (hs:subscripted slice false (.str x u) (.ref h.objs.size)=operate [.ref h.objs.size,.str x u] (getItem (.str x u) (.ref h.objs.size)):=by kernel_rfl) (ht:∀r,letTemporaryGo value (.str x u) r=pure ():=by intro _;kernel_rfl):
  wpAny (model pw w) A (subscriptTail value slice (.str x u) (.ref h.objs.size)) Q E (sh z (h.push {cls:=.type "slice",data:=.fields #[.int i v,.int j v',.none]}) t):=aj3 S hx (e.symm▸k) hs ht
theorem goNA (S:St w.params b g c.L l fp h) (H:∀h t,St w.params b g c.L l fp h->den w z K i c k a (sh z h t)):den w z K i c k a (sh z h t):=H h t S
theorem goS (n:Nat) (X:a01 w K b) (G:KOk K) (H:stp i (Run w z K b i c g fp n) False ct k l):∀h t,St w.params b g c.L l fp h->Dn w z K i c ct k (sh z h t):=aY1 X G (a44 X G n) (λq=>q.elim) H
theorem goSA (n:Nat) (X:a01 w K b) (G:KOk K) (H:anS i (Run w z K b i c g fp n) False a k l):∀h t,St w.params b g c.L l fp h->den w z K i c k a (sh z h t):=goS (ct:=.an a) n X G H
theorem s_get (nf j:Nat) {x:Addr} {n:Str} {v:Value} (X:a01 w K b) (G:KOk K) (e0:atB fp j=some x) (e:getB fp j n=some v) (hv:handedIn v=true) (H:Run w z K b i c g fp nf (.an (.v v)) k l):
  ∀h t,St w.params b g c.L l fp h->den w z K i c (.attr n::k) (.v (.ref x)) (sh z h t):=λU V S=>m_get nf j X G S e0 e hv H
theorem bm7 (nf:Nat) {x C:Addr} {al:List (Str × Value)} {n:Str} {v:Value} (X:a01 w K b) (G:KOk K) (I:a00 g x C al) (e:getI C al n=some v) (hv:handedIn v=true) (H:Run w z K b i c g fp nf (.an (.v v)) k l):
  ∀h t,St w.params b g c.L l fp h->den w z K i c (.attr n::k) (.v (.ref x)) (sh z h t):=λU V S=>bb9 nf X G S (S.binst I) e hv H
theorem bm3 (nf j:Nat) {x:Addr} {f:Value} {n:Str} {o:Expr} (X:a01 w K b) (G:KOk K) (e0:atB fp j=some x) (e:bf8 fp j n=some f) (H:Run w z K b i c g fp nf (.an (.m f [.ref x])) k l):
  ∀h t,St w.params b g c.L l fp h->den w z K i c (.gm o n::k) (.v (.ref x)) (sh z h t):=λU V S=>bo4 nf j X G S e0 e H
theorem s_set (nf j:Nat) {x:Addr} {n:Str} {v:Value} (X:a01 w K b) (G:KOk K) (e:atB fp j=some x) (H:bm2 n v fp j λfp'=>Run w z K b i c g fp' nf (.an (.fl .next)) k l):
  ∀h t,St w.params b g c.L l fp h->den w z K i c (.sa2 n v::k) (.v (.ref x)) (sh z h t):=λU V S=>m_set nf j X G S e H
theorem s_tup (nf:Nat) {vs:List Value} (X:a01 w K b) (G:KOk K) (e:Nat.ble vs.length 1000=true) (H:∀a,Run w z K b i c g ((a,.tup vs)::fp) nf (.an (.v (.ref a))) k l):
  ∀h t,St w.params b g c.L l fp h->den w z K i c (.mkt::k) (.vs vs) (sh z h t):=λU V S=>m_tup nf X G S e H
theorem bm4 (nf:Nat) {vs:List Value} (X:a01 w K b) (G:KOk K) (e:Nat.ble vs.length 1000=true) (H:∀a,Run w z K b i c g ((a,.list vs)::fp) nf (.an (.v (.ref a))) k l):
  ∀h t,St w.params b g c.L l fp h->den w z K i c (.mkl::k) (.vs vs) (sh z h t):=λU V S=>bo5 nf X G S e H
theorem s_if (nf:Nat) {x:Bool} (y:Bool) {f:Fr} (X:a01 w K b) (G:KOk K) (e:x=y) (H:bS (Run w z K b i c g fp nf) False f y k l):∀h t,St w.params b g c.L l fp h->den w z K i c (f::k) (.b x) (sh z h t):=λU V S=>a32 nf y X G S e H
noncomputable def isaC (D C:Addr):Option Bool:=match aJ0.contains D&&aV9.contains C with
 |true=>some (rel D C)
 |false=>none
theorem bg8 {D C:Addr} {r:Bool} (e:isaC D C=some r):aJ0.contains D=true/\aV9.contains C=true/\rel D C=r:=by
 unfold isaC at e
 cases q:aJ0.contains D&&aV9.contains C with
 |true=>
  rw[q] at e
  rw[Bool.and_eq_true] at q
  exact⟨q.1,q.2,Option.some.inj e⟩
 |false=>rw[q] at e;cases e
theorem bm6 (nf:Nat) {x D C:Addr} {al:List (Str × Value)} {r:Bool} (X:a01 w K b) (G:KOk K) (I:a00 g x D al) (e:isaC D C=some r) (H:Run w z K b i c g fp nf (.an (.v (.bool r))) k l):
  ∀h t,St w.params b g c.L l fp h->Dn w z K i c (.cl (.builtin "isinstance") [.ref x,.ref C]) k (sh z h t):=λh t S=>by
 obtain⟨h1,h2,rfl⟩:=bg8 e
 exact aR2 S X G (S.binst I) h1 h2 λt'=>a44 X G nf _ k l H h t' S
theorem bm5 (nf:Nat) {C:Addr} {n:Int} {u:Tok} (X:a01 w K b) (G:KOk K) (e:aV9.contains C=true) (H:Run w z K b i c g fp nf (.an (.v (.bool false))) k l):
  ∀h t,St w.params b g c.L l fp h->Dn w z K i c (.cl (.builtin "isinstance") [.int n u,.ref C]) k (sh z h t):=λh t S=>aW3 S X G e λt'=>a44 X G nf _ k l H h t' S
theorem St.front {P:Params} {L:Addr} (S:St P b g L l fp h) {x:Str} {v:Value} (hl:l.lookup x=some v):St P b g L ((x,v)::l) fp h:=by
 refine⟨?_,S.keep,S.base,S.above,S.out,S.own,S.nL⟩
 have:(λy=>((x,v)::l).lookup y)=λy=>l.lookup y:=by
  funext y
  by_cases q:y=x
  ·subst q;simp [List.lookup,hl]
  ·have:(y==x)=false:=by simpa using q
   simp [List.lookup,this]
 rw[this]
 exact S.ns
theorem aL8:∀fp:FP,msk (List.replicate fp.length true) fp=(fp,[])
 |[]=>rfl
 |p::r=>by rw[List.length_cons,List.replicate_succ,msk,aL8 r]
theorem a45 {A:Around} {E:Value->Shared->Prop} {fr d:Bas} {L:Addr} {f:Value} {args:List Value} {Post:Value->Bas->FP->Prop} {Q:Value->Shared->Prop} (S:St w.params b (fr.or d) L l fp h) (hb:Sub (Bas.of b) fr)
  (sp:∀fr',Sub (fr.or d) fr'->Sit w.params b (fr'.or d) fp h->a07 w A z f args h t (λv h'=>X2 λd' fp'=>a48 w.params b fr' d d' fp' h'/\Post v d' fp'))
  (k:∀v h' t' d' fp',aa2 fr d d'->St w.params b (fr.or d') L l fp' h'->Post v d' fp'->Q v (sh z h' t')):wpAny (model pw w) A (call f args) Q E (sh z h t):=by
 refine a03 (Post:=Post) (List.replicate fp.length true) S hb (λfr' hs T=>?_) ?_
 ·rw [aL8] at T
  exact sp fr' hs T
 ·intro v h' t' d' fp' G1 S' P
  rw[aL8,List.append_nil] at S'
  exact k v h' t' d' fp' G1 S' P
theorem am4 {f:Value} {args:List Value} {v0:Value} (S:St w.params b g c.L l fp h)
  (sp:∀g',Sub g g'->Sit w.params b g' [] h->a07 w c.A z f args h t (λv h'=>∃fp',Sit w.params b g' fp' h'/\fp'=[]/\v=v0))
  (k':∀h t,St w.params b g c.L l fp h->den w z K i c k (.v v0) (sh z h t)):Dn w z K i c (.cl f args) k (sh z h t):=by
 refine a05 [] S sp ?_
 rintro v h t fp' S ⟨rfl,rfl⟩
 exact k' h t S
theorem al6 {f:Value} {args:List Value} {F:Tok->Value} (S:St w.params b g c.L l fp h)
  (sp:∀g',Sub g g'->Sit w.params b g' [] h->a07 w c.A z f args h t (λv h'=>∃fp',Sit w.params b g' fp' h'/\fp'=[]/\∃tk,v=F tk))
  (k':∀tk h t,St w.params b g c.L l fp h->den w z K i c k (.v (F tk)) (sh z h t)):Dn w z K i c (.cl f args) k (sh z h t):=by
 refine a05 [] S sp ?_
 rintro v h t fp' S ⟨rfl,tk,rfl⟩
 exact k' tk h t S
end
end
section
set_option hygiene false in
local macro_rules | `(tactic| kbo_bools) => `(tactic| first | refine (?_ : ∀ (h : Heap) (t : Nat), St _ _ _ _ _ _ h -> _) | (intro (tk : Tok); kbo_bools))
set_option hygiene false in
local macro_rules | `(tactic| keq_hits) => `(tactic| (clear S; kbo_bools; intro h t S))
local macro_rules | `(tactic| kat_tups) => `(tactic| first | (with_reducible assumption) | kernel_rfl)
set_option hygiene false in
local macro_rules | `(tactic| keq_rows) => `(tactic| with_reducible assumption)
set_option hygiene false in
local macro_rules | `(tactic| w_binds $f) => `(tactic| (refine $f 400 X G S ?_; clear S))
set_option hygiene false in
local macro_rules | `(tactic| w_dict $f) => `(tactic| ((with_reducible refine $f 400 X G ?_ ?_); kernel_rfl; intro a))
set_option hygiene false in
local macro_rules | `(tactic| feed_hyp $f) => `(tactic| ((with_reducible refine s_if 400 $f X G ?_ ?_); kernel_rfl!))
--one step of the walk:S,X,G stand for the state and the ground
set_option hygiene false in
local macro_rules | `(tactic| purse $n => $_) => `(tactic| first
 | ((with_reducible refine (?_ : shF (.attr _))); refine s_get 400 $n X G rfl rfl (by kat_tups) ?_)
 | ((with_reducible refine (?_ : shF (.gm _ _))); refine bm3 400 $n X G rfl rfl ?_)
 | ((with_reducible refine (?_ : shF (.sa2 _ _))); refine s_set 400 $n X G rfl ?_))
set_option hygiene false in
local macro_rules | `(tactic| cell_call) => `(tactic| first
 | ((with_reducible first | refine goSA 400 X G ?_ | refine goS 400 X G ?_ | w_binds goA | w_binds go | w_binds goJ | w_binds goI | w_binds goR | w_binds goF); kbo_bools)
 | ((with_reducible first | refine (?_ : ∀ (h : Heap) (t : Nat), St _ _ _ _ _ _ h -> _) | (refine goNA S ?_; clear S)); (first
  | purse 0 => fail | purse 1 => fail | purse 2 => fail | purse 3 => fail | purse 4 => fail | purse 5 => fail
  | ((with_reducible refine (?_ : shF (.attr _))); refine bm7 400 X G (by keq_rows) rfl (by kat_tups) ?_)
  | feed_hyp true | feed_hyp false | w_dict s_tup | w_dict bm4
  | ((with_reducible refine (?_ : shI)); first | refine bm6 400 X G (by keq_rows) rfl ?_ | refine bm5 400 X G (by kernel_rfl!) ?_)); kbo_bools))
--the walk up to where a rule is asked for
set_option hygiene false in
local macro_rules | `(tactic| kd_subs) => `(tactic| (repeat' cell_call); first
 | ((with_reducible refine (?_ : shQ l₀ f₀)); intro h t S)
 | ((with_reducible refine (?_ : let f₀ : FP := _; shQ l₀ f₀)); intro f₀ h t S)
 | ((with_reducible refine (?_ : let l₀ : Loc := _; shQ l₀ f₀)); intro l₀ h t S)
 | ((with_reducible refine (?_ : let l₀ : Loc := _; let f₀ : FP := _; shQ l₀ f₀)); intro l₀ f₀ h t S)
 | (intro (h : Heap) t S) | skip)
set_option hygiene false in
local macro_rules | `(tactic| kcf_m) => `(tactic| dsimp +zetaDelta only [msk, List.cons_append, List.nil_append] at S)
set_option hygiene false in
local macro_rules | `(tactic| kcj_m) => `(tactic| (clear S; intro h S; dsimp +zetaDelta only [List.set] at S))
set_option hygiene false in
local macro_rules | `(tactic| kd_all) => `(tactic| (intro cx hH room P₀ rT h t S; try replace hh := hH.trans hh))
set_option hygiene false in
local macro_rules | `(tactic| kd_in) => `(tactic| (kd_all; dsimp only [List.reverse, List.reverseAux] at S; kd_subs))
variable {w:World} {K:Frag} {A:Around} {E:Value->Shared->Prop} {z:Z} {b h:Heap} {g fr d:Bas} {t:Nat} {L:Addr} {l:List (Str × Value)} {fp:FP}
section
noncomputable def a21 (u0 u1:Value):List (Str × Value):=[("number",u0),("text",u1)]
theorem aN2 (X:a01 w K b) (G:KOk K) (room:a04 A 1) {x dx:Addr} {u0 u1:Value} (T:Sit w.params b g [(x,.inst 68 dx [])] h):
  a07 w A z (.ref 65) [.ref x,u0,u1] h t (λr h'=>r= .none/\∃al,al=a21 u0 u1/\Sit w.params b g [(x,.inst 68 dx al)] h'):=by
 refine en (binds:=[("self",.ref x),("number",u0),("text",u1)]) G.bt4 X T room ?_
 kd_in
 exact rT.n ⟨rfl,_,rfl,S.sit⟩
theorem az0 (X:a01 w K b) (G:KOk K) (room:a04 A 2) {u0 u1:Value} {Q:Value->Shared->Prop} (S:St w.params b g L l fp h)
  (k:∀x dx h'' t'',St w.params b g L l ((x,.inst 68 dx (a21 u0 u1))::fp) h''->Q (.ref x) (sh z h'' t'')):wpAny (model pw w) A (call (.ref 68) [u0,u1]) Q E (sh z h t):=
 ag8 (pa:=λal=>al=a21 u0 u1) S X G.bu5 (λU V U1 V1 T=>aN2 X G (room.make (by decide)) T) λx dx al h'' t'' e S'=>k x dx h'' t'' (e▸S')
noncomputable def aI0 (u0 u1:Value):List (Str × Value):=[("car",u0),("cdr",u1)]
theorem b52 (X:a01 w K b) (G:KOk K) (room:a04 A 1) {x dx:Addr} {u0 u1:Value} (T:Sit w.params b g [(x,.inst 152 dx [])] h):
  a07 w A z (.ref 149) [.ref x,u0,u1] h t (λr h'=>r= .none/\∃al,al=aI0 u0 u1/\Sit w.params b g [(x,.inst 152 dx al)] h'):=by
 refine en (binds:=[("self",.ref x),("car",u0),("cdr",u1)]) G.by9 X T room ?_
 kd_in
 exact rT.n ⟨rfl,_,rfl,S.sit⟩
theorem aB3 (X:a01 w K b) (G:KOk K) (room:a04 A 2) {u0 u1:Value} {Q:Value->Shared->Prop} (S:St w.params b g L l fp h)
  (k:∀x dx h'' t'',St w.params b g L l ((x,.inst 152 dx (aI0 u0 u1))::fp) h''->Q (.ref x) (sh z h'' t'')):wpAny (model pw w) A (call (.ref 152) [u0,u1]) Q E (sh z h t):=
 ag8 (pa:=λal=>al=aI0 u0 u1) S X G.bu9 (λU V U1 V1 T=>b52 X G (room.make (by decide)) T) λx dx al h'' t'' e S'=>k x dx h'' t'' (e▸S')
noncomputable def b47 (u0:Value):List (Str × Value):=[("code",u0)]
theorem b54 (X:a01 w K b) (G:KOk K) (room:a04 A 1) {x dx:Addr} {u0:Value} (T:Sit w.params b g [(x,.inst 173 dx [])] h):
  a07 w A z (.ref 170) [.ref x,u0] h t (λr h'=>r= .none/\∃al,al=b47 u0/\Sit w.params b g [(x,.inst 173 dx al)] h'):=by
 refine en (binds:=[("self",.ref x),("code",u0)]) G.bC8 X T room ?_
 kd_in
 exact rT.n ⟨rfl,_,rfl,S.sit⟩
theorem aB4 (X:a01 w K b) (G:KOk K) (room:a04 A 2) {u0:Value} {Q:Value->Shared->Prop} (S:St w.params b g L l fp h)
  (k:∀x dx h'' t'',St w.params b g L l ((x,.inst 173 dx (b47 u0))::fp) h''->Q (.ref x) (sh z h'' t'')):wpAny (model pw w) A (call (.ref 173) [u0]) Q E (sh z h t):=
 ag8 (pa:=λal=>al=b47 u0) S X G.bB7 (λU V U1 V1 T=>b54 X G (room.make (by decide)) T) λx dx al h'' t'' e S'=>k x dx h'' t'' (e▸S')
noncomputable def aQ7 (u0:Value):List (Str × Value):=[("codes",u0)]
theorem b50 (X:a01 w K b) (G:KOk K) (room:a04 A 1) {x dx:Addr} {u0:Value} (T:Sit w.params b g [(x,.inst 194 dx [])] h):
  a07 w A z (.ref 191) [.ref x,u0] h t (λr h'=>r= .none/\∃al,al=aQ7 u0/\Sit w.params b g [(x,.inst 194 dx al)] h'):=by
 refine en (binds:=[("self",.ref x),("codes",u0)]) G.bC5 X T room ?_
 kd_in
 exact rT.n ⟨rfl,_,rfl,S.sit⟩
theorem aB1 (X:a01 w K b) (G:KOk K) (room:a04 A 2) {u0:Value} {Q:Value->Shared->Prop} (S:St w.params b g L l fp h)
  (k:∀x dx h'' t'',St w.params b g L l ((x,.inst 194 dx (aQ7 u0))::fp) h''->Q (.ref x) (sh z h'' t'')):wpAny (model pw w) A (call (.ref 194) [u0]) Q E (sh z h t):=
 ag8 (pa:=λal=>al=aQ7 u0) S X G.bu0 (λU V U1 V1 T=>b50 X G (room.make (by decide)) T) λx dx al h'' t'' e S'=>k x dx h'' t'' (e▸S')
noncomputable def aD3 (u0:Value):List (Str × Value):=[("things",u0)]
theorem aN1 (X:a01 w K b) (G:KOk K) (room:a04 A 1) {x dx:Addr} {u0:Value} (T:Sit w.params b g [(x,.inst 215 dx [])] h):
  a07 w A z (.ref 212) [.ref x,u0] h t (λr h'=>r= .none/\∃al,al=aD3 u0/\Sit w.params b g [(x,.inst 215 dx al)] h'):=by
 refine en (binds:=[("self",.ref x),("things",u0)]) G.by0 X T room ?_
 kd_in
 exact rT.n ⟨rfl,_,rfl,S.sit⟩
theorem ay9 (X:a01 w K b) (G:KOk K) (room:a04 A 2) {u0:Value} {Q:Value->Shared->Prop} (S:St w.params b g L l fp h)
  (k:∀x dx h'' t'',St w.params b g L l ((x,.inst 215 dx (aD3 u0))::fp) h''->Q (.ref x) (sh z h'' t'')):wpAny (model pw w) A (call (.ref 215) [u0]) Q E (sh z h t):=
 ag8 (pa:=λal=>al=aD3 u0) S X G.bt5 (λU V U1 V1 T=>aN1 X G (room.make (by decide)) T) λx dx al h'' t'' e S'=>k x dx h'' t'' (e▸S')
noncomputable def bi8 (u0:Value):List (Str × Value):=[("content",u0)]
theorem ba8 (X:a01 w K b) (G:KOk K) (room:a04 A 1) {x dx:Addr} {u0:Value} (T:Sit w.params b g [(x,.inst 236 dx [])] h):
  a07 w A z (.ref 233) [.ref x,u0] h t (λr h'=>r= .none/\∃al,al=bi8 u0/\Sit w.params b g [(x,.inst 236 dx al)] h'):=by
 refine en (binds:=[("self",.ref x),("content",u0)]) G.bw7 X T room ?_
 kd_in
 exact rT.n ⟨rfl,_,rfl,S.sit⟩
theorem bf3 (X:a01 w K b) (G:KOk K) (room:a04 A 2) {u0:Value} {Q:Value->Shared->Prop} (S:St w.params b g L l fp h)
  (k:∀x dx h'' t'',St w.params b g L l ((x,.inst 236 dx (bi8 u0))::fp) h''->Q (.ref x) (sh z h'' t'')):wpAny (model pw w) A (call (.ref 236) [u0]) Q E (sh z h t):=
 ag8 (pa:=λal=>al=bi8 u0) S X G.bu8 (λU V U1 V1 T=>ba8 X G (room.make (by decide)) T) λx dx al h'' t'' e S'=>k x dx h'' t'' (e▸S')
noncomputable def aw2 (u0 u1:Value):List (Str × Value):=[("is_done",u0),("content",u1)]
theorem aI4 (X:a01 w K b) (G:KOk K) (room:a04 A 1) {x dx:Addr} {u0 u1:Value} (T:Sit w.params b g [(x,.inst 257 dx [])] h):
  a07 w A z (.ref 254) [.ref x,u0,u1] h t (λr h'=>r= .none/\∃al,al=aw2 u0 u1/\Sit w.params b g [(x,.inst 257 dx al)] h'):=by
 refine en (binds:=[("self",.ref x),("is_done",u0),("content",u1)]) G.bu4 X T room ?_
 kd_in
 exact rT.n ⟨rfl,_,rfl,S.sit⟩
theorem aL4 (X:a01 w K b) (G:KOk K) (room:a04 A 2) {u0 u1:Value} {Q:Value->Shared->Prop} (S:St w.params b g L l fp h)
  (k:∀x dx h'' t'',St w.params b g L l ((x,.inst 257 dx (aw2 u0 u1))::fp) h''->Q (.ref x) (sh z h'' t'')):wpAny (model pw w) A (call (.ref 257) [u0,u1]) Q E (sh z h t):=
 ag8 (pa:=λal=>al=aw2 u0 u1) S X G.bB6 (λU V U1 V1 T=>aI4 X G (room.make (by decide)) T) λx dx al h'' t'' e S'=>k x dx h'' t'' (e▸S')
noncomputable def aw3 (u0:Value):List (Str × Value):=[("number",u0)]
theorem aI6 (X:a01 w K b) (G:KOk K) (room:a04 A 1) {x dx:Addr} {u0:Value} (T:Sit w.params b g [(x,.inst 278 dx [])] h):
  a07 w A z (.ref 275) [.ref x,u0] h t (λr h'=>r= .none/\∃al,al=aw3 u0/\Sit w.params b g [(x,.inst 278 dx al)] h'):=by
 refine en (binds:=[("self",.ref x),("number",u0)]) G.bu1 X T room ?_
 kd_in
 exact rT.n ⟨rfl,_,rfl,S.sit⟩
theorem aL5 (X:a01 w K b) (G:KOk K) (room:a04 A 2) {u0:Value} {Q:Value->Shared->Prop} (S:St w.params b g L l fp h)
  (k:∀x dx h'' t'',St w.params b g L l ((x,.inst 278 dx (aw3 u0))::fp) h''->Q (.ref x) (sh z h'' t'')):wpAny (model pw w) A (call (.ref 278) [u0]) Q E (sh z h t):=
 ag8 (pa:=λal=>al=aw3 u0) S X G.bz6 (λU V U1 V1 T=>aI6 X G (room.make (by decide)) T) λx dx al h'' t'' e S'=>k x dx h'' t'' (e▸S')
noncomputable def ao6 (u0 u1 u2:Value):List (Str × Value):=[("top",u0),("bottom",u1),("is_exact",u2)]
theorem aI3 (X:a01 w K b) (G:KOk K) (room:a04 A 1) {x dx:Addr} {u0 u1 u2:Value} (T:Sit w.params b g [(x,.inst 768 dx [])] h):
  a07 w A z (.ref 765) [.ref x,u0,u1,u2] h t (λr h'=>r= .none/\∃al,al=ao6 u0 u1 u2/\Sit w.params b g [(x,.inst 768 dx al)] h'):=by
 refine en (binds:=[("self",.ref x),("top",u0),("bottom",u1),("is_exact",u2)]) G.bx8 X T room ?_
 kd_in
 exact rT.n ⟨rfl,_,rfl,S.sit⟩
theorem aL3 (X:a01 w K b) (G:KOk K) (room:a04 A 2) {u0 u1 u2:Value} {Q:Value->Shared->Prop} (S:St w.params b g L l fp h)
  (k:∀x dx h'' t'',St w.params b g L l ((x,.inst 768 dx (ao6 u0 u1 u2))::fp) h''->Q (.ref x) (sh z h'' t'')):wpAny (model pw w) A (call (.ref 768) [u0,u1,u2]) Q E (sh z h t):=
 ag8 (pa:=λal=>al=ao6 u0 u1 u2) S X G.by5 (λU V U1 V1 T=>aI3 X G (room.make (by decide)) T) λx dx al h'' t'' e S'=>k x dx h'' t'' (e▸S')
noncomputable def a23 (u0 u1 u2 u3:Value):List (Str × Value):=[("word",u0),("value",u1),("start",u2),("end",u3)]
theorem aV5 (X:a01 w K b) (G:KOk K) (room:a04 A 1) {x dx:Addr} {u0 u1 u2 u3:Value} (T:Sit w.params b g [(x,.inst 874 dx [])] h):
  a07 w A z (.ref 871) [.ref x,u0,u1,u2,u3] h t (λr h'=>r= .none/\∃al,al=a23 u0 u1 u2 u3/\Sit w.params b g [(x,.inst 874 dx al)] h'):=by
 refine en (binds:=[("self",.ref x),("word",u0),("value",u1),("start",u2),("end",u3)]) G.bA3 X T room ?_
 kd_in
 exact rT.n ⟨rfl,_,rfl,S.sit⟩
theorem aG2 (X:a01 w K b) (G:KOk K) (room:a04 A 2) {u0 u1 u2 u3:Value} {Q:Value->Shared->Prop} (S:St w.params b g L l fp h)
  (k:∀x dx h'' t'',St w.params b g L l ((x,.inst 874 dx (a23 u0 u1 u2 u3))::fp) h''->Q (.ref x) (sh z h'' t'')):wpAny (model pw w) A (call (.ref 874) [u0,u1,u2,u3]) Q E (sh z h t):=
 ag8 (pa:=λal=>al=a23 u0 u1 u2 u3) S X G.bv6 (λU V U1 V1 T=>aV5 X G (room.make (by decide)) T) λx dx al h'' t'' e S'=>k x dx h'' t'' (e▸S')
end
section
noncomputable abbrev ao7 (iw pr rx lim tab:Value) (pl:Addr) (n:Int) (tk:Tok) (wl:Addr):List (Str × Value):=
 [("is_written",iw),("precision",pr),("radix",rx),("limit",lim),("table",tab),("pieces",.ref pl),("length",.int n tk),("waiting",.ref wl)]
theorem aI5 (X:a01 w K b) (G:KOk K) (room:a04 A 1) {x dx:Addr} {iw pr rx lim tab:Value} (T:Sit w.params b g [(x,.inst 1227 dx [])] h):
  a07 w A z (.ref 1182) [.ref x,iw,pr,rx,lim,tab] h t (λr h'=>r= .none/\X3 λpl wl tk=>Sit w.params b g [(wl,.list []),(pl,.list []),(x,.inst 1227 dx (ao7 iw pr rx lim tab pl 0 tk wl))] h'):=by
 refine en (binds:=[("self",.ref x),("is_written",iw),("precision",pr),("radix",rx),("limit",lim),("table",tab)]) G.bx1 X T room ?_
 kd_in
 exact rT.n ⟨rfl,_,_,_,S.sit⟩
theorem al5 (X:a01 w K b) (G:KOk K) (room:a04 A 2) {iw pr rx lim tab:Value} {Q:Value->Shared->Prop} (S:St w.params b g L l fp h)
  (k:∀x dx pl wl tk h'' t'',St w.params b g L l ((wl,.list [])::(pl,.list [])::(x,.inst 1227 dx (ao7 iw pr rx lim tab pl 0 tk wl))::fp) h''->Q (.ref x) (sh z h'' t'')):wpAny (model pw w) A (call (.ref 1227) [iw,pr,rx,lim,tab]) Q E (sh z h t):=
 aF4 (pa:=λx fp'=>X4 λdx pl wl tk=>fp'=[(wl,.list []),(pl,.list []),(x,.inst 1227 dx (ao7 iw pr rx lim tab pl 0 tk wl))]) S X G.bx7 (λU V U1 V1 T=>by
  refine codeAny_mono (aI5 X G (room.make (by decide)) T) ?_
  rintro r s' ⟨v,h',t',rfl,rfl,hv,pl,wl,tk,T'⟩
  exact⟨_,_,_,rfl,rfl,hv,_,⟨_,pl,wl,tk,rfl⟩,T'⟩) λx fp' h'' t'' ⟨dx,pl,wl,tk,e⟩ S'=>by subst e;exact k x dx pl wl tk h'' t'' S'
noncomputable abbrev a95 (word start things:Value) (n:Int) (tk:Tok) (tail:Value):List (Str × Value):=[("word",word),("start",start),("things",things),("state",.int n tk),("tail",tail)]
theorem aV8 (X:a01 w K b) (G:KOk K) (room:a04 A 1) {x dx:Addr} {u0 u1 u2:Value} (T:Sit w.params b g [(x,.inst 1036 dx [])] h):
  a07 w A z (.ref 1033) [.ref x,u0,u1,u2] h t (λr h'=>r= .none/\∃tk,Sit w.params b g [(x,.inst 1036 dx (a95 u0 u1 u2 0 tk (.ref 44)))] h'):=by
 refine en (binds:=[("self",.ref x),("word",u0),("start",u1),("things",u2)]) G.bA6 X T room ?_
 kd_in
 exact rT.n ⟨rfl,_,S.sit⟩
theorem au8 (X:a01 w K b) (G:KOk K) (room:a04 A 2) {u0 u1 u2:Value} {Q:Value->Shared->Prop} (S:St w.params b g L l fp h)
  (k:∀x dx tk h'' t'',St w.params b g L l ((x,.inst 1036 dx (a95 u0 u1 u2 0 tk (.ref 44)))::fp) h''->Q (.ref x) (sh z h'' t'')):wpAny (model pw w) A (call (.ref 1036) [u0,u1,u2]) Q E (sh z h t):=
 aF4 (pa:=λx fp'=>X2 λdx tk=>fp'=[(x,.inst 1036 dx (a95 u0 u1 u2 0 tk (.ref 44)))]) S X G.by6 (λU V U1 V1 T=>by
  refine codeAny_mono (aV8 X G (room.make (by decide)) T) ?_
  rintro r s' ⟨v,h',t',rfl,rfl,hv,tk,T'⟩
  exact⟨_,_,_,rfl,rfl,hv,_,⟨_,tk,rfl⟩,T'⟩) λx fp' h'' t'' ⟨dx,tk,e⟩ S'=>by subst e;exact k x dx tk h'' t'' S'
noncomputable abbrev ab1 (text:Str) (u0:Tok) (pr:Value) (n:Int) (tk:Tok):List (Str × Value):=[("text",.str text u0),("precision",pr),("place",.int n tk),("is_folded",.bool true)]
theorem aV7 (X:a01 w K b) (G:KOk K) (room:a04 A 1) {x dx:Addr} {text:Str} {u0 u1:Tok} (T:Sit w.params b g [(x,.inst 1015 dx [])] h):
  a07 w A z (.ref 942) [.ref x,.str text u0,.int 53 u1,.bool true] h t (λr h'=>r= .none/\∃tk,Sit w.params b g [(x,.inst 1015 dx (ab1 text u0 (.int 53 u1) 0 tk))] h'):=by
 refine en (binds:=[("self",.ref x),("text",.str text u0),("precision",.int 53 u1),("is_folded",.bool true)]) G.bs2 X T room ?_ (hbind:=ag1 X T G.t_935 (by kernel_rfl) rfl (by kernel_rfl))
 kd_in
 exact rT.n ⟨rfl,_,S.sit⟩
theorem b10 (X:a01 w K b) (G:KOk K) (room:a04 A 2) {text:Str} {u0 u1:Tok} {Q:Value->Shared->Prop} (S:St w.params b g L l fp h)
  (k:∀x dx tk h'' t'',St w.params b g L l ((x,.inst 1015 dx (ab1 text u0 (.int 53 u1) 0 tk))::fp) h''->Q (.ref x) (sh z h'' t'')):wpAny (model pw w) A (call (.ref 1015) [.str text u0,.int 53 u1,.bool true]) Q E (sh z h t):=
 aF4 (pa:=λx fp'=>X2 λdx tk=>fp'=[(x,.inst 1015 dx (ab1 text u0 (.int 53 u1) 0 tk))]) S X G.bx3 (λU V U1 V1 T=>by
  refine codeAny_mono (aV7 X G (room.make (by decide)) T) ?_
  rintro r s' ⟨v,h',t',rfl,rfl,hv,tk,T'⟩
  exact⟨_,_,_,rfl,rfl,hv,_,⟨_,tk,rfl⟩,T'⟩) λx fp' h'' t'' ⟨dx,tk,e⟩ S'=>by subst e;exact k x dx tk h'' t'' S'
noncomputable abbrev a81 (lx:Addr) (table:Value) (fr:Addr):List (Str × Value):=[("lexer",.ref lx),("table",table),("frames",.ref fr)]
theorem aN3 (X:a01 w K b) (G:KOk K) (room:a04 A 3) {x dx:Addr} {text:Str} {u0 u1:Tok} {tA:Addr} (T:Sit w.params b g [(x,.inst 1121 dx [])] h):
  a07 w A z (.ref 1055) [.ref x,.str text u0,.ref tA,.int 53 u1,.bool true] h t (λr h'=>r= .none/\X4 λlx dlx fr tk=>Sit w.params b g [(fr,.list []),(lx,.inst 1015 dlx (ab1 text u0 (.int 53 u1) 0 tk)),(x,.inst 1121 dx (a81 lx (.ref tA) fr))] h'):=by
 refine en (binds:=[("self",.ref x),("text",.str text u0),("table",.ref tA),("precision",.int 53 u1),("is_folded",.bool true)]) G.bv0 X T room ?_ (hbind:=ag1 X T G.t_1048 (by kernel_rfl) rfl (by kernel_rfl))
 kd_in
 refine b10 X G (room.deeper (by decide)) S ?_
 clear S;intro lx dlx tk h'' t'' S
 kd_subs
 exact rT.n ⟨rfl,_,_,_,_,S.sit⟩
noncomputable abbrev aw1 (rl bd:Addr):List (Str × Value):=[("rows",.ref rl),("by_text",.ref bd)]
theorem as5 (X:a01 w K b) (G:KOk K) (room:a04 A 1) {x dx:Addr} (T:Sit w.params b g [(x,.inst 131 dx [])] h):
  a07 w A z (.ref 86) [.ref x] h t (λr h'=>r= .none/\X2 λrl bd=>(bd==sysModules)=false/\Sit w.params b g [(bd,.cell (isD w [])),(rl,.list []),(x,.inst 131 dx (aw1 rl bd))] h'):=by
 refine en (binds:=[("self",.ref x)]) G.bw2 X T room ?_
 kd_in
 refine bh8 S X ?_;clear S;intro a h hm S
 kd_subs
 exact rT.n ⟨rfl,_,_,hm,S.sit⟩
theorem au7 (X:a01 w K b) (G:KOk K) (room:a04 A 2) {Q:Value->Shared->Prop} (S:St w.params b g L l fp h)
  (k:∀x dx rl bd h'' t'',(bd==sysModules)=false->St w.params b g L l ((bd,.cell (isD w []))::(rl,.list [])::(x,.inst 131 dx (aw1 rl bd))::fp) h''->Q (.ref x) (sh z h'' t'')):wpAny (model pw w) A (call (.ref 131) []) Q E (sh z h t):=
 aF4 (pa:=λx fp'=>X3 λdx rl bd=>(bd==sysModules)=false/\fp'=[(bd,.cell (isD w [])),(rl,.list []),(x,.inst 131 dx (aw1 rl bd))]) S X G.bB9 (λU V U1 V1 T=>by
  refine codeAny_mono (as5 X G (room.make (by decide)) T) ?_
  rintro r s' ⟨v,h',t',rfl,rfl,hv,rl,bd,hm,T'⟩
  exact⟨_,_,_,rfl,rfl,hv,_,⟨_,rl,bd,hm,rfl⟩,T'⟩) λx fp' h'' t'' ⟨dx,rl,bd,hm,e⟩ S'=>by subst e;exact k x dx rl bd h'' t'' hm S'
noncomputable abbrev al8 (title op:Value):List (Str × Value):=[("title",title),("op",op)]
theorem ax9 (X:a01 w K b) (G:KOk K) (room:a04 A 1) {x dx:Addr} {u:Value} (T:Sit w.params b g [(x,.inst 320 dx [])] h):
  a07 w A z (.ref 296) [.ref x,u] h t (λr h'=>∃fp',Sit w.params b g fp' h'/\r= .none/\fp'=[(x,.inst 320 dx [("title",u)])]):=by
 refine en (binds:=[("self",.ref x),("title",u)]) G.bt9 X T room ?_
 kd_in
 exact rT.n ⟨_,S.sit,rfl,rfl⟩
theorem ay0 (X:a01 w K b) (G:KOk K) (room:a04 A 2) {x dx:Addr} {op title:Value} (T:Sit w.params b g [(x,.inst 320 dx [])] h):
  a07 w A z (.ref 317) [.ref x,op,title] h t (λr h'=>r= .none/\∃al,al=al8 title op/\Sit w.params b g [(x,.inst 320 dx al)] h'):=by
 refine en (binds:=[("self",.ref x),("op",op),("title",title)]) G.bB1 X T room ?_
 kd_all
 have kP:=G.bt9.keep
 have gP:=G.by1
 dsimp only[List.reverse,List.reverseAux] at S
 kd_subs
 refine aF5 S X G.bv1 ?_
 kd_subs
 refine a05 [true] S (λg' U T=>ax9 X G (room.deeper (by decide)) T) ?_
 clear S;rintro v h t' fp' S ⟨rfl,rfl⟩;kcf_m
 kd_subs
 exact rT.n ⟨rfl,_,rfl,S.sit⟩
theorem aB2 (X:a01 w K b) (G:KOk K) (room:a04 A 3) {op title:Value} {Q:Value->Shared->Prop} (S:St w.params b g L l fp h)
  (k:∀x dx h'' t'',St w.params b g L l ((x,.inst 320 dx (al8 title op))::fp) h''->Q (.ref x) (sh z h'' t'')):wpAny (model pw w) A (call (.ref 320) [op,title]) Q E (sh z h t):=
 ag8 (pa:=λal=>al=al8 title op) S X G.bt0 (λU V U1 V1 T=>ay0 X G (room.make (by decide)) T) λx dx al h'' t'' e S'=>k x dx h'' t'' (e▸S')
end
section
theorem ar1 {cx:Cx} (X:a01 w K b) (G:KOk K) (room:a04 cx.A 3) (hh:cx.A.handled=none) {lst:Addr} {vs:List Value} {tail:Value} (hvs:vs.length<1000)
  (rts:∀{v:Value} {h:Heap} {t:Nat},(X2 λd' fp'=>a48 w.params b fr d d' fp' h/\aj2 d' v vs tail/\fp'=[(lst,.list vs)])->cx.R (.ret v) (sh z h t)) (S:St w.params b (fr.or d) cx.L [("tail",tail),("things",.ref lst)] [(lst,.list vs)] h):
  Dn w z K ai4 cx (.xs ai4.body) [] (sh z h t):=by
 kd_subs
 refine a34 (S.isList 0 rfl) (by exact ltT (by keq_rows)) ?_;intro tk0
 kd_subs
 refine aO5 S (by decide) (aH0 _) ?_;clear S;intro r h S
 refine ag9 0 S rfl (ay5 _ (by exact ltT (by keq_rows))) ?_;clear S;intro I h S
 rw[at9] at S
 replace S:=S.drop (.cons_cons _ (.cons _ (.refl _)))
 refine av2 (n:=vs.length) (λi h U=>X3 λ(d':Bas) (v:Value) (qs:List (Str × Value))=>A3 (aa2 fr d d') (aj2 d' v (vs.drop (vs.length -i)) tail)
  (St w.params b (fr.or d') cx.L (("found",v)::("tail",tail)::("things",.ref lst)::qs) [(I,.cell (bc4 ((vs.length:Int) -1 -i) ((vs.length:Int) -i) (-1))),(lst,.list vs)] h)) ?_ ?_ vs.length 0 h _ (by lia)
  ⟨d,tail,[],aa2.refl,by simp [aj2],by simpa using S⟩
 ·clear S
  rintro i h t hi ⟨d',v,qs,Gr,Ch,S⟩ Jn nx
  refine ag7 0 S rfl (by lia) ?_;clear S;intro h tk S;dsimp+zetaDelta only[List.set] at S
  refine⟨_,rfl,?_⟩
  have hx:∃x,vs[((vs.length:Int) -1 -i).toNat]?=some x:=⟨_,List.getElem?_eq_getElem (by lia)⟩
  obtain⟨x,hx⟩:=hx
  have hd:vs.drop (vs.length -(i+1))=x::vs.drop (vs.length -i):=by
   have e:((vs.length:Int) -1 -i).toNat=vs.length -(i+1):=aS1
   rw[e] at hx
   obtain⟨hlt,hx⟩:=List.getElem?_eq_some_iff.mp hx
   rw[List.drop_eq_getElem_cons hlt,hx]
   congr 2
   lia
  have e1:((vs.length:Int) -1 -i+ -1)=(vs.length:Int) -1 -((i+1:Nat):Int):=by lia
  have e2:((vs.length:Int) -i -1)=(vs.length:Int) -((i+1:Nat):Int):=by lia
  rw[e1,e2] at S
  kd_subs
  refine a27 (S.isList 1 rfl) (by lia) (by lia) hx ?_
  kd_subs
  refine aB3 X G (room.less (by decide)) S ?_;clear S;intro p dx h t S
  kd_subs
  refine nx ⟨_,.ref p,_,Gr.trans S.frz.2,?_,((S.frz.1.front (x:="things") rfl).front (x:="tail") rfl).front (x:="found") rfl⟩
  rw[hd]
  exact⟨p,v,rfl,a84 S,Ch.sub S.frz.2.mono⟩
 ·clear S
  rintro h t ⟨d',v,qs,Gr,Ch,S⟩
  refine a71 0 S hh rfl (by lia) ?_;clear S;intro h S;dsimp+zetaDelta only[List.eraseIdx] at S
  refine⟨rfl,?_⟩
  kd_subs
  refine rts ⟨d',_,Gr.back S.sit,?_,rfl⟩
  simpa using Ch
theorem aG4 (X:a01 w K b) (G:KOk K) (room:a04 A 4) (hh:A.handled=none) {lst:Addr} {vs:List Value} {tail:Value} (hvs:vs.length<1000) (T:Sit w.params b (fr.or d) [(lst,.list vs)] h):
  a07 w A z (.ref 340) [.ref lst,tail] h t (λv h'=>X2 λd' fp'=>a48 w.params b fr d d' fp' h'/\aj2 d' v vs tail/\fp'=[(lst,.list vs)]):=by
 refine en (binds:=[("things",.ref lst),("tail",tail)]) G.bD4 X T room ?_ (hbind:=ag1 X T G.t_333 (by kernel_rfl) rfl (by kernel_rfl))
 kd_all
 exact ar1 X G (room.deeper (by decide)) hh hvs rT.s S
theorem a80 (X:a01 w K b) (G:KOk K) (room:a04 A 4) (hh:A.handled=none) {lst:Addr} {vs:List Value} (hvs:vs.length<1000) (T:Sit w.params b (fr.or d) [(lst,.list vs)] h):
  a07 w A z (.ref 340) [.ref lst] h t (λv h'=>X2 λd' fp'=>a48 w.params b fr d d' fp' h'/\aj2 d' v vs (.ref 44)/\fp'=[(lst,.list vs)]):=by
 refine en (binds:=[("things",.ref lst),("tail",.ref 44)]) G.bD4 X T room ?_ (hbind:=ag1 X T G.t_333 (by kernel_rfl) rfl (by kernel_rfl))
 kd_all
 exact ar1 X G (room.deeper (by decide)) hh hvs rT.s S
end
section
noncomputable def names:List Str:=["quote","quasiquote","unquote","unquote-splicing","x","...","q?","A","a b","","1x","(","a.B"]
noncomputable abbrev TB:=List (Str × Addr)
noncomputable def kvs (tb:TB):List (Str × Value):=tb.map λp=>(p.1,.ref p.2)
structure a17 (d:Bas) (tb:TB) (bd:Addr) (rows:List Value) (nf:Nat):Prop where
 bd:(bd==sysModules)=false
 syms:∀p∈tb,X3 λn u v=>a00 d p.2 68 (a21 (.int n u) (.str p.1 v))
 keys:∀p∈tb,p.1∈names
 nd:(tb.map (·.1)).Nodup
 len:rows.length=tb.length+nf
theorem aP0 {α:Type} [BEq α] [LawfulBEq α]:∀(l ns:List α),l.Nodup->(∀x∈l,x∈ns)->l.length<=ns.length
 |[],U,V,U1=>Nat.zero_le _
 |x::r,ns,nd,h=>by
  rw[List.nodup_cons] at nd
  have hx:=h x (.head _)
  have:=aP0 r (ns.erase x) nd.2 λy hy=>(List.mem_erase_of_ne (λq=>nd.1 (by rw[<-q];exact hy))).mpr (h y (.tail _ hy))
  rw[List.length_erase_of_mem hx] at this
  have:0<ns.length:=List.length_pos_of_mem hx
  simp only[List.length_cons]
  lia
theorem a17.small {d:Bas} {tb:TB} {bd:Addr} {rows:List Value} {nf:Nat} (T:a17 d tb bd rows nf) (hf:nf<900):rows.length<1000/\tb.length<1000:=by
 have:=aP0 (tb.map (·.1)) names T.nd λx hx=>by
  obtain⟨p,hp,rfl⟩:=List.mem_map.mp hx
  exact T.keys p hp
 have hn:names.length=13:=rfl
 rw[List.length_map] at this
 have:=T.len
 lia
theorem a17.sub {d d':Bas} {tb:TB} {bd:Addr} {rows:List Value} {nf:Nat} (T:a17 d tb bd rows nf) (k:Sub d d'):a17 d' tb bd rows nf:=
 ⟨T.bd,λp hp=>by obtain⟨n,u,v,q⟩:=T.syms p hp;exact⟨n,u,v,q.sub k⟩,T.keys,T.nd,T.len⟩
noncomputable abbrev Tab (w:World) (tb:TB) (tA dT rl bd:Addr) (rows:List Value):FP:=[(tA,.inst 131 dT (aw1 rl bd)),(rl,.list rows),(bd,.cell (isD w (kvs tb)))]
theorem ak9 (x:Str):∀tb:TB,valueAt (kvs tb) x=(tb.lookup x).map Value.ref
 |[]=>rfl
 |(n,a)::r=>by
  have ih:=ak9 x r
  unfold valueAt kvs at*
  by_cases q:n=x
  ·subst q;simp [List.lookup]
  ·have:(x==n)=false:=by simpa using Ne.symm q
   simp only[List.map_cons,List.find?_cons,List.lookup,this]
   simp [q]
   simpa using ih
theorem aS2 {x:Str} {a:Addr} {tb:TB} (hx:tb.lookup x=none):stored (kvs tb) x (.ref a)=kvs (tb++[(x,a)]):=by
 have:(kvs tb).any (λkv=>decide (kv.1=x))=false:=by
  unfold kvs
  rw[List.any_map,List.any_eq_false]
  intro p hp
  simp only[Function.comp,decide_eq_true_eq]
  intro q
  have:=List.lookup_eq_none_iff.mp hx p hp
  simp [q] at this
 unfold stored
 rw[this]
 simp [kvs]
theorem a64 (X:a01 w K b) (G:KOk K) (room:a04 A 3) {tb:TB} {tA dT rl bd:Addr} {rows:List Value} {nf:Nat} {x:Str} {u:Tok} (hf:nf<900) (hx:x∈names) (Tb:a17 d tb bd rows nf)
  (T:Sit w.params b (fr.or d) (Tab w tb tA dT rl bd rows) h):
  a07 w A z (.ref 93) [.ref tA,.str x u] h t (λv h'=>X2 λd' fp'=>a48 w.params b fr d d' fp' h'/\X3 λtb' rows' a=>A5 (v= .ref a) (tb'.lookup x=some a) ((tb'=tb∨tb'=tb++[(x,a)])) (a17 d' tb' bd rows' nf) (fp'=Tab w tb' tA dT rl bd rows')):=by
 refine en (binds:=[("self",.ref tA),("text",.str x u)]) G.bw5 X T room ?_
 kd_in
 refine aZ9 2 S rfl ?_
 kd_subs
 refine bb2 2 S rfl Tb.bd ?_;intro t
 rw[ak9]
 obtain⟨hr,hsz⟩:=Tb.small hf
 cases e:tb.lookup x with
 |some a=>
  dsimp only[Option.map,Option.getD]
  kd_subs
  exact rT.s ⟨d,_,a48.same S.sit,tb,rows,a,rfl,e,.inl rfl,Tb,rfl⟩
 |none=>
  dsimp only[Option.map,Option.getD]
  kd_subs
  refine a34 (S.isList 1 rfl) (by exact ltT (by keq_rows)) ?_;intro tk0
  kd_subs
  refine az0 X G (room.deeper (by decide)) S ?_;clear S;intro a da h t S
  kd_subs
  refine a02 2 S rfl (szE (ltl (by keq_rows))) ?_;kcj_m
  kd_subs
  refine bn0 3 S rfl (by unfold kvs;rw[List.length_map,sizeLine_eq];exact ltl (by keq_rows)) ?_;kcj_m
  rw[aS2 e] at S
  kd_subs
  have I:=a84 (d:=d) S
  refine rT.s ⟨_,_,S.frz.2.back S.frz.1.sit,tb++[(x,a)],rows++[.ref a],a,rfl,?_,.inr rfl,⟨Tb.bd,?_,?_,?_,?_⟩,rfl⟩
  ·rw [List.lookup_append,e];simp [List.lookup]
  ·intro p hp
   rcases List.mem_append.mp hp with hp |hp
   ·obtain ⟨n,u,v,q⟩:=Tb.syms p hp
    exact⟨n,u,v,q.sub aC1⟩
   ·rw [List.mem_singleton] at hp
    subst hp
    exact⟨_,_,_,I⟩
  ·intro p hp
   rcases List.mem_append.mp hp with hp |hp
   ·exact Tb.keys p hp
   ·rw [List.mem_singleton] at hp
    subst hp
    exact hx
  ·rw [List.map_append,List.nodup_append]
   refine⟨Tb.nd,by simp,λn hn m hm q=>?_⟩
   simp only[List.map_cons,List.map_nil,List.mem_singleton] at hm
   subst hm
   subst q
   obtain⟨p,hp,hpx⟩:=List.mem_map.mp hn
   have:=List.lookup_eq_none_iff.mp e p hp
   simp [hpx] at this
  ·have:=Tb.len
   simp;lia
noncomputable def aG7 (n:Nat):Str:=(Str.empty++Str.ofString "g")++Str.ofString "."++Str.ofString (toString (n:Int))
theorem aU1 (X:a01 w K b) (G:KOk K) (room:a04 A 3) {tb:TB} {tA dT rl bd:Addr} {rows:List Value} {nf:Nat} {u:Tok} (hf:nf<900) (Tb:a17 d tb bd rows nf)
  (T:Sit w.params b (fr.or d) (Tab w tb tA dT rl bd rows) h):
  a07 w A z (.ref 100) [.ref tA,.str (Str.ofString "g") u] h t (λv h'=>X2 λd' fp'=>a48 w.params b fr d d' fp' h'/\X4 λa n u v'=>A4 (v= .ref a) (a00 d' a 68 (a21 (.int n u) (.str (aG7 rows.length) v'))) (a17 d' tb bd (rows++[.ref a]) (nf+1)) (fp'=Tab w tb tA dT rl bd (rows++[.ref a]))):=by
 refine en (binds:=[("self",.ref tA),("hint",.str (Str.ofString "g") u)]) G.bC9 X T room ?_
 kd_in
 obtain⟨hr,_⟩:=Tb.small hf
 have hs5:=av4 hr
 refine a34 (S.isList 1 rfl) (by exact ltT (by keq_rows)) ?_;intro tk0
 kd_subs
 have hg:(Str.empty++Str.ofString "g").length=1:=by decide+kernel
 have hd:(Str.ofString ".").length=1:=by decide+kernel
 refine aW6 (by decide+kernel) ?_;intro tk1 t
 refine⟨by rw[hg,sizeLine_eq];decide,?_⟩
 kd_subs
 refine⟨by rw[Str.length_append,hg,hd,sizeLine_eq];decide,?_⟩
 kd_subs
 refine a34 (S.isList 1 rfl) (by exact ltT (by keq_rows)) ?_;intro tk2
 refine ba9 (by lia) ?_;intro tk3
 refine⟨by rw[Str.length_append,Str.length_append,hg,hd,sizeLine_eq];lia,?_⟩
 refine b79 (szE (by rw[Str.length_append,Str.length_append,hg,hd];lia)) ?_;intro tk4
 kd_subs
 refine az0 X G (room.deeper (by decide)) S ?_;clear S;intro a da h t S
 kd_subs
 refine a02 2 S rfl (szE (ltl (by keq_rows))) ?_;kcj_m
 kd_subs
 exact rT.s ⟨_,_,S.frz.2.back S.frz.1.sit,a,_,_,_,rfl,a84 S,⟨Tb.bd,(Tb.sub aC1).syms,Tb.keys,Tb.nd,by have:=Tb.len;simp;lia⟩,rfl⟩
theorem as3 (X:a01 w K b) (G:KOk K) (room:a04 A 3) {tb:TB} {tA dT rl bd a:Addr} {rows:List Value} {x:Str} {n:Int} {u v:Tok} {nf:Nat} (Tb:a17 d tb bd rows nf)
  (I:a00 d a 68 (a21 (.int n u) (.str x v))) (T:Sit w.params b (fr.or d) (Tab w tb tA dT rl bd rows) h):
  a07 w A z (.ref 121) [.ref tA,.ref a] h t (λr h'=>∃fp',Sit w.params b (fr.or d) fp' h'/\fp'=Tab w tb tA dT rl bd rows/\r= .bool (tb.lookup x==some a)):=by
 refine en (binds:=[("self",.ref tA),("symbol",.ref a)]) G.bv2 X T room ?_
 kd_all
 dsimp only[List.reverse,List.reverseAux] at S
 have I':a00 (fr.or d) a 68 (a21 (.int n u) (.str x v)):=I.sub a12
 unfold a21 at I'
 kd_subs
 refine aZ9 2 S rfl ?_
 kd_subs
 refine bb2 2 S rfl Tb.bd ?_;intro t
 rw[ak9]
 kd_subs
 cases e:tb.lookup x with
 |none=>
  dsimp only[Option.map,Option.getD]
  refine aW1 ?_
  exact rT.s ⟨_,S.sit,rfl,by rw[e];rfl⟩
 |some c=>
  dsimp only[Option.map,Option.getD]
  obtain⟨n',u',v',q⟩:=Tb.syms _ (a16 e)
  refine b59 (S.binst (q.sub a12)) (S.binst I') ?_
  exact rT.s ⟨_,S.sit,rfl,by rw[e,Option.some_beq_some,BT.beq_eq];rfl⟩
end
section
inductive Mk where
 |quote |quasi |unq |splice
noncomputable def Mk.name:Mk->Str
 | .quote=>Str.ofString "quote" | .quasi=>Str.ofString "quasiquote" | .unq=>Str.ofString "unquote" | .splice=>Str.ofString "unquote-splicing"
noncomputable def Mk.sign:Mk->Str
 | .quote=>Str.ofString "'" | .quasi=>Str.ofString "`" | .unq=>Str.ofString "," | .splice=>Str.ofString ",@"
inductive Dt where
 |int (n:Int)|sym (s:Str)|raw (s:Str)|text (cs:List Nat)|char (c:Nat)|eof |unspec |nil |box |promise |port (n:Int)|prim
 |vec (a c:Dt)|q1 (m:Mk) (a:Dt)|q2 (m:Mk) (a c:Dt)
noncomputable def ab2 (d:Bas) (a:Addr) (vs:List Value):Prop:=∃n,d a (listOf vs.toArray n)
theorem ab2.sub {d d':Bas} {a:Addr} {vs:List Value} (I:ab2 d a vs) (k:Sub d d'):ab2 d' a vs:=by
 obtain⟨n,e⟩:=I
 exact⟨n,k _ _ e⟩
theorem ab2.isList {d:Bas} {h:Heap} {a:Addr} {vs:List Value} (I:ab2 d a vs) (k:Keeps d h):h.IsList a vs.toArray:=by
 obtain⟨n,e⟩:=I
 exact⟨_,k _ _ e,rfl,n,rfl⟩
noncomputable def ax7:List Value->List Nat->Prop
 |[],[]=>True
 |v::vs,c::cs=>(∃t,v= .int (c:Int) t)/\ax7 vs cs
 |U,V=>False
noncomputable def Rep (tb:TB) (d:Bas):Value->Dt->Prop
 |v,.int n=>∃t,v= .int n t
 |v,.sym s=>X4 λa n u w=>A3 (v= .ref a) (tb.lookup s=some a) (a00 d a 68 (a21 (.int n u) (.str s w)))
 |v,.raw s=>X4 λa n u w=>A3 (v= .ref a) (s∉names) (a00 d a 68 (a21 (.int n u) (.str s w)))
 |v,.text cs=>X3 λa lc vs=>A4 (v= .ref a) (a00 d a 194 [("codes",.ref lc)]) (ab2 d lc vs) (ax7 vs cs)
 |v,.char c=>X2 λa t=>v= .ref a/\a00 d a 173 [("code",.int (c:Int) t)]
 |v,.eof=>v= .ref 50
 |v,.unspec=>v= .ref 47
 |v,.nil=>v= .ref 44
 |v,.box=>X2 λa t=>v= .ref a/\a00 d a 236 [("content",.int 1 t)]
 |v,.promise=>X2 λa t=>v= .ref a/\a00 d a 257 [("is_done",.bool false),("content",.int 1 t)]
 |v,.port n=>X2 λa t=>v= .ref a/\a00 d a 278 [("number",.int n t)]
 |v,.prim=>X3 λa t u=>v= .ref a/\a00 d a 320 [("title",.str (Str.ofString "car") t),("op",.int 3 u)]
 |v,.vec x y=>X4 λa l vx vy=>A5 (v= .ref a) (a00 d a 215 [("things",.ref l)]) (ab2 d l [vx,vy]) (Rep tb d vx x) (Rep tb d vy y)
 |v,.q1 m x=>X2 λa vx=>A3 (aj2 d v [.ref a,vx] (.ref 44)) (tb.lookup m.name=some a) (Rep tb d vx x)
 |v,.q2 m x y=>X3 λa vx vy=>A4 (aj2 d v [.ref a,vx,vy] (.ref 44)) (tb.lookup m.name=some a) (Rep tb d vx x) (Rep tb d vy y)
noncomputable def Ext (tb tb':TB):Prop:=∀s a,tb.lookup s=some a->tb'.lookup s=some a
theorem Ext.app {tb:TB} {e:TB}:Ext tb (tb++e):=λs a h=>by rw[List.lookup_append,h];rfl
theorem Ext.refl {tb:TB}:Ext tb tb:=λU V h=>h
theorem Rep.mono {tb tb':TB} {d d':Bas} (e:Ext tb tb') (k:Sub d d') {g:Dt} {v:Value} (R:Rep tb d v g):Rep tb' d' v g:=by
 induction g generalizing v with
 |sym U=>obtain⟨a,n,u,w,h1,h2,h3⟩:=R;exact⟨a,n,u,w,h1,e _ _ h2,h3.sub k⟩
 |raw U=>obtain⟨a,n,u,w,h1,h2,h3⟩:=R;exact⟨a,n,u,w,h1,h2,h3.sub k⟩
 |text U=>obtain⟨a,l,vs,h1,h2,h3,h4⟩:=R;exact⟨a,l,vs,h1,h2.sub k,h3.sub k,h4⟩
 |char U=>obtain⟨a,t,h1,h2⟩:=R;exact⟨a,t,h1,h2.sub k⟩
 |box=>obtain⟨a,t,h1,h2⟩:=R;exact⟨a,t,h1,h2.sub k⟩
 |promise=>obtain⟨a,t,h1,h2⟩:=R;exact⟨a,t,h1,h2.sub k⟩
 |port U=>obtain⟨a,t,h1,h2⟩:=R;exact⟨a,t,h1,h2.sub k⟩
 |prim=>obtain⟨a,t,u,h1,h2⟩:=R;exact⟨a,t,u,h1,h2.sub k⟩
 |vec U V i1 i2=>obtain⟨a,l,x,y,h1,h2,h3,h4,h5⟩:=R;exact⟨a,l,x,y,h1,h2.sub k,h3.sub k,i1 h4,i2 h5⟩
 |q1 U V i1=>obtain⟨a,x,h1,h2,h3⟩:=R;exact⟨a,x,h1.sub k,e _ _ h2,i1 h3⟩
 |q2 U V U1 i1 i2=>obtain⟨a,x,y,h1,h2,h3,h4⟩:=R;exact⟨a,x,y,h1.sub k,e _ _ h2,i1 h3,i2 h4⟩
 | _=>exact R
end
section
theorem a10 (X:a01 w K b) (G:KOk K) (room:a04 A 1) {a C:Addr} {al:List (Str × Value)} (hC:aJ0.contains C=true) (I:a00 g a C al) (T:Sit w.params b g fp h):
  a07 w A z (.ref 347) [.ref a] h t (λr h'=>∃fp',Sit w.params b g fp' h'/\fp'=fp/\r= .bool false):=by
 refine en (binds:=[("datum",.ref a)]) G.bC3 X T room ?_
 kd_in
 refine aR1 S X G (S.binst I) hC ?_;intro t
 exact rT.s ⟨_,S.sit,rfl,rfl⟩
theorem ak5 (X:a01 w K b) (G:KOk K) (room:a04 A 1) {n:Int} {u:Tok} (T:Sit w.params b g fp h):
  a07 w A z (.ref 1168) [.int n u] h t (λr h'=>∃fp',Sit w.params b g fp' h'/\fp'=fp/\r= .none):=by
 refine en (binds:=[("datum",.int n u)]) G.by8 X T room ?_
 kd_in
 exact rT.s ⟨_,S.sit,rfl,rfl⟩
theorem ax3 (X:a01 w K b) (G:KOk K) (room:a04 A 1) {n:Int} {u:Tok} (T:Sit w.params b g fp h):
  a07 w A z (.ref 347) [.int n u] h t (λr h'=>∃fp',Sit w.params b g fp' h'/\fp'=fp/\r= .bool false):=by
 refine en (binds:=[("datum",.int n u)]) G.bC3 X T room ?_
 kd_in
 refine IsiPair.int_bool ?_
 exact rT.s ⟨_,S.sit,rfl,rfl⟩
theorem au5 (X:a01 w K b) (G:KOk K) (room:a04 A 1) {a:Addr} {v v2:Value} (I:a00 g a 194 [("codes",v)]) (T:Sit w.params b g fp h):
  a07 w A z (.ref 1168) [.ref a] h t (λr h'=>∃fp',Sit w.params b g fp' h'/\fp'=fp/\r= .none):=by
 refine en (binds:=[("datum",.ref a)]) G.by8 X T room ?_
 kd_in
 exact rT.s ⟨_,S.sit,rfl,rfl⟩
theorem au6 (X:a01 w K b) (G:KOk K) (room:a04 A 1) {a:Addr} {v v2:Value} (I:a00 g a 173 [("code",v)]) (T:Sit w.params b g fp h):
  a07 w A z (.ref 1168) [.ref a] h t (λr h'=>∃fp',Sit w.params b g fp' h'/\fp'=fp/\r= .none):=by
 refine en (binds:=[("datum",.ref a)]) G.by8 X T room ?_
 kd_in
 exact rT.s ⟨_,S.sit,rfl,rfl⟩
theorem aa7 (X:a01 w K b) (G:KOk K) (room:a04 A 1) {a:Addr} {v v2:Value} (I:a00 g a 257 [("is_done",v),("content",v2)]) (T:Sit w.params b g fp h):
  a07 w A z (.ref 1168) [.ref a] h t (λr h'=>∃fp',Sit w.params b g fp' h'/\fp'=fp/\∃tk,r= .str (Str.ofString "#<promise>") tk):=by
 refine en (binds:=[("datum",.ref a)]) G.by8 X T room ?_
 kd_in
 exact rT.s ⟨_,S.sit,rfl,_,rfl⟩
theorem ak6 (X:a01 w K b) (G:KOk K) (room:a04 A 1) {a:Addr} {v v2:Value} (I:a00 g a 236 [("content",v)]) (T:Sit w.params b g fp h):
  a07 w A z (.ref 1168) [.ref a] h t (λr h'=>∃fp',Sit w.params b g fp' h'/\fp'=fp/\∃tk,r= .str (Str.ofString "#<box>") tk):=by
 refine en (binds:=[("datum",.ref a)]) G.by8 X T room ?_
 kd_in
 exact rT.s ⟨_,S.sit,rfl,_,rfl⟩
theorem a43 (X:a01 w K b) (G:KOk K) (room:a04 A 1) {a:Addr} {x:Str} {u:Tok} (hx:x.length<100) (I:a00 g a 38 [("title",.str x u)]) (T:Sit w.params b g fp h):
  a07 w A z (.ref 1168) [.ref a] h t (λr h'=>∃fp',Sit w.params b g fp' h'/\fp'=fp/\∃tk,r= .str (Str.empty++Str.ofString "#<"++x++Str.ofString ">") tk):=by
 refine en (binds:=[("datum",.ref a)]) G.by8 X T room ?_
 kd_all
 dsimp only[List.reverse,List.reverseAux] at S
 have h1:(Str.empty++Str.ofString "#<").length=2:=by decide+kernel
 have h2:(Str.ofString ">").length=1:=by decide+kernel
 kd_subs
 refine⟨by rw[h1,sizeLine_eq];decide,?_⟩
 kd_subs
 refine aW6 (szE (ltl (by keq_rows))) ?_;intro tk1 t
 refine⟨by rw[Str.length_append,h1,sizeLine_eq];lia,?_⟩
 kd_subs
 refine⟨by rw[Str.length_append,Str.length_append,h1,h2,sizeLine_eq];lia,?_⟩
 refine b79 (szE (by rw[Str.length_append,Str.length_append,h1,h2];lia)) ?_;intro tk4
 exact rT.s ⟨_,S.sit,rfl,_,rfl⟩
theorem ah1 (X:a01 w K b) (G:KOk K) (room:a04 A 1) {a:Addr} {x:Str} {u:Tok} {v:Value} (hx:x.length<100) (I:a00 g a 320 [("title",.str x u),("op",v)]) (T:Sit w.params b g fp h):
  a07 w A z (.ref 1168) [.ref a] h t (λr h'=>∃fp',Sit w.params b g fp' h'/\fp'=fp/\∃tk,r= .str (Str.empty++Str.ofString "#<procedure "++x++Str.ofString ">") tk):=by
 refine en (binds:=[("datum",.ref a)]) G.by8 X T room ?_
 kd_all
 dsimp only[List.reverse,List.reverseAux] at S
 have h1:(Str.empty++Str.ofString "#<procedure ").length=12:=by decide+kernel
 have h2:(Str.ofString ">").length=1:=by decide+kernel
 kd_subs
 refine⟨by rw[h1,sizeLine_eq];decide,?_⟩
 kd_subs
 refine aW6 (szE (ltl (by keq_rows))) ?_;intro tk1 t
 refine⟨by rw[Str.length_append,h1,sizeLine_eq];lia,?_⟩
 kd_subs
 refine⟨by rw[Str.length_append,Str.length_append,h1,h2,sizeLine_eq];lia,?_⟩
 refine b79 (szE (by rw[Str.length_append,Str.length_append,h1,h2];lia)) ?_;intro tk4
 exact rT.s ⟨_,S.sit,rfl,_,rfl⟩
theorem ah2 (X:a01 w K b) (G:KOk K) (room:a04 A 1) {a:Addr} {n:Nat} {u:Tok} (hn:n<1000) (I:a00 g a 278 [("number",.int (n:Int) u)]) (T:Sit w.params b g fp h):
  a07 w A z (.ref 1168) [.ref a] h t (λr h'=>∃fp',Sit w.params b g fp' h'/\fp'=fp/\∃tk,r= .str (Str.empty++Str.ofString "#<port "++Str.ofString (toString (n:Int))++Str.ofString ">") tk):=by
 refine en (binds:=[("datum",.ref a)]) G.by8 X T room ?_
 kd_all
 dsimp only[List.reverse,List.reverseAux] at S
 have h1:(Str.empty++Str.ofString "#<port ").length=7:=by decide+kernel
 have h2:(Str.ofString ">").length=1:=by decide+kernel
 have h3:=av4 hn
 kd_subs
 refine⟨by rw[h1,sizeLine_eq];decide,?_⟩
 kd_subs
 refine ba9 (by lia) ?_;intro tk1
 refine⟨by rw[Str.length_append,h1,sizeLine_eq];lia,?_⟩
 kd_subs
 refine⟨by rw[Str.length_append,Str.length_append,h1,h2,sizeLine_eq];lia,?_⟩
 refine b79 (szE (by rw[Str.length_append,Str.length_append,h1,h2];lia)) ?_;intro tk4
 exact rT.s ⟨_,S.sit,rfl,_,rfl⟩
end
section
noncomputable def Mk.all:Nat->Mk
 |0=>.quote |1=>.quasi |2=>.unq | _=>.splice
noncomputable def Mk.idx:Mk->Nat
 | .quote=>0 | .quasi=>1 | .unq=>2 | .splice=>3
noncomputable abbrev qtup:List Value:=[.ref 853,.ref 854,.ref 855,.ref 856]
theorem aK9 (G:KOk K) {i:Nat} (hi:i<4):X3 λc tk tk'=>qtup[i]?=some (.ref c)/\∃n,K.lookup c=some {cls:=.type "tuple",data:=.seq ([.str (Mk.all i).sign tk,.str (Mk.all i).name tk']:List Value).toArray n}:=by
 match i,hi with
 |0,U=>exact⟨_,_,_,rfl,G.t_853⟩
 |1,U=>exact⟨_,_,_,rfl,G.t_854⟩
 |2,U=>exact⟨_,_,_,rfl,G.t_855⟩
 |3,U=>exact⟨_,_,_,rfl,G.t_856⟩
theorem Mk.all_idx (m:Mk):Mk.all m.idx=m:=by induction m using Mk.casesOn<;>rfl
theorem Mk.idx_all {i:Nat} (hi:i<4):(Mk.all i).idx=i:=by
 match i,hi with
 |0,U=>rfl
 |1,U=>rfl
 |2,U=>rfl
 |3,U=>rfl
theorem Mk.idx_lt (m:Mk):m.idx<4:=by induction m using Mk.casesOn<;>decide
theorem Mk.name_mem (m:Mk):m.name∈names:=by induction m using Mk.casesOn<;>simp [Mk.name,names]
theorem b13:∀m n:Mk,m.name=n.name->m=n:=by
 have e:∀m n:Mk,(m.name==n.name)=true->m.idx=n.idx:=by
  intro m n
  induction m using Mk.casesOn<;>induction n using Mk.casesOn<;>decide+kernel
 intro m n q
 have:=e m n (by simpa using q)
 rw[<-Mk.all_idx m,<-Mk.all_idx n,this]
theorem a17.text_of {P:Prop} {d:Bas} {h:Heap} {tb:TB} {bd:Addr} {rows:List Value} {nf:Nat} (T:a17 d tb bd rows nf) (k:Keeps d h) {x y:Str} {a:Addr} (hx:tb.lookup x=some a) (hy:tb.lookup y=some a):x=y:=by
 obtain⟨n,u,v,I⟩:=T.syms _ (a16 hx)
 obtain⟨n',u',v',J⟩:=T.syms _ (a16 hy)
 obtain⟨_,e⟩:=aP3 (I.inst k) (J.inst k)
 unfold a21 at e
 injection e with _ e
 injection e with e _
 injection e with _ e
 injection e
theorem b11 {a c:Nat} (e:a≠c):Nat.beq a c=false:=by
 cases q:Nat.beq a c with
 |true=>exact absurd (Nat.eq_of_beq_eq_true q) e
 |false=>rfl
theorem Ext.trans {a c e:TB} (x:Ext a c) (y:Ext c e):Ext a e:=λs q h=>y s q (x s q h)
theorem Ext.of {tb tb':TB} {x:Str} {a:Addr} (e:tb'=tb∨tb'=tb++[(x,a)]):Ext tb tb':=by
 rcases e with rfl |rfl
 ·exact Ext.refl
 ·exact Ext.app
theorem ad5 (X:a01 w K b) (G:KOk K) (room:a04 A 5) (hh:A.handled=none) {tb:TB} {tA dT rl bd:Addr} {rows:List Value} {nf:Nat} (hf:nf<900) (Tb:a17 d tb bd rows nf) (hb:Sub (Bas.of b) fr)
  {v vx:Value} {a:Addr} {m:Mk} (C:aj2 d v [.ref a,vx] (.ref 44)) (ha:tb.lookup m.name=some a)
  (T:Sit w.params b (fr.or d) (Tab w tb tA dT rl bd rows) h):
  a07 w A z (.ref 1140) [v,.ref tA] h t (λr h'=>X2 λd' fp'=>a48 w.params b fr d d' fp' h'/\X3 λtb' rows' tk=>A4 (Ext tb tb') (a17 d' tb' bd rows' nf) (fp'=Tab w tb' tA dT rl bd rows') (r= .str m.sign tk)):=by
 obtain⟨p,rest,rfl,I1,p2,rest2,rfl,I2,C2⟩:=C
 have:rest2= .ref 44:=C2
 subst this
 refine en (binds:=[("datum",.ref p),("table",.ref tA)]) G.bB0 X T room ?_
 kd_all
 dsimp only[List.reverse,List.reverseAux] at S
 have J1:a00 (fr.or d) p 152 [("car",.ref a),("cdr",.ref p2)]:=I1.sub a12
 have J2:a00 (fr.or d) p2 152 [("car",vx),("cdr",.ref 44)]:=I2.sub a12
 kd_subs
 refine ap1 (a14 G X S) (a14 G X S) ?_
 kd_subs
 refine aj7 S (X.tup S G.t_857) ?_;clear S;intro I h S
 clear J1 J2
 refine av2 (n:=4) (λi h U=>X4 λ(d':Bas) (tb':TB) (rows':List Value) (qs:List (Str × Value))=>A5 (aa2 fr d d') (Ext tb tb') (a17 d' tb' bd rows' nf) (i<=m.idx)
  (St w.params b (fr.or d') cx.L (("table",.ref tA)::("datum",.ref p)::qs) ((I,.cell (b22 857 i))::Tab w tb' tA dT rl bd rows') h)) ?_ ?_ 4 0 h _ (by exact rfl)
  ⟨d,tb,rows,[],aa2.refl,Ext.refl,Tb,Nat.zero_le _,S⟩
 ·clear S
  rintro i h t hi ⟨d',tb',rows',qs,Gr,hx,Tb',him,S⟩ Jn nx
  obtain⟨c,tk,tk',hq,hc⟩:=aK9 G hi
  refine aj5 0 S rfl (X.tup S G.t_857) hq ?_;clear S;intro h _ S;dsimp+zetaDelta only[List.set] at S
  refine⟨_,rfl,?_⟩
  refine aB0 0 S rfl ?_
  refine ad6 0 X G S hh (X.tup S hc) (by kernel_rfl) ?_;keq_hits
  have J1:a00 (fr.or d') p 152 [("car",.ref a),("cdr",.ref p2)]:=(I1.sub Gr.mono).sub a12
  dsimp only[Tab] at S
  kd_subs
  refine a03 [false,true,true,true] S hb (λfr' hs T=>a64 X G (room.deeper (by decide)) hf (Mk.name_mem _) Tb' T) ?_
  clear S
  rintro v h t d'' fp'' Gr' S ⟨tb'',rows'',a',rfl,hl,hx',Tb'',rfl⟩
  dsimp+zetaDelta only[msk,List.cons_append,List.nil_append,Tab] at S
  have ha':=hx.trans (Ext.of hx') _ _ ha
  obtain⟨n1,u1,v1,Q1⟩:=Tb''.syms _ (a16 ha')
  obtain⟨n2,u2,v2,Q2⟩:=Tb''.syms _ (a16 hl)
  refine b59 (S.binst (Q1.sub a12)) (S.binst (Q2.sub a12)) ?_
  refine am7 ?_
  by_cases q:Mk.all i=m
  ·have e:a=a':=by rw[q,ha'] at hl;exact Option.some.inj hl
   subst e
   refine a32 400 true X G S (Nat.beq_refl _) ?_;clear S;kbo_bools
   kd_subs
   rw[q]
   exact rT.s ⟨d'',_,(Gr.trans Gr').back (S.drop (List.sublist_append_left _ _)).sit,tb'',rows'',tk,hx.trans (Ext.of hx'),Tb'',rfl,rfl⟩
  ·have e:a≠a':=λe=>q (b13 _ _ (Tb''.text_of (P:=True) (a12.keeps S.keep) hl (e▸ha')))
   refine a32 400 false X G S (b11 e) ?_;clear S;kbo_bools
   kd_subs
   have him':i+1<=m.idx:=by
    rcases Nat.lt_or_ge i m.idx with h |h
    ·exact h
    ·exact absurd (by rw[show i=m.idx by lia];exact Mk.all_idx m) q
   exact nx ⟨d'',tb'',rows'',_,Gr.trans Gr',hx.trans (Ext.of hx'),Tb'',him',((S.front (x:="datum") rfl).front (x:="table") rfl).perm (by exact List.perm_append_comm (l₁:=[_]))⟩
 ·rintro h t ⟨d',tb',rows',qs,Gr,hx,Tb',him,S⟩
  exact absurd m.idx_lt (by lia)
end
section
theorem aA2 {a dx:Addr} {x:Str} {u:Tok} (X:a01 w K b) (hb:Sub (Bas.of b) g) (e:K.lookup a=some (instObj 38 dx)/\X2 λes n=>K.lookup dx=some (dictOf es n)/\a22 es (a41 x u)):a00 g a 38 (a41 x u):=by
 obtain⟨e,es,n,e2,r⟩:=e
 exact⟨dx,es,n,hb _ _ (X.kin _ _ e),hb _ _ (X.kin _ _ e2),r⟩
theorem aM9 (G:KOk K) (X:a01 w K b) (hb:Sub (Bas.of b) g):a00 g 44 38 (a41 "empty" 225):=aA2 X hb G.bD3
theorem ae4 (G:KOk K) (X:a01 w K b) (hb:Sub (Bas.of b) g):a00 g 47 38 (a41 "unspecified" 231):=aA2 X hb G.bA9
theorem bi5 (G:KOk K) (X:a01 w K b) (hb:Sub (Bas.of b) g):a00 g 50 38 (a41 "eof" 237):=aA2 X hb G.bz8
theorem al3 (X:a01 w K b) (G:KOk K) (room:a04 A 1) {a C:Addr} {al:List (Str × Value)} {tv:Value} (I:a00 g a C al) (hC:aJ0.contains C=true) (hr:rel C 152=false) (T:Sit w.params b g fp h):
  a07 w A z (.ref 1140) [.ref a,tv] h t (λr h'=>∃fp',Sit w.params b g fp' h'/\fp'=fp/\r= .none):=by
 refine en (binds:=[("datum",.ref a),("table",tv)]) G.bB0 X T room ?_
 kd_in
 refine aR2 S X G (S.binst I) hC (by kernel_rfl!) ?_;intro t
 rw[hr]
 kd_subs
 exact rT.s ⟨_,S.sit,rfl,rfl⟩
theorem an6 (X:a01 w K b) (G:KOk K) (room:a04 A 1) {n:Int} {u:Tok} {tv:Value} (T:Sit w.params b g fp h):
  a07 w A z (.ref 1140) [.int n u,tv] h t (λr h'=>∃fp',Sit w.params b g fp' h'/\fp'=fp/\r= .none):=by
 refine en (binds:=[("datum",.int n u),("table",tv)]) G.bB0 X T room ?_
 kd_in
 exact rT.s ⟨_,S.sit,rfl,rfl⟩
theorem ad4 (X:a01 w K b) (G:KOk K) (room:a04 A 1) {v tv v1 v2 v3:Value} (C:aj2 g v [v1,v2,v3] (.ref 44)) (T:Sit w.params b g fp h):
  a07 w A z (.ref 1140) [v,tv] h t (λr h'=>∃fp',Sit w.params b g fp' h'/\fp'=fp/\r= .none):=by
 obtain⟨p,rest,rfl,I1,p2,rest2,rfl,I2,p3,rest3,rfl,I3,C2⟩:=C
 refine en (binds:=[("datum",.ref p),("table",tv)]) G.bB0 X T room ?_
 kd_in
 refine ad9 (S.binst I3) (a14 G X S) ?_
 kd_subs
 exact rT.s ⟨_,S.sit,rfl,rfl⟩
noncomputable def Dt.cls:Dt->Addr
 | .int U=>0 | .sym _=>68 | .raw _=>68 | .text _=>194 | .char _=>173 | .eof=>38 | .unspec=>38 | .nil=>38 | .box=>236 | .promise=>257 | .port _=>278 | .prim=>320 | .vec _ _=>215 | .q1 _ _=>152 | .q2 _ _ _=>152
theorem Rep.inst (X:a01 w K b) (G:KOk K) (hb:Sub (Bas.of b) fr) {tb:TB} {g:Dt} {v:Value} (R:Rep tb d v g) (h:∀n,g≠ .int n):X2 λa al=>v= .ref a/\a00 (fr.or d) a g.cls al:=by
 induction g using Dt.casesOn with
 |int n=>exact absurd rfl (h n)
 |sym U=>obtain⟨a,n,u,w,h1,h2,h3⟩:=R;exact⟨a,_,h1,h3.sub a12⟩
 |raw U=>obtain⟨a,n,u,w,h1,h2,h3⟩:=R;exact⟨a,_,h1,h3.sub a12⟩
 |eof=>exact⟨50,_,R,(bi5 G X hb).sub a29⟩
 |unspec=>exact⟨47,_,R,(ae4 G X hb).sub a29⟩
 |nil=>exact⟨44,_,R,(aM9 G X hb).sub a29⟩
 |text U=>obtain⟨a,l,vs,h1,h2,_⟩:=R;exact⟨a,_,h1,h2.sub a12⟩
 |prim=>obtain⟨a,t,u,h1,h2⟩:=R;exact⟨a,_,h1,h2.sub a12⟩
 |vec U V=>obtain⟨a,l,x,y,h1,h2,_⟩:=R;exact⟨a,_,h1,h2.sub a12⟩
 |q1 U V=>obtain⟨a,x,⟨p,r,h1,I,_⟩,_⟩:=R;exact⟨p,_,h1,I.sub a12⟩
 |q2 U V U1=>obtain⟨a,x,y,⟨p,r,h1,I,_⟩,_⟩:=R;exact⟨p,_,h1,I.sub a12⟩
 | _=>obtain⟨a,t,h1,h2⟩:=R;exact⟨a,_,h1,h2.sub a12⟩
noncomputable def Dt.lead:Dt->Option Mk
 | .q1 m U=>some m
 | _=>none
theorem al2 (X:a01 w K b) (G:KOk K) (room:a04 A 5) (hh:A.handled=none) {tb:TB} {tA dT rl bd:Addr} {rows:List Value} {nf:Nat} (hf:nf<900) (Tb:a17 d tb bd rows nf) (hb:Sub (Bas.of b) fr)
  {v:Value} {g:Dt} (R:Rep tb d v g) (T:Sit w.params b (fr.or d) (Tab w tb tA dT rl bd rows) h):
  a07 w A z (.ref 1140) [v,.ref tA] h t (λr h'=>X2 λd' fp'=>a48 w.params b fr d d' fp' h'/\X2 λtb' rows'=>A4 (Ext tb tb') (a17 d' tb' bd rows' nf) (fp'=Tab w tb' tA dT rl bd rows') ((match g.lead with |some m=>∃tk,r= .str m.sign tk |none=>r= .none))):=by
 have keep:∀{r:Value} {h':Heap},(∃fp',Sit w.params b (fr.or d) fp' h'/\fp'=Tab w tb tA dT rl bd rows/\r= .none)->g.lead=none->X2 λd' fp'=>a48 w.params b fr d d' fp' h'/\X2 λtb' rows'=>A4 (Ext tb tb') (a17 d' tb' bd rows' nf) (fp'=Tab w tb' tA dT rl bd rows') ((match g.lead with |some m=>∃tk,r= .str m.sign tk |none=>r= .none)):=by
  rintro r h' ⟨fp',T',rfl,rfl⟩ e
  rw[e]
  exact⟨d,_,a48.same T',tb,rows,Ext.refl,Tb,rfl,rfl⟩
 have atom:(∀n,g≠ .int n)->aJ0.contains g.cls=true->rel g.cls 152=false->g.lead=none->a07 w A z (.ref 1140) [v,.ref tA] h t (λr h'=>X2 λd' fp'=>a48 w.params b fr d d' fp' h'/\X2 λtb' rows'=>A4 (Ext tb tb') (a17 d' tb' bd rows' nf) (fp'=Tab w tb' tA dT rl bd rows') ((match g.lead with |some m=>∃tk,r= .str m.sign tk |none=>r= .none))):=by
  intro h1 h2 h3 h4
  obtain⟨a,al,rfl,I⟩:=Rep.inst X G hb R h1
  refine codeAny_mono (al3 X G (room.less (by decide)) I h2 h3 T) ?_
  rintro r s' ⟨v,h',t',rfl,rfl,q⟩
  exact⟨_,_,_,rfl,rfl,keep q h4⟩
 induction g using Dt.casesOn with
 |int n=>
  obtain⟨tk,rfl⟩:=R
  refine codeAny_mono (an6 X G (room.less (by decide)) T) ?_
  rintro r s' ⟨v,h',t',rfl,rfl,q⟩
  exact⟨_,_,_,rfl,rfl,keep q rfl⟩
 |q1 m x=>
  obtain⟨a,vx,C,ha,_⟩:=R
  refine codeAny_mono (ad5 X G room hh hf Tb hb C ha T) ?_
  rintro r s' ⟨v,h',t',rfl,rfl,d',fp',B,tb',rows',tk,h1,h2,h3,h4⟩
  exact⟨_,_,_,rfl,rfl,d',fp',B,tb',rows',h1,h2,h3,tk,h4⟩
 |q2 m x y=>
  obtain⟨a,vx,vy,C,ha,_⟩:=R
  refine codeAny_mono (ad4 X G (room.less (by decide)) (C.sub a12) T) ?_
  rintro r s' ⟨v,h',t',rfl,rfl,q⟩
  exact⟨_,_,_,rfl,rfl,keep q rfl⟩
 | _=>exact atom (by intro n e;cases e) (by kernel_rfl!) (by kernel_rfl!) rfl
end
section
noncomputable def tx (cs:List Nat):Str:=⟨cs.toArray⟩
theorem aE3:∀cs:List Nat,Txt.join (Str.ofString "") (cs.map λc=>⟨#[c]⟩)=tx cs:=by
 intro cs
 have:=join_nil_signs (tx cs)
 have e:signs (tx cs)=cs.map λc=>⟨#[c]⟩:=by simp [signs,tx]
 rw[e] at this
 show PySem.Builtin.Str.glued _ _=_
 rw[StrLaws.glued_eq_join]
 have q:Str.ofString ""=⟨#[]⟩:=by kernel_rfl
 rw[q]
 exact this
theorem ar4:∀{vs:List Value} {cs:List Nat} {ys:List Value},ax7 vs cs->Paired (λv y=>X3 λc t tk=>v= .int c t/\y= .str ⟨#[c.toNat]⟩ tk) vs ys->StrsAre ys (cs.map λc=>⟨#[c]⟩)
 |[],[],_,_,.nil=>.nil
 |v::vs,c::cs,_,⟨⟨t,h⟩,hc⟩,.cons ⟨c',t',tk,h1,h2⟩ r=>by
  subst h2
  rw[h1] at h
  cases h
  exact .cons _ _ (ar4 hc r)
 |[],_::_,_,h,_=>h.elim
 | _::_,[],_,h,_=>h.elim
theorem aH7:∀{vs:List Value} {cs:List Nat},ax7 vs cs->vs.length=cs.length
 |[],[],_=>rfl
 | _::_,_::_,⟨_,h⟩=>by simp [aH7 h]
 |[],_::_,h=>h.elim
 | _::_,[],h=>h.elim
theorem aH6:∀{vs:List Value} {cs:List Nat},ax7 vs cs->∀v∈vs,X2 λc t=>c∈cs/\v= .int (c:Int) t
 |v::vs,c::cs,⟨⟨t,h⟩,hc⟩,u,hu=>by
  rcases List.mem_cons.mp hu with rfl |hu
  ·exact ⟨c,t,.head _,h⟩
  ·obtain ⟨c',t',h1,h2⟩:=aH6 hc u hu
   exact⟨c',t',.tail _ h1,h2⟩
 |[],_,_,_,hu=>nomatch hu
 | _::_,[],h,_,_=>h.elim
theorem ae3 {α:Type} (l:List α):l.filter (λ_=>true)=l:=List.filter_eq_self.mpr λ_ _=>rfl
theorem aN8 (cs:List Nat):((cs.map λc=>(⟨#[c]⟩:Str)).map (·.length)).sum=cs.length:=by
 induction cs with
 |nil=>rfl
 |cons c r ih=>simp only[List.map_cons,List.sum_cons,ih,List.length_cons];have:(⟨#[c]⟩:Str).length=1:=rfl;lia
theorem af9 (X:a01 w K b) (G:KOk K) (room:a04 A 2) (hh:A.handled=none) {a lc:Addr} {vs:List Value} {cs:List Nat} (hn:cs.length<=1000) (hc:ax7 vs cs) (hm:∀c∈cs,c<=1114111) (I:a00 g a 194 [("codes",.ref lc)]) (Il:ab2 g lc vs) (T:Sit w.params b g fp h):
  a07 w A z (.ref 332) [.ref a] h t (λr h'=>∃fp',Sit w.params b g fp' h'/\fp'=fp/\∃tk,r= .str (tx cs) tk):=by
 refine en (binds:=[("text",.ref a)]) G.bC0 X T room ?_
 kd_all
 have bc:=G.bC6
 have bbc:=br0
 dsimp only[List.reverse,List.reverseAux] at S
 kd_subs
 refine aQ1 [] (λ_=>true) (λv y=>X3 λc t tk=>v= .int c t/\y= .str ⟨#[c.toNat]⟩ tk) ?_
 kd_subs
 refine aH5 S hh (Il.isList S.keep) (szE (by rw[aH7 hc];exact leT (by keq_rows))) (λC v s₃ m₃ E' hv hn hm' kp=>a93 (v:=v)) ?_ ?_
 ·intro C v s₃ m₃ E' hv _ hns hm' kp
  obtain⟨c,tc,hcm,rfl⟩:=aH6 hc v hv
  refine b36 ?_
  refine bg7 S X bc bbc kp ?_
  refine b43 ?_
  refine b48 ?_
  refine aM0 hns hm' ?_
  refine bj0 ?_
  exact chr_of_range (by exact Int.natCast_nonneg _) (by have:=hm c hcm;exact Int.ofNat_le.mpr (by keq_rows)) ⟨⟨_,_,_,rfl,rfl⟩,aG5 _ _⟩
 ·intro D ys h' t' hP S
  rw[ae3] at hP
  kd_subs
  refine ay2 (S.isList 0 rfl) (ar4 hc hP) ?_ ?_
  ·rw [aN8,List.length_map];have:(Str.ofString "").length=0:=rfl;rw[this];lia
  intro tk t
  rw[aE3]
  exact rT.s ⟨_,(S.drop (List.sublist_cons_self _ _)).sit,rfl,_,rfl⟩
end
section
theorem ap8 {P:Params} {d g:Bas} {x:Addr} {vs:List Value} (S:St P b g L l ((x,.list vs)::fp) h):ab2 (aC2 d h ((AO.list vs).cells x)) x vs:=by
 obtain⟨n,e⟩:=S.own.at_ _ (.head _)
 exact⟨n,.inr ⟨.head _,e⟩⟩
theorem aM6 {x:Str} {vs ys:List Value} (hl:vs.length=x.cps.size) (hv:∀j v,vs[j]?=some v->SignAt x j v) (hP:Paired (λv y=>X3 λc tk tk'=>v= .str ⟨#[c]⟩ tk/\y= .int (c:Int) tk') vs ys):ax7 ys x.cps.toList:=by
 have:∀(vs ys:List Value) (cs:List Nat),vs.length=cs.length->(∀(j:Nat) (v:Value),vs[j]?=some v->X2 λc u=>cs[j]?=some c/\v=Value.str ⟨#[c]⟩ u)->Paired (λ(v y:Value)=>X3 λc tk tk'=>v= .str ⟨#[c]⟩ tk/\y= .int (c:Int) tk') vs ys->ax7 ys cs:=by
  intro vs ys cs h1 h2 h3
  induction h3 generalizing cs with
  |nil=>
   induction cs using List.casesOn with
   |nil=>trivial
   |cons U V=>cases h1
  |cons e r ih=>
   induction cs using List.casesOn with
   |nil=>cases h1
   |cons c cs=>
    obtain⟨c',tk,tk',rfl,rfl⟩:=e
    obtain⟨c'',u,q1,q2⟩:=h2 0 _ rfl
    simp only[List.getElem?_cons_zero,Option.some.injEq] at q1
    subst q1
    injection q2 with q2
    injection q2 with q2
    have:c'=c:=by simpa using q2
    subst this
    exact⟨⟨_,rfl⟩,ih cs (by simpa using h1) λj v hj=>by simpa using h2 (j+1) v (by simpa using hj)⟩
 refine this vs ys _ (by simpa using hl) (λj v hj=>?_) hP
 obtain⟨c,u,q1,q2⟩:=hv j v hj
 exact⟨c,u,by simpa using q1,q2⟩
theorem ax2 (X:a01 w K b) (G:KOk K) (room:a04 A 3) (hh:A.handled=none) {x:Str} {u:Tok} (hn:x.length<=1000) (T:Sit w.params b (fr.or d) fp h):
  a07 w A z (.ref 327) [.str x u] h t (λr h'=>X2 λd' fp'=>a48 w.params b fr d d' fp' h'/\fp'=fp/\X3 λa lc vs=>A4 (r= .ref a) (a00 d' a 194 [("codes",.ref lc)]) (ab2 d' lc vs) (ax7 vs x.cps.toList)):=by
 refine en (binds:=[("told",.str x u)]) G.bD1 X T room ?_
 kd_all
 have bc:=G.bu2
 have bbc:=bq9
 dsimp only[List.reverse,List.reverseAux] at S
 kd_subs
 refine aQ1 [] (λU=>true) (λv y=>X3 λc tk tk'=>v= .str ⟨#[c]⟩ tk/\y= .int (c:Int) tk') ?_
 kd_subs
 refine aQ3 S hh (szE (leT (by keq_rows))) (λC i v s₃ m₃ E' hv hn hm' kp=>a93 (v:=v)) ?_ ?_
 ·intro C i v s₃ m₃ E' hv _ hns hm' kp
  obtain⟨c,uc,_,rfl⟩:=hv
  refine b36 ?_
  refine bg7 S X bc bbc kp ?_
  refine b43 ?_
  refine b48 ?_
  refine aM0 hns hm' ?_
  refine bj0 ?_
  exact ord_of_one rfl ⟨⟨c,_,_,rfl,rfl⟩,aG5 _ _⟩
 ·clear S
  intro D vs ys h t hl hv hP S
  rw[ae3] at hP
  have hc:=aM6 hl hv hP
  kd_subs
  refine aB1 X G (room.deeper (by decide)) S ?_;clear S;intro a da h t S
  have I:=a84 (d:=d) S
  obtain⟨S1,G1⟩:=S.frz
  have I2:=ap8 (d:=aC2 d h ((AO.inst 194 da (aQ7 (.ref D))).cells a)) S1
  obtain⟨S2,G2⟩:=S1.frz
  exact rT.s ⟨_,_,(G1.trans G2).back S2.sit,rfl,a,D,ys,rfl,I.sub G2.mono,I2,hc⟩
end
section
noncomputable def ag0 (c:Nat):List Str:=if ((⟨#[c]⟩:Str)==Str.ofString "\"")||((⟨#[c]⟩:Str)==Str.ofString "\\") then [Str.ofString "\\",⟨#[c]⟩] else [⟨#[c]⟩]
noncomputable def aC5 (cs:List Nat):List Str:=cs.flatMap ag0
noncomputable def aO7 (cs:List Nat):Str:=Txt.join (Str.ofString "") ([Str.ofString "\""]++aC5 cs++[Str.ofString "\""])
theorem a13 {vs us:List Value} {ys zs:List Str} (x:StrsAre vs ys) (y:StrsAre us zs):StrsAre (vs++us) (ys++zs):=by
 induction x with
 |nil=>exact y
 |cons a t U ih=>exact .cons a t ih
theorem a87 {vs:List Value} {ys:List Str} (x:StrsAre vs ys):vs.length=ys.length:=by
 induction x with
 |nil=>rfl
 |cons a t U ih=>simp [ih]
theorem aU2 (c:Nat):(ag0 c).length<=2/\((ag0 c).map (·.length)).sum<=2:=by
 unfold ag0
 split
 ·exact ⟨by simp,by have:(⟨#[c]⟩:Str).length=1:=rfl;have h2:(Str.ofString "\\").length=1:=rfl;simp [this,h2]⟩
 ·exact ⟨by simp,by have:(⟨#[c]⟩:Str).length=1:=rfl;simp [this]⟩
theorem aQ0 (cs:List Nat):(aC5 cs).length<=2*cs.length/\((aC5 cs).map (·.length)).sum<=2*cs.length:=by
 induction cs with
 |nil=>simp [aC5]
 |cons c r ih=>
  have:=aU2 c
  have e:aC5 (c::r)=ag0 c++aC5 r:=by simp [aC5]
  rw[e,List.length_append,List.map_append,List.sum_append,List.length_cons]
  lia
theorem b32 (cs:List Nat) (c:Nat):aC5 (cs++[c])=aC5 cs++ag0 c:=by simp [aC5]
theorem ak8 (X:a01 w K b) (G:KOk K) (room:a04 A 3) (hh:A.handled=none) {aT lc:Addr} {vs:List Value} {cs:List Nat} (hn:cs.length<=1000) (hc:ax7 vs cs) (hm:∀c∈cs,c<=1114111) (I:a00 g aT 194 [("codes",.ref lc)]) (Il:ab2 g lc vs) (T:Sit w.params b g fp h):
  a07 w A z (.ref 1161) [.ref aT] h t (λr h'=>∃fp',Sit w.params b g fp' h'/\fp'=fp/\∃tk,r= .str (aO7 cs) tk):=by
 refine en (binds:=[("text",.ref aT)]) G.bB8 X T room ?_
 kd_in
 refine a05 [false] S (λg' hs T=>af9 X G (room.deeper (by decide)) hh hn hc hm (I.sub hs) (Il.sub hs) T) ?_
 clear S;rintro v h t' fp' S ⟨rfl,tk0,rfl⟩
 kcf_m
 refine aj8 S ?_;clear S;intro TT It h hT S
 have hsz:∀{i:Nat} {vs':List Value},StrsAre vs' ([Str.ofString "\""]++aC5 (cs.take i))->vs'.length<=2001:=λ{i vs'} q=>by
  have:=(aQ0 (cs.take i)).1
  have h2:=a87 q
  rw[List.length_append] at h2
  have:(cs.take i).length<=cs.length:=by rw[List.length_take];lia
  simp at h2;lia
 refine av2 (n:=cs.length) (λi h U=>X2 λ(vs':List Value) (qs:List (Str × Value))=>StrsAre vs' ([Str.ofString "\""]++aC5 (cs.take i))/\
  St w.params b g cx.L (("found",.ref a)::("text",.ref aT)::qs) ((It,.cell (b90 (tx cs) tk0 TT i))::(a,.list vs')::fp) h) ?_ ?_ cs.length 0 h _ (by lia)
  ⟨_,[],.cons _ _ .nil,S⟩
 ·clear S
  rintro i h t hi ⟨vs',qs,hv,S⟩ Jn nx
  have hc':(tx cs).cps[i]?=some cs[i]:=by simp [tx,hi]
  refine aj6 hT 0 S rfl hc' ?_;clear S;intro h tkL t S;dsimp+zetaDelta only[List.set] at S
  refine⟨_,rfl,?_⟩
  have e1:cs.take (i+1)=cs.take i++[cs[i]]:=by simp
  have hz:=hsz hv
  have e2:aC5 (cs.take (i+1))=aC5 (cs.take i)++ag0 cs[i]:=by rw[e1,b32]
  kd_subs
  cases q1:((⟨#[cs[i]]⟩:Str)==Str.ofString "\"")
  all_goals
   kd_subs
  ·cases q2:((⟨#[cs[i]]⟩:Str)==Str.ofString "\\")
   all_goals
    kd_subs
   ·refine a02 1 S rfl (szE (leT (by keq_rows))) ?_;kcj_m
    kd_subs
    refine nx ⟨_,_,?_,(S.front (x:="text") rfl).front (x:="found") rfl⟩
    rw[e2,ag0,q1,q2,<-List.append_assoc]
    exact a13 hv (.cons _ _ .nil)
   ·refine a02 1 S rfl (szE (leT (by keq_rows))) ?_;kcj_m
    kd_subs
    refine a02 1 S rfl (szE (by rw[List.length_append];simp;exact leT (by keq_rows))) ?_;kcj_m
    kd_subs
    refine nx ⟨_,_,?_,(S.front (x:="text") rfl).front (x:="found") rfl⟩
    rw[e2,ag0,q1,q2,<-List.append_assoc,List.append_assoc]
    exact a13 hv (.cons _ _ (.cons _ _ .nil))
  ·refine a02 1 S rfl (szE (leT (by keq_rows))) ?_;kcj_m
   kd_subs
   refine a02 1 S rfl (szE (by rw[List.length_append];simp;exact leT (by keq_rows))) ?_;kcj_m
   kd_subs
   refine nx ⟨_,_,?_,(S.front (x:="text") rfl).front (x:="found") rfl⟩
   rw[e2,ag0,q1,<-List.append_assoc,List.append_assoc]
   exact a13 hv (.cons _ _ (.cons _ _ .nil))
 ·clear S
  rintro h t ⟨vs',qs,hv,S⟩
  refine a67 hT 0 S hh rfl (by simp [tx]) ?_;clear S;intro h t S;dsimp+zetaDelta only[List.eraseIdx] at S
  refine⟨rfl,?_⟩
  have hz:=hsz hv
  rw[List.take_length] at hv
  kd_subs
  refine a02 0 S rfl (szE (leT (by keq_rows))) ?_;kcj_m
  kd_subs
  refine ay2 (S.isList 0 rfl) (a13 hv (.cons _ _ .nil)) ?_ ?_
  ·have:=(aQ0 cs).2
   have e0:(Str.ofString "").length=0:=rfl
   have e1:(Str.ofString "\"").length=1:=rfl
   rw[e0,List.map_append,List.map_append,List.sum_append,List.sum_append]
   simp [e1];lia
  intro tk t
  exact rT.s ⟨_,(S.drop (List.sublist_cons_self _ _)).sit,rfl,_,rfl⟩
end
section
noncomputable abbrev stup:List Value:=[.ref 850,.ref 851]
noncomputable def sgn:Nat->Str × Str
 |0=>(Str.ofString "space",Str.ofString " ")
 | _=>(Str.ofString "newline",Str.ofString "\n")
theorem be2 (G:KOk K) {i:Nat} (hi:i<2):X3 λc tk tk'=>stup[i]?=some (.ref c)/\∃n,K.lookup c=some {cls:=.type "tuple",data:=.seq ([.str (sgn i).1 tk,.str (sgn i).2 tk']:List Value).toArray n}:=by
 match i,hi with
 |0,U=>exact⟨_,_,_,rfl,G.t_850⟩
 |1,U=>exact⟨_,_,_,rfl,G.t_851⟩
theorem ap4 (X:a01 w K b) (G:KOk K) (room:a04 A 1) (hh:A.handled=none) {y:Str} {u:Tok} (hy:∀i,i<2->((sgn i).2==y)=false) (T:Sit w.params b g fp h):
  a07 w A z (.ref 927) [.str y u] h t (λr h'=>∃fp',Sit w.params b g fp' h'/\fp'=fp/\r= .none):=by
 refine en (binds:=[("letter",.str y u)]) G.by2 X T room ?_
 kd_in
 refine aj7 S (X.tup S G.t_852) ?_;clear S;intro I h S
 refine av2 (n:=2) (λi h U=>∃(qs:List (Str × Value)),
  St w.params b g cx.L (("letter",.str y u)::qs) ((I,.cell (b22 852 i))::fp) h) ?_ ?_ 2 0 h _ (by exact rfl) ⟨[],S⟩
 ·clear S
  rintro i h t hi ⟨qs,S⟩ Jn nx
  obtain⟨c,tk,tk',hq,hc⟩:=be2 G hi
  refine aj5 0 S rfl (X.tup S G.t_852) hq ?_;clear S;intro h _ S;dsimp+zetaDelta only[List.set] at S
  refine⟨_,rfl,?_⟩
  refine aB0 0 S rfl ?_
  refine ad6 0 X G S hh (X.tup S hc) (by kernel_rfl) ?_;keq_hits
  have e:=hy i hi
  kd_subs
  refine a32 400 false X G S e ?_;clear S;kbo_bools
  kd_subs
  exact nx ⟨_,S.front (x:="letter") rfl⟩
 ·clear S
  rintro h t ⟨qs,S⟩
  refine ak4 0 S hh rfl (X.tup S G.t_852) rfl ?_;clear S;intro h S;dsimp+zetaDelta only[List.eraseIdx] at S
  refine⟨rfl,?_⟩
  kd_subs
  exact rT.s ⟨_,S.sit,rfl,rfl⟩
theorem ap2 (X:a01 w K b) (G:KOk K) (room:a04 A 2) (hh:A.handled=none) {c:Nat} {u:Tok} (hc:c<=1114111) (hy:∀i,i<2->((sgn i).2==(⟨#[c]⟩:Str))=false) (T:Sit w.params b g fp h):
  a07 w A z (.ref 1154) [.int (c:Int) u] h t (λr h'=>∃fp',Sit w.params b g fp' h'/\fp'=fp/\∃tk,r= .str (Str.ofString "#\\"++⟨#[c]⟩) tk):=by
 refine en (binds:=[("code",.int (c:Int) u)]) G.bv4 X T room ?_
 kd_in
 refine b63 (by exact Int.natCast_nonneg _) (by exact Int.ofNat_le.mpr (by keq_rows)) ?_;intro tk0
 kd_subs
 refine am4 S (λg' hs T=>ap4 X G (room.deeper (by decide)) hh hy T) ?_;clear S
 kd_subs
 refine b63 (by exact Int.natCast_nonneg _) (by exact Int.ofNat_le.mpr (by keq_rows)) ?_;intro tk1
 kd_subs
 refine a42 (szE (Nat.le_of_ble_eq_true (by kernel_rfl))) ?_;intro tk2 t
 exact rT.s ⟨_,S.sit,rfl,_,rfl⟩
end
section
noncomputable abbrev az8:Str:=Str.ofString "abcdefghijklmnopqrstuvwxyz"
noncomputable abbrev CAPs:Str:=Str.ofString "ABCDEFGHIJKLMNOPQRSTUVWXYZ"
noncomputable abbrev bj7:Str:=Str.ofString "0123456789"
noncomputable abbrev br7:Str:=Str.ofString "!$%&*/:<=>?^_~"
noncomputable abbrev br5:Str:=Str.ofString "+-.@"
noncomputable def av6 (y:Str):Bool:=inS y az8||inS y br7
noncomputable def ar2 (y:Str):Bool:=av6 y||inS y bj7||inS y br5
theorem ao1 (X:a01 w K b) (G:KOk K) (room:a04 A 1) {y:Str} {u:Tok} (T:Sit w.params b g fp h):
  a07 w A z (.ref 892) [.str y u] h t (λr h'=>∃fp',Sit w.params b g fp' h'/\fp'=fp/\r= .bool (av6 y)):=by
 refine en (binds:=[("letter",.str y u)]) G.bz4 X T room ?_
 kd_in
 cases q:inS y az8
 ·kd_subs
  exact rT.s ⟨_,S.sit,rfl,by unfold av6;rw[q];rfl⟩
 ·kd_subs
  exact rT.s ⟨_,S.sit,rfl,by unfold av6;rw[q];rfl⟩
theorem aC0 (X:a01 w K b) (G:KOk K) (room:a04 A 2) {y:Str} {u:Tok} (T:Sit w.params b g fp h):
  a07 w A z (.ref 899) [.str y u] h t (λr h'=>∃fp',Sit w.params b g fp' h'/\fp'=fp/\r= .bool (ar2 y)):=by
 refine en (binds:=[("letter",.str y u)]) G.bD2 X T room ?_
 kd_in
 refine am4 S (λg' hs T=>ao1 X G (room.deeper (by decide)) T) ?_;clear S
 kd_subs
 cases q:av6 y
 ·kd_subs
  cases q2:inS y bj7
  ·kd_subs
   exact rT.s ⟨_,S.sit,rfl,by unfold ar2;rw[q,q2];rfl⟩
  ·kd_subs
   exact rT.s ⟨_,S.sit,rfl,by unfold ar2;rw[q,q2];rfl⟩
 ·kd_subs
  exact rT.s ⟨_,S.sit,rfl,by unfold ar2;rw[q];rfl⟩
noncomputable def pec:List Str:=[Str.ofString "+",Str.ofString "-",Str.ofString "..."]
noncomputable def ag2 (x:Str):Str:=Txt.slice x (some 1) none
noncomputable def ak7 (x:Str):Bool:=if pec.any (·==x) then true else if x==Str.ofString "" then false else if !av6 (Txt.item x 0) then false else (ag2 x).cps.toList.all λc=>ar2 ⟨#[c]⟩
theorem a57 (X:a01 w K b) (G:KOk K) (room:a04 A 3) (hh:A.handled=none) {x:Str} {u:Tok} (hx:x.length<=1000) (T:Sit w.params b g fp h):
  a07 w A z (.ref 906) [.str x u] h t (λr h'=>∃fp',Sit w.params b g fp' h'/\fp'=fp/\r= .bool (ak7 x)):=by
 refine en (binds:=[("text",.str x u)]) G.bw0 X T room ?_
 kd_in
 refine as7 (X.tup S G.t_849) (.cons _ _ (.cons _ _ (.cons _ _ .nil))) ?_
 show den _ _ _ _ _ _ (.v (.bool (pec.any (·==x)))) _
 cases q:pec.any (·==x)
 ·kd_subs
  cases q1:x==Str.ofString ""
  ·kd_subs
   have hpos:0<x.length:=by
    rcases Nat.eq_zero_or_pos x.length with e |e
    ·have:x=Str.ofString "":=by
      obtain⟨⟨xs⟩⟩:=x
      have:xs=[]:=by simpa [Str.length] using e
      subst this
      kernel_rfl
     rw[this] at q1
     exact absurd q1 (by simp)
    ·exact e
   refine aN5 (by lia) (by exact ngE) (by exact Int.ofNat_lt.mpr (by keq_rows)) ?_;intro tk1
   kd_subs
   refine am4 S (λg' hs T=>ao1 X G (room.deeper (by decide)) T) ?_;clear S;intro h t S
   cases q2:av6 (Txt.item x 0)
   ·kd_subs
    exact rT.s ⟨_,S.sit,rfl,by unfold ak7;rw[q,q1,q2];rfl⟩
   ·kd_subs
    refine ap0 S (szE (leT (by keq_rows))) ?_;clear S;intro h tk2 t S
    refine aj8 S ?_;clear S;intro TT It h hT S
    refine av2 (n:=(ag2 x).cps.size) (λi h U=>∃(qs:List (Str × Value)),((ag2 x).cps.toList.take i).all (λc=>ar2 ⟨#[c]⟩)=true/\
     St w.params b g cx.L (("text",.str x u)::qs) ((It,.cell (b90 (ag2 x) tk2 TT i))::fp) h) ?_ ?_ (ag2 x).cps.size 0 h _ (by lia)
     ⟨[],rfl,S⟩
    ·clear S
     rintro i h t hi ⟨qs,hv,S⟩ Jn nx
     have hc':(ag2 x).cps[i]?=some (ag2 x).cps[i]:=by simp [hi]
     have e1:(ag2 x).cps.toList.take (i+1)=(ag2 x).cps.toList.take i++[(ag2 x).cps[i]]:=by
      have:(ag2 x).cps[i]=(ag2 x).cps.toList[i]'(by simpa using hi):=by simp
      rw[this,List.take_append_getElem]
     refine aj6 hT 0 S rfl hc' ?_;clear S;intro h tkL t S;dsimp+zetaDelta only[List.set] at S
     refine⟨_,rfl,?_⟩
     kd_subs
     refine am4 S (λg' hs T=>aC0 X G (room.deeper (by decide)) T) ?_;clear S;intro h t S
     cases q3:ar2 ⟨#[(ag2 x).cps[i]]⟩
     ·kd_subs
      refine rT.s ⟨_,(S.drop (List.sublist_cons_self _ _)).sit,rfl,?_⟩
      unfold ak7
      rw[q,q1,q2]
      have:(ag2 x).cps.toList.all (λc=>ar2 ⟨#[c]⟩)=false:=by
       rw[List.all_eq_false]
       exact⟨(ag2 x).cps[i],by simp,by simp [q3]⟩
      simp [this]
     ·kd_subs
      refine nx ⟨_,?_,S.front (x:="text") rfl⟩
      rw[e1,List.all_append,hv]
      simp [q3]
    ·clear S
     rintro h t ⟨qs,hv,S⟩
     refine a67 hT 0 S hh rfl (by simp) ?_;clear S;intro h t S;dsimp+zetaDelta only[List.eraseIdx] at S
     refine⟨rfl,?_⟩
     have e:(ag2 x).cps.toList.take (ag2 x).cps.size=(ag2 x).cps.toList:=by rw[List.take_of_length_le];simp
     rw[e] at hv
     kd_subs
     refine rT.s ⟨_,S.sit,rfl,?_⟩
     unfold ak7
     rw[q,q1,q2,hv]
     rfl
  ·kd_subs
   exact rT.s ⟨_,S.sit,rfl,by unfold ak7;rw[q,q1];rfl⟩
 ·kd_subs
  exact rT.s ⟨_,S.sit,rfl,by unfold ak7;rw[q];rfl⟩
end
section
noncomputable def aD0 (c:Nat):Int:=Txt.find CAPs ⟨#[c]⟩
noncomputable def ax4 (c:Nat):Str:=if decide (aD0 c<0)=true then⟨#[c]⟩ else Txt.item az8 (aD0 c)
noncomputable def aC4 (x:Str):Str:=Txt.join (Str.ofString "") (x.cps.toList.map ax4)
noncomputable def ah4 (x:Str):Bool:=x.cps.toList.all λc=>decide (aD0 c<26)
theorem b29 (c:Nat):(ax4 c).length=1:=by
 unfold ax4
 split<;>rfl
theorem aN9 (cs:List Nat):((cs.map ax4).map (·.length)).sum=cs.length:=by
 induction cs with
 |nil=>rfl
 |cons c r ih=>simp only[List.map_cons,List.sum_cons,ih,List.length_cons,b29];lia
theorem aY6:az8.length=26:=by kernel_rfl
theorem a92 (X:a01 w K b) (G:KOk K) (room:a04 A 1) (hh:A.handled=none) {x:Str} {u:Tok} (hx:x.length<=1000) (hf:ah4 x=true) (T:Sit w.params b g fp h):
  a07 w A z (.ref 885) [.str x u] h t (λr h'=>∃fp',Sit w.params b g fp' h'/\fp'=fp/\∃tk,r= .str (aC4 x) tk):=by
 refine en (binds:=[("text",.str x u)]) G.bw3 X T room ?_
 kd_in
 refine aj8 S ?_;clear S;intro TT It h hT S
 refine av2 (n:=x.cps.size) (λi h U=>X2 λ(vs:List Value) (qs:List (Str × Value))=>StrsAre vs ((x.cps.toList.take i).map ax4)/\
  St w.params b g cx.L (("letters",.ref a)::("text",.str x u)::qs) ((It,.cell (b90 x u TT i))::(a,.list vs)::fp) h) ?_ ?_ x.cps.size 0 h _ (by lia)
  ⟨[],[],.nil,S⟩
 ·clear S
  rintro i h t hi ⟨vs,qs,hv,S⟩ Jn nx
  have hc':x.cps[i]?=some x.cps[i]:=by simp [hi]
  have e1:x.cps.toList.take (i+1)=x.cps.toList.take i++[x.cps[i]]:=by
   have:x.cps[i]=x.cps.toList[i]'(by simpa using hi):=by simp
   rw[this,List.take_append_getElem]
  have hok:aD0 x.cps[i]<26:=by
   have:=List.all_eq_true.mp hf x.cps[i] (by simp)
   simpa using this
  have hz:vs.length<=1000:=by
   have:=a87 hv
   rw[List.length_map,List.length_take] at this
   have e:x.cps.toList.length=x.length:=by simp [Str.length]
   lia
  refine aj6 hT 0 S rfl hc' ?_;clear S;intro h tkL t S;dsimp+zetaDelta only[List.set] at S
  refine⟨_,rfl,?_⟩
  kd_subs
  refine bk4 ?_;intro tkA
  kd_subs
  show den _ _ _ _ _ _ (.b (decide (aD0 x.cps[i]<0))) _
  cases q:decide (aD0 x.cps[i]<0)
  ·kd_subs
   have hl:(az8.length:Int)=26:=by rw[aY6];rfl
   have hq:¬ aD0 x.cps[i]<0:=by simpa using q
   have hcap:Txt.find CAPs ⟨#[x.cps[i]]⟩=aD0 x.cps[i]:=rfl
   refine aN5 (by rw[hl];decide) (by rw[hl,hcap];lia) (by rw[hl,hcap];assumption) ?_;intro tkB
   kd_subs
   refine a02 1 S rfl (szE (leT (by keq_rows))) ?_;kcj_m
   kd_subs
   refine nx ⟨_,_,?_,(S.front (x:="text") rfl).front (x:="letters") rfl⟩
   rw[e1,List.map_append]
   refine a13 hv ?_
   have:ax4 x.cps[i]=Txt.item az8 (aD0 x.cps[i]):=by unfold ax4;rw[q];rfl
   simp only[List.map_cons,List.map_nil,this]
   exact .cons _ _ .nil
  ·kd_subs
   refine a02 1 S rfl (szE (leT (by keq_rows))) ?_;kcj_m
   kd_subs
   refine nx ⟨_,_,?_,(S.front (x:="text") rfl).front (x:="letters") rfl⟩
   rw[e1,List.map_append]
   refine a13 hv ?_
   have:ax4 x.cps[i]=⟨#[x.cps[i]]⟩:=by unfold ax4;rw[q];rfl
   simp only[List.map_cons,List.map_nil,this]
   exact .cons _ _ .nil
 ·clear S
  rintro h t ⟨vs,qs,hv,S⟩
  refine a67 hT 0 S hh rfl (by simp) ?_;clear S;intro h t S;dsimp+zetaDelta only[List.eraseIdx] at S
  refine⟨rfl,?_⟩
  have e:x.cps.toList.take x.cps.size=x.cps.toList:=by rw[List.take_of_length_le];simp
  rw[e] at hv
  kd_subs
  refine ay2 (S.isList 0 rfl) hv ?_ ?_
  ·have e0:(Str.ofString "").length=0:=rfl
   have e1:x.cps.toList.length=x.length:=by simp [Str.length]
   rw[e0,aN9,List.length_map];lia
  intro tk t
  exact rT.s ⟨_,(S.drop (List.sublist_cons_self _ _)).sit,rfl,_,rfl⟩
noncomputable def aa9 (x:Str):Bool:=(aC4 x==x)&&ak7 x
theorem a38 (X:a01 w K b) (G:KOk K) (room:a04 A 4) (hh:A.handled=none) {x:Str} {u:Tok} (hx:x.length<=1000) (hf:ah4 x=true) (T:Sit w.params b g fp h):
  a07 w A z (.ref 1147) [.str x u] h t (λr h'=>∃fp',Sit w.params b g fp' h'/\fp'=fp/\r= .bool (aa9 x)):=by
 refine en (binds:=[("text",.str x u)]) G.bw1 X T room ?_
 kd_in
 refine al6 S (λg' hs T=>a92 X G (room.deeper (by decide)) hh hx hf T) ?_;clear S;intro tk0
 kd_subs
 cases q:aC4 x==x
 ·kd_subs
  exact rT.s ⟨_,S.sit,rfl,by unfold aa9;rw[q];rfl⟩
 ·kd_subs
  refine am4 S (λg' hs T=>a57 X G (room.deeper (by decide)) hh hx T) ?_;clear S;intro h t S
  exact rT.s ⟨_,S.sit,rfl,by unfold aa9;rw[q];rfl⟩
end
section
noncomputable abbrev aJ1:Str:=Str.ofString "0123456789abcdef"
noncomputable def aU6:Nat->Nat->Nat->List Str
 |0,U,V=>[]
 |f+1,n,r=>if n=0 then [] else Txt.item aJ1 ((n %r:Nat):Int)::aU6 f (n/r) r
noncomputable def b96 (n r:Nat):Str:=if n=0 then Str.ofString "0" else Txt.join (Str.ofString "") (aU6 10 n r).reverse
theorem aP8:aJ1.length=16:=by kernel_rfl
theorem aC6:∀f n r,(aU6 f n r).length<=f/\((aU6 f n r).map (·.length)).sum<=f
 |0,U,V=>by simp [aU6]
 |f+1,n,r=>by
  unfold aU6
  have:=aC6 f (n/r) r
  split
  ·simp
  ·have e:(Txt.item aJ1 ((n %r:Nat):Int)).length=1:=rfl
   simp only[List.length_cons,List.map_cons,List.sum_cons,e]
   lia
theorem av7 (X:a01 w K b) (G:KOk K) (room:a04 A 1) (hh:A.handled=none) {n r:Nat} {u v:Tok} (hn:n<1024) (hr2:2<=r) (hr:r<=16) (T:Sit w.params b g fp h):
  a07 w A z (.ref 612) [.int (n:Int) u,.int (r:Int) v] h t (λq h'=>∃fp',Sit w.params b g fp' h'/\fp'=fp/\∃tk,q= .str (b96 n r) tk):=by
 refine en (binds:=[("number",.int (n:Int) u),("radix",.int (r:Int) v)]) G.bx5 X T room ?_
 kd_in
 by_cases h0:n=0
 ·subst h0
  kd_subs
  exact rT.s ⟨_,S.sit,rfl,_,rfl⟩
 ·refine a32 400 false X G S (by simpa using h0) ?_;clear S;kbo_bools
  kd_subs
  refine a56 (λm h U=>X6 λ(k f:Nat) (u:Tok) (qs:List (Str × Value)) (vs:List Value) (ys:List Str)=>A7 (k=m) (k<2^f) (f<=10) (ys++aU6 f k r=aU6 10 n r) (StrsAre vs ys) (vs.length+f<=10)
   (St w.params b g cx.L (("number",.int (k:Int) u)::("found",.ref a)::("radix",.int (r:Int) v)::qs) ((a,.list vs)::fp) h)) ?_ n h _ ⟨n,10,_,_,[],[],rfl,by assumption,by exact Nat.lt_succ_self _,rfl,.nil,by simp,((S.front (x:="radix") rfl).front (x:="found") rfl).front (x:="number") rfl⟩
  clear S
  rintro m h t ⟨k,f,u1,qs,vs,ys,rfl,hk,hf,hy,hv,hvl,S⟩ Jn nx
  kd_subs
  by_cases hk0:k=0
  ·subst hk0
   kd_subs
   have hd:aU6 f 0 r=[]:=by induction f using Nat.casesAuxOn<;>rfl
   rw[hd,List.append_nil] at hy
   subst hy
   kd_subs
   refine aS6 S (S.isList 0 rfl) ?_;clear S;intro D h S
   kd_subs
   have:=aC6 10 n r
   refine aR0 0 S hh rfl (S.isList 1 rfl) hv (szE (by lia)) (by have e0:(Str.ofString "").length=0:=rfl;rw[e0];lia) ?_;clear S;intro h tk t S
   dsimp+zetaDelta only[List.eraseIdx] at S
   exact rT.s ⟨_,(S.drop (List.sublist_cons_self _ _)).sit,rfl,_,by unfold b96;rw[if_neg h0]⟩
  ·refine a32 400 true X G S (by simp;lia) ?_;clear S;kbo_bools
   kd_subs
   refine b77 S (by lia) (PyProof.noPylong_small (by lia)) ?_;clear S;intro D h tkq tkr S
   refine ad6 0 X G S hh (S.isTup 0 rfl) (by kernel_rfl) ?_;keq_hits
   replace S:=S.drop (List.sublist_cons_self _ _)
   rw[show ((k:Int).fdiv (r:Int))=((k/r:Nat):Int) by rw[Int.fdiv_eq_ediv_of_nonneg _ (by exact Int.natCast_nonneg _)];rfl,show ((k:Int).fmod (r:Int))=((k %r:Nat):Int) by rw[Int.fmod_eq_emod_of_nonneg _ (by exact Int.natCast_nonneg _)];rfl] at S
   kd_subs
   have hl:(aJ1.length:Int)=16:=by rw[aP8];rfl
   have hlt:k %r<r:=Nat.mod_lt _ (by lia)
   refine aN5 (by rw[hl];decide) (by rw[hl];exact Int.natCast_nonneg _) (by rw[hl];lia) ?_;intro tkB
   kd_subs
   refine a02 0 S rfl (szE (by lia)) ?_;kcj_m
   kd_subs
   obtain⟨f',rfl⟩:∃f',f=f'+1:=by
    induction f using Nat.casesAuxOn with
    |zero=>exact absurd hk (by simp;assumption)
    |succ f'=>exact⟨f',rfl⟩
   have hdiv:k/r<k:=Nat.div_lt_self (by lia) (by lia)
   have hdiv2:k/r<2^f':=by
    rw[Nat.div_lt_iff_lt_mul (by lia)]
    have:2^(f'+1)=2^f'*2:=Nat.pow_succ ..
    have:=Nat.mul_le_mul_left (2^f') hr2
    lia
   refine nx (m:=k/r) hdiv ⟨k/r,f',_,_,_,ys++[Txt.item aJ1 ((k %r:Nat):Int)],rfl,hdiv2,by lia,?_,a13 hv (.cons _ _ .nil),by simp;lia,((S.front (x:="radix") rfl).front (x:="found") rfl).front (x:="number") rfl⟩
   rw[<-hy,List.append_assoc]
   conv=>rhs;unfold aU6
   rw[if_neg hk0]
   rfl
noncomputable def a28 (n:Int) (r:Nat):Str:=(if decide (n<0)=true then Str.ofString "-" else Str.ofString "")++b96 n.natAbs r
theorem aP9 (n r:Nat):(b96 n r).length<=10:=by
 unfold b96
 split
 ·have:(Str.ofString "0").length=1:=by kernel_rfl
  lia
 ·have h1:=(aC6 10 n r).2
  have:=StrLaws.join_length_le (Str.ofString "") (aU6 10 n r).reverse
  show (PySem.Builtin.Str.glued _ _).length<=10
  rw[StrLaws.glued_eq_join]
  have e0:(Str.ofString "").length=0:=rfl
  rw[e0,List.map_reverse] at this
  have e2:(List.map (·.length) (aU6 10 n r)).reverse.sum=(List.map (·.length) (aU6 10 n r)).sum:=List.sum_reverse _
  lia
theorem at6 (X:a01 w K b) (G:KOk K) (room:a04 A 2) (hh:A.handled=none) {n:Int} {r:Nat} {u v:Tok} (hn:n.natAbs<1024) (hr2:2<=r) (hr:r<=16) (T:Sit w.params b g fp h):
  a07 w A z (.ref 619) [.int n u,.int (r:Int) v] h t (λq h'=>∃fp',Sit w.params b g fp' h'/\fp'=fp/\∃tk,q= .str (a28 n r) tk):=by
 refine en (binds:=[("number",.int n u),("radix",.int (r:Int) v)]) G.bz1 X T room ?_
 kd_in
 have hf:=aP9 n.natAbs r
 cases q:decide (n<0)
 all_goals
  kd_subs
  refine b64 ?_;intro tk0 t
  kd_subs
  refine al6 S (λg' hs T=>av7 X G (room.deeper (by decide)) hh hn hr2 hr T) ?_;clear S;intro tk1;intro h t S
  refine a42 ?_ ?_
  ·first
   |(have e0:(Str.ofString "").length=0:=rfl;rw[e0,sizeLine_eq];lia)
   |(have e0:(Str.ofString "-").length=1:=(by kernel_rfl);rw[e0,sizeLine_eq];lia)
  intro tk2 t
  exact rT.s ⟨_,S.sit,rfl,_,by unfold a28;rw[q];rfl⟩
end
section
theorem aM1 (X:a01 w K b) (G:KOk K) (room:a04 A 1) {n:Int} {u:Tok} (T:Sit w.params b g fp h):
  a07 w A z (.ref 471) [.int n u] h t (λr h'=>∃fp',Sit w.params b g fp' h'/\fp'=fp/\r= .bool false):=by
 refine en (binds:=[("value",.int n u)]) G.bz0 X T room ?_
 kd_in
 exact rT.s ⟨_,S.sit,rfl,rfl⟩
theorem av8 (X:a01 w K b) (G:KOk K) (room:a04 A 3) (hh:A.handled=none) {n:Int} {r:Nat} {u v:Tok} (hn:n.natAbs<1024) (hr2:2<=r) (hr:r<=16) (T:Sit w.params b g fp h):
  a07 w A z (.ref 626) [.int n u,.int (r:Int) v] h t (λq h'=>∃fp',Sit w.params b g fp' h'/\fp'=fp/\∃tk,q= .str (a28 n r) tk):=by
 refine en (binds:=[("number",.int n u),("radix",.int (r:Int) v)]) G.bt7 X T room ?_
 kd_in
 refine al6 S (λg' hs T=>at6 X G (room.deeper (by decide)) hh hn hr2 hr T) ?_;clear S;intro tk1;intro h t S
 exact rT.s ⟨_,S.sit,rfl,_,rfl⟩
theorem as0 (X:a01 w K b) (G:KOk K) (room:a04 A 4) (hh:A.handled=none) {pr:Value} {n:Int} {r:Nat} {u v:Tok} (hn:n.natAbs<1024) (hr2:2<=r) (hr:r<=16) (T:Sit w.params b g fp h):
  a07 w A z (.ref 732) [pr,.int n u,.int (r:Int) v] h t (λq h'=>∃fp',Sit w.params b g fp' h'/\fp'=fp/\∃tk,q= .str (a28 n r) tk):=by
 refine en (binds:=[("precision",pr),("number",.int n u),("radix",.int (r:Int) v)]) G.bs6 X T room ?_ (hbind:=ag1 X T G.t_725 (by kernel_rfl) rfl (by kernel_rfl))
 kd_in
 refine am4 S (λg' hs T=>aM1 X G (room.deeper (by decide)) T) ?_;clear S
 kd_subs
 refine al6 S (λg' hs T=>av8 X G (room.deeper (by decide)) hh hn hr2 hr T) ?_;clear S;intro tk1;intro h t S
 exact rT.s ⟨_,S.sit,rfl,_,rfl⟩
noncomputable def Dt.isAtom:Dt->Bool
 | .vec U V=>false | .q1 _ _=>false | .q2 _ _ _=>false | _=>true
noncomputable def Dt.atomT (iw:Bool) (r:Nat):Dt->Str
 | .int n=>a28 n r
 | .sym s=>s
 | .raw s=>s
 | .text cs=>if iw then aO7 cs else tx cs
 | .char c=>if iw then Str.ofString "#\\"++⟨#[c]⟩ else⟨#[c]⟩
 | .eof=>Str.empty++Str.ofString "#<"++Str.ofString "eof"++Str.ofString ">"
 | .unspec=>Str.empty++Str.ofString "#<"++Str.ofString "unspecified"++Str.ofString ">"
 | .nil=>Str.ofString "()"
 | .box=>Str.ofString "#<box>"
 | .promise=>Str.ofString "#<promise>"
 | .port n=>Str.empty++Str.ofString "#<port "++Str.ofString (toString n)++Str.ofString ">"
 | .prim=>Str.empty++Str.ofString "#<procedure "++Str.ofString "car"++Str.ofString ">"
 | _=>Str.empty
noncomputable def Dt.ok (iw:Bool):Dt->Prop
 | .int n=>n.natAbs<1024
 | .sym s=>s.length<=100
 | .raw s=>s.length<=100
 | .text cs=>cs.length<=1000/\∀c∈cs,c<=1114111
 | .char c=>c<=1114111/\(iw=true->∀i,i<2->((sgn i).2==(⟨#[c]⟩:Str))=false)
 | .port n=>0<=n/\n<1000
 | .vec a c=>a.ok iw/\c.ok iw
 | .q1 U a=>a.ok iw
 | .q2 U a c=>a.ok iw/\c.ok iw
 | _=>True
noncomputable abbrev ba5 (iw:Bool) (pt:Tok) (r:Nat) (rt:Tok) (lim tab:Value) (pl:Addr) (n:Int) (tk:Tok) (wl:Addr):List (Str × Value):=ao7 (.bool iw) (.int 53 pt) (.int (r:Int) rt) lim tab pl n tk wl
theorem b46 (X:a01 w K b) (G:KOk K) (room:a04 A 5) (hh:A.handled=none) {tb:TB} {x dx pl wl:Addr} {iw:Bool} {lim tab v:Value} {r:Nat} {pt rt tk:Tok} {n0:Int} {g:Dt} (hb:Sub (Bas.of b) fr) (hr2:2<=r) (hr:r<=16) (ok:g.ok iw) (ha:g.isAtom=true) (R:Rep tb d v g)
  (T:Sit w.params b (fr.or d) [(x,.inst 1227 dx (ba5 iw pt r rt lim tab pl n0 tk wl))] h):
  a07 w A z (.ref 1224) [.ref x,v] h t (λq h'=>∃fp',Sit w.params b (fr.or d) fp' h'/\fp'=[(x,.inst 1227 dx (ba5 iw pt r rt lim tab pl n0 tk wl))]/\∃tk,q= .str (g.atomT iw r) tk):=by
 induction g using Dt.casesOn with
 |int n=>
  obtain⟨u,rfl⟩:=R
  refine en (binds:=[("self",.ref x),("thing",.int n u)]) G.bs7 X T room ?_
  kd_in
  refine am4 S (λg' hs T=>ax3 X G (room.deeper (by decide)) T) ?_;clear S
  kd_subs
  refine aN6 ?_
  kd_subs
  refine am4 S (λg' hs T=>ak5 X G (room.deeper (by decide)) T) ?_;clear S
  kd_subs
  refine al6 S (λg' hs T=>as0 X G (room.deeper (by decide)) hh ok hr2 hr T) ?_;clear S;intro tk0;intro h t S
  exact rT.s ⟨_,S.sit,rfl,_,rfl⟩
 |sym s=>
  obtain⟨a,n,u,w1,rfl,_,I0⟩:=R
  have I:a00 (fr.or d) a 68 (a21 (.int n u) (.str s w1)):=I0.sub a12
  unfold a21 at I
  refine en (binds:=[("self",.ref x),("thing",.ref a)]) G.bs7 X T room ?_
  kd_in
  refine am4 S (λg' hs T=>a10 X G (room.deeper (by decide)) (by kernel_rfl!) (I.sub hs) T) ?_;clear S
  kd_subs
  refine ar8 (S.binst I) (a14 G X S) ?_
  kd_subs
  exact rT.s ⟨_,S.sit,rfl,_,rfl⟩
 |raw s=>
  obtain⟨a,n,u,w1,rfl,_,I0⟩:=R
  have I:a00 (fr.or d) a 68 (a21 (.int n u) (.str s w1)):=I0.sub a12
  unfold a21 at I
  refine en (binds:=[("self",.ref x),("thing",.ref a)]) G.bs7 X T room ?_
  kd_in
  refine am4 S (λg' hs T=>a10 X G (room.deeper (by decide)) (by kernel_rfl!) (I.sub hs) T) ?_;clear S
  kd_subs
  refine ar8 (S.binst I) (a14 G X S) ?_
  kd_subs
  exact rT.s ⟨_,S.sit,rfl,_,rfl⟩
 |text cs=>
  obtain⟨a,lc,vs,rfl,I0,Il0,hc⟩:=R
  have I:a00 (fr.or d) a 194 [("codes",.ref lc)]:=I0.sub a12
  have Il:ab2 (fr.or d) lc vs:=Il0.sub a12
  refine en (binds:=[("self",.ref x),("thing",.ref a)]) G.bs7 X T room ?_
  kd_in
  refine am4 S (λg' hs T=>a10 X G (room.deeper (by decide)) (by kernel_rfl!) (I.sub hs) T) ?_;clear S
  kd_subs
  refine ar8 (S.binst I) (a14 G X S) ?_
  kd_subs
  induction iw using Bool.casesOn
  ·kd_subs
   refine al6 S (λg' hs T=>af9 X G (room.deeper (by decide)) hh ok.1 hc ok.2 (I.sub hs) (Il.sub hs) T) ?_;clear S;intro tk0;intro h t S
   exact rT.s ⟨_,S.sit,rfl,_,rfl⟩
  ·kd_subs
   refine al6 S (λg' hs T=>ak8 X G (room.deeper (by decide)) hh ok.1 hc ok.2 (I.sub hs) (Il.sub hs) T) ?_;clear S;intro tk0;intro h t S
   exact rT.s ⟨_,S.sit,rfl,_,rfl⟩
 |char c=>
  obtain⟨a,u,rfl,I0⟩:=R
  have I:a00 (fr.or d) a 173 [("code",.int (c:Int) u)]:=I0.sub a12
  refine en (binds:=[("self",.ref x),("thing",.ref a)]) G.bs7 X T room ?_
  kd_in
  refine am4 S (λg' hs T=>a10 X G (room.deeper (by decide)) (by kernel_rfl!) (I.sub hs) T) ?_;clear S
  kd_subs
  refine ar8 (S.binst I) (a14 G X S) ?_
  kd_subs
  induction iw using Bool.casesOn
  ·kd_subs
   refine b63 (by exact Int.natCast_nonneg _) (by have:=ok.1;exact Int.ofNat_le.mpr (by keq_rows)) ?_;intro tk1
   exact rT.s ⟨_,S.sit,rfl,_,rfl⟩
  ·kd_subs
   refine al6 S (λg' hs T=>ap2 X G (room.deeper (by decide)) hh ok.1 (ok.2 rfl) T) ?_;clear S;intro tk0;intro h t S
   exact rT.s ⟨_,S.sit,rfl,_,rfl⟩
 |nil=>
  obtain rfl:=R
  have I:=(aM9 G X hb).sub (a29 (g:=fr) (d:=d))
  refine en (binds:=[("self",.ref x),("thing",.ref 44)]) G.bs7 X T room ?_
  kd_in
  refine am4 S (λg' hs T=>a10 X G (room.deeper (by decide)) (by kernel_rfl!) (I.sub hs) T) ?_;clear S
  kd_subs
  refine b59 (S.binst I) (a14 G X S) ?_
  kd_subs
  exact rT.s ⟨_,S.sit,rfl,_,rfl⟩
 |eof=>
  obtain rfl:=R
  have I:=(bi5 G X hb).sub (a29 (g:=fr) (d:=d))
  unfold a41 at I
  refine en (binds:=[("self",.ref x),("thing",.ref 50)]) G.bs7 X T room ?_
  kd_in
  refine am4 S (λg' hs T=>a10 X G (room.deeper (by decide)) (by kernel_rfl!) (I.sub hs) T) ?_;clear S
  kd_subs
  refine b59 (S.binst I) (a14 G X S) ?_
  kd_subs
  refine al6 S (λg' hs T=>a43 X G (room.deeper (by decide)) (by decide+kernel) (I.sub hs) T) ?_;clear S;intro tk0
  kd_subs
  exact rT.s ⟨_,S.sit,rfl,_,rfl⟩
 |unspec=>
  obtain rfl:=R
  have I:=(ae4 G X hb).sub (a29 (g:=fr) (d:=d))
  unfold a41 at I
  refine en (binds:=[("self",.ref x),("thing",.ref 47)]) G.bs7 X T room ?_
  kd_in
  refine am4 S (λg' hs T=>a10 X G (room.deeper (by decide)) (by kernel_rfl!) (I.sub hs) T) ?_;clear S
  kd_subs
  refine b59 (S.binst I) (a14 G X S) ?_
  kd_subs
  refine al6 S (λg' hs T=>a43 X G (room.deeper (by decide)) (by decide+kernel) (I.sub hs) T) ?_;clear S;intro tk0
  kd_subs
  exact rT.s ⟨_,S.sit,rfl,_,rfl⟩
 |box=>
  obtain⟨a,u,rfl,I0⟩:=R
  have I:a00 (fr.or d) a 236 [("content",.int 1 u)]:=I0.sub a12
  refine en (binds:=[("self",.ref x),("thing",.ref a)]) G.bs7 X T room ?_
  kd_in
  refine am4 S (λg' hs T=>a10 X G (room.deeper (by decide)) (by kernel_rfl!) (I.sub hs) T) ?_;clear S
  kd_subs
  refine ar8 (S.binst I) (a14 G X S) ?_
  kd_subs
  refine al6 S (λg' hs T=>ak6 (v2:=.none) X G (room.deeper (by decide)) (I.sub hs) T) ?_;clear S;intro tk0
  kd_subs
  exact rT.s ⟨_,S.sit,rfl,_,rfl⟩
 |promise=>
  obtain⟨a,u,rfl,I0⟩:=R
  have I:a00 (fr.or d) a 257 [("is_done",.bool false),("content",.int 1 u)]:=I0.sub a12
  refine en (binds:=[("self",.ref x),("thing",.ref a)]) G.bs7 X T room ?_
  kd_in
  refine am4 S (λg' hs T=>a10 X G (room.deeper (by decide)) (by kernel_rfl!) (I.sub hs) T) ?_;clear S
  kd_subs
  refine ar8 (S.binst I) (a14 G X S) ?_
  kd_subs
  refine al6 S (λg' hs T=>aa7 X G (room.deeper (by decide)) (I.sub hs) T) ?_;clear S;intro tk0
  kd_subs
  exact rT.s ⟨_,S.sit,rfl,_,rfl⟩
 |port n=>
  obtain⟨a,u,rfl,I0⟩:=R
  obtain⟨m,rfl⟩:∃m:Nat,n=(m:Int):=⟨n.toNat,by have:=ok.1;lia⟩
  have I:a00 (fr.or d) a 278 [("number",.int (m:Int) u)]:=I0.sub a12
  refine en (binds:=[("self",.ref x),("thing",.ref a)]) G.bs7 X T room ?_
  kd_in
  refine am4 S (λg' hs T=>a10 X G (room.deeper (by decide)) (by kernel_rfl!) (I.sub hs) T) ?_;clear S
  kd_subs
  refine ar8 (S.binst I) (a14 G X S) ?_
  kd_subs
  refine al6 S (λg' hs T=>ah2 X G (room.deeper (by decide)) (by have:=ok.2;lia) (I.sub hs) T) ?_;clear S;intro tk0
  kd_subs
  exact rT.s ⟨_,S.sit,rfl,_,rfl⟩
 |prim=>
  obtain⟨a,u,u2,rfl,I0⟩:=R
  have I:a00 (fr.or d) a 320 [("title",.str (Str.ofString "car") u),("op",.int 3 u2)]:=I0.sub a12
  refine en (binds:=[("self",.ref x),("thing",.ref a)]) G.bs7 X T room ?_
  kd_in
  refine am4 S (λg' hs T=>a10 X G (room.deeper (by decide)) (by kernel_rfl!) (I.sub hs) T) ?_;clear S
  kd_subs
  refine ar8 (S.binst I) (a14 G X S) ?_
  kd_subs
  refine al6 S (λg' hs T=>ah1 X G (room.deeper (by decide)) (by decide+kernel) (I.sub hs) T) ?_;clear S;intro tk0
  kd_subs
  exact rT.s ⟨_,S.sit,rfl,_,rfl⟩
 |vec U V=>exact absurd ha Bool.false_ne_true
 |q1 U V=>exact absurd ha Bool.false_ne_true
 |q2 U V U1=>exact absurd ha Bool.false_ne_true
end
section
noncomputable def aw5 (lim:Value) (m:Int):Prop:=lim= .none∨X2 λ(k:Int) (tk:Tok)=>lim= .int k tk/\m<=k
theorem aa6 (X:a01 w K b) (G:KOk K) (room:a04 A 1) {x dx pl wl:Addr} {iw:Bool} {lim tab:Value} {r:Nat} {pt rt tk u:Tok} {n0:Int} {p:Str} {ps:List Value} (hp:p.length<1000000) (hps:ps.length<1000000) (hf:aw5 lim (n0+(p.length:Int)))
  (T:Sit w.params b g [(pl,.list ps),(x,.inst 1227 dx (ba5 iw pt r rt lim tab pl n0 tk wl))] h):
  a07 w A z (.ref 1196) [.ref x,.str p u] h t (λq h'=>∃fp',Sit w.params b g fp' h'/\∃tk',fp'=[(pl,.list (ps++[.str p u])),(x,.inst 1227 dx (ba5 iw pt r rt lim tab pl (n0+(p.length:Int)) tk' wl))]/\q= .none):=by
 refine en (binds:=[("self",.ref x),("piece",.str p u)]) G.bB5 X T room ?_
 kd_in
 refine a02 0 S rfl (szE (ltl (by keq_rows))) ?_;kcj_m
 kd_subs
 refine a09 (by lia) ?_;intro tk2
 rcases hf with rfl |⟨k,tkk,rfl,hk⟩
 ·kd_subs
  exact rT.n ⟨_,S.sit,_,rfl,rfl⟩
 ·kd_subs
  refine a32 400 false X G S (by simpa using hk) ?_;clear S;kbo_bools
  kd_subs
  exact rT.n ⟨_,S.sit,_,rfl,rfl⟩
noncomputable def aw4 (d:Bas) (a:Addr) (vs:List Value):Prop:=∃n,d a {cls:=.type "tuple",data:=.seq vs.toArray n}
theorem aw4.sub {d d':Bas} {a:Addr} {vs:List Value} (I:aw4 d a vs) (k:Sub d d'):aw4 d' a vs:=by
 obtain⟨n,e⟩:=I
 exact⟨n,k _ _ e⟩
theorem aw4.isTup {d:Bas} {h:Heap} {a:Addr} {vs:List Value} (I:aw4 d a vs) (k:Keeps d h):h.IsTuple a vs.toArray:=by
 obtain⟨n,e⟩:=I
 exact⟨_,k _ _ e,rfl,n,rfl⟩
theorem b24 {P:Params} {d g:Bas} {x:Addr} {vs:List Value} (S:St P b g L l ((x,.tup vs)::fp) h):aw4 (aC2 d h ((AO.tup vs).cells x)) x vs:=by
 obtain⟨n,e⟩:=S.own.at_ _ (.head _)
 exact⟨n,.inr ⟨.head _,e⟩⟩
inductive a19 where
 |piece (p:Str)|datum (g:Dt)|tail (gs:List Dt)
noncomputable def am9 (tb:TB) (d:Bas):Value->List Dt->Prop
 |v,[]=>v= .ref 44
 |v,g::gs=>X3 λp c rest=>A4 (v= .ref p) (a00 d p 152 [("car",c),("cdr",rest)]) (Rep tb d c g) (am9 tb d rest gs)
theorem am9.mono {tb tb':TB} {d d':Bas} (e:Ext tb tb') (k:Sub d d'):∀{gs:List Dt} {v:Value},am9 tb d v gs->am9 tb' d' v gs
 |[],U,h=>h
 |U::V,U1,⟨p,c,rest,h1,h2,h3,h4⟩=>⟨p,c,rest,h1,h2.sub k,h3.mono e k,h4.mono e k⟩
noncomputable def a19.rep (tb:TB) (d:Bas):Value->a19->Prop
 |v,.piece p=>X3 λa tk tk'=>v= .ref a/\aw4 d a [.int 0 tk,.str p tk']
 |v,.datum g=>X3 λa tk v'=>A3 (v= .ref a) (aw4 d a [.int 1 tk,v']) (Rep tb d v' g)
 |v,.tail gs=>X3 λa tk v'=>A3 (v= .ref a) (aw4 d a [.int 2 tk,v']) (am9 tb d v' gs)
theorem a19.rep.mono {tb tb':TB} {d d':Bas} (e:Ext tb tb') (k:Sub d d'):∀{i:a19} {v:Value},i.rep tb d v->i.rep tb' d' v
 | .piece U,V,⟨a,tk,tk',h1,h2⟩=>⟨a,tk,tk',h1,h2.sub k⟩
 | .datum U,V,⟨a,tk,v,h1,h2,h3⟩=>⟨a,tk,v,h1,h2.sub k,h3.mono e k⟩
 | .tail U,V,⟨a,tk,v,h1,h2,h3⟩=>⟨a,tk,v,h1,h2.sub k,h3.mono e k⟩
noncomputable def items (tb:TB) (d:Bas):List Value->List a19->Prop
 |[],[]=>True
 |v::vs,i::is=>i.rep tb d v/\items tb d vs is
 |U,V=>False
theorem items.mono {tb tb':TB} {d d':Bas} (e:Ext tb tb') (k:Sub d d'):∀{vs:List Value} {is:List a19},items tb d vs is->items tb' d' vs is
 |[],[],U=>trivial
 |U::V,U1::V1,⟨h1,h2⟩=>⟨h1.mono e k,h2.mono e k⟩
 |[],U::V,h=>h.elim
 |U::V,[],h=>h.elim
theorem items.app {tb:TB} {d:Bas}:∀{vs us:List Value} {is js:List a19},items tb d vs is->items tb d us js->items tb d (vs++us) (is++js)
 |[],U,[],V,U1,h=>h
 |U::V,U1,V1::U2,V2,⟨h1,h2⟩,h=>⟨h1,h2.app h⟩
 |[],U,V::U1,V1,h,U2=>h.elim
 |U::V,U1,[],V1,h,U2=>h.elim
theorem items.snoc {tb:TB} {d:Bas}:∀{vs:List Value} {is:List a19} {i:a19},items tb d vs (is++[i])->X2 λus v=>A3 (vs=us++[v]) (items tb d us is) (i.rep tb d v)
 |[v],[],U,⟨h1,V⟩=>⟨[],v,rfl,trivial,h1⟩
 |U::V::U1,[],V1,⟨U2,h⟩=>h.elim
 |[],[],U,h=>h.elim
 |[],U::V,U1,h=>h.elim
 |v::vs,j::is,i,⟨h1,h2⟩=>by
  obtain⟨us,u,rfl,h3,h4⟩:=items.snoc (vs:=vs) (is:=is) h2
  exact⟨v::us,u,rfl,⟨h1,h3⟩,h4⟩
theorem items.len {tb:TB} {d:Bas}:∀{vs:List Value} {is:List a19},items tb d vs is->vs.length=is.length
 |[],[],U=>rfl
 |U::V,U1::V1,⟨U2,h⟩=>by simp [h.len]
 |[],U::V,h=>h.elim
 |U::V,[],h=>h.elim
noncomputable def a19.step (tab iw:Bool) (r:Nat):a19->Str × List a19
 | .piece p=>(p,[])
 | .datum (.vec a c)=>(Str.ofString "#(",[.piece (Str.ofString ")"),.datum c,.piece (Str.ofString " "),.datum a])
 | .datum (.q1 m a)=>if tab then (m.sign,[.datum a]) else (Str.ofString "(",[.tail [a],.datum (.sym m.name)])
 | .datum (.q2 m a c)=>(Str.ofString "(",[.tail [a,c],.datum (.sym m.name)])
 | .datum g=>(g.atomT iw r,[])
 | .tail []=>(Str.ofString ")",[])
 | .tail (g::gs)=>(Str.ofString " ",[.tail gs,.datum g])
section
variable {tab iw:Bool} {r:Nat} {m:Mk} {a c:Dt}
theorem ipP {p:Str}:a19.step tab iw r (.piece p)=(p,[]):=rfl
theorem ipV:a19.step tab iw r (.datum (.vec a c))=(Str.ofString "#(",[.piece (Str.ofString ")"),.datum c,.piece (Str.ofString " "),.datum a]):=rfl
theorem ipQ:a19.step tab iw r (.datum (.q1 m a))=if tab then (m.sign,[.datum a]) else (Str.ofString "(",[.tail [a],.datum (.sym m.name)]):=rfl
theorem ipR:a19.step tab iw r (.datum (.q2 m a c))=(Str.ofString "(",[.tail [a,c],.datum (.sym m.name)]):=rfl
theorem ipN:a19.step tab iw r (.tail [])=(Str.ofString ")",[]):=rfl
theorem ipT {gs:List Dt}:a19.step tab iw r (.tail (a::gs))=(Str.ofString " ",[.tail gs,.datum a]):=rfl
end
noncomputable def ad0 (w:World) (d:Bas) (tab:Value) (tb:TB) (nf:Nat) (tf:FP):Prop:=(tab= .none/\tf=[]/\X2 λbd rows=>a17 d tb bd rows nf)∨X5 λtA dT rl bd rows=>A3 (tab= .ref tA) (tf=Tab w tb tA dT rl bd rows) (a17 d tb bd rows nf)
noncomputable def a06:Value->Bool
 | .none=>false
 | _=>true
noncomputable abbrev ag3 (x dx pl wl:Addr) (iw:Bool) (pt:Tok) (r:Nat) (rt:Tok) (lim tab:Value) (n0:Int) (tk:Tok) (vs ps:List Value) (tf:FP):FP:=
 (wl,.list vs)::(pl,.list ps)::(x,.inst 1227 dx (ba5 iw pt r rt lim tab pl n0 tk wl))::tf
noncomputable def b51 (w:World) (tb:TB) (nf:Nat) (x dx pl wl:Addr) (iw:Bool) (pt:Tok) (r:Nat) (rt:Tok) (lim tab:Value) (n0:Int) (vs ps:List Value) (p:Str) (is:List a19) (d':Bas) (fp':FP):Prop:=
 X5 λtb' tf' tk' us u=>A4 (Ext tb tb') (ad0 w d' tab tb' nf tf') (items tb' d' us is) (fp'=ag3 x dx pl wl iw pt r rt lim tab (n0+(p.length:Int)) tk' (vs++us) (ps++[.str p u]) tf')
noncomputable def a52 (w:World) (b:Heap) (fr d:Bas) (tb:TB) (nf:Nat) (x dx pl wl:Addr) (iw:Bool) (pt:Tok) (r:Nat) (rt:Tok) (lim tab:Value) (n0:Int) (vs ps:List Value) (p:Str) (is:List a19) (h':Heap):Prop:=
 X2 λd' fp'=>a48 w.params b fr d d' fp' h'/\b51 w tb nf x dx pl wl iw pt r rt lim tab n0 vs ps p is d' fp'
theorem ag6 {f:Value} {args:List Value} {tb:TB} {nf:Nat} {x dx pl wl:Addr} {iw:Bool} {pt:Tok} {r:Nat} {rt:Tok} {lim tab:Value} {n0:Int} {vs ps:List Value} {p:Str} {is:List a19}
  (k:a07 w A z f args h t (λq h'=>q= .none/\a52 w b fr d tb nf x dx pl wl iw pt r rt lim tab n0 vs ps p is h')):
  a07 w A z f args h t (λq h'=>X2 λd' fp'=>a48 w.params b fr d d' fp' h'/\(q= .none/\b51 w tb nf x dx pl wl iw pt r rt lim tab n0 vs ps p is d' fp')):=by
 refine codeAny_mono k ?_
 rintro q s' ⟨v,h',t',rfl,rfl,hv,d',fp',B,P⟩
 exact⟨_,_,_,rfl,rfl,d',fp',B,hv,P⟩
end
section
theorem a91 {fr d d':Bas} (k:Sub d d'):Sub (fr.or d) (fr.or d'):=Sub.or a29 (k.trans a12)
theorem a11 {P:Params} {a:Addr} {vs:List Value} (S:St P b (fr.or d) L l ((a,.tup vs)::fp) h):∃d1,A3 (aa2 fr d d1) (aw4 d1 a vs) (St P b (fr.or d1) L l fp h):=⟨_,S.frz.2,b24 S,S.frz.1⟩
theorem ao3 {P:Params} {a:Addr} {vs:List Value} (S:St P b (fr.or d) L l ((a,.list vs)::fp) h):∃d1,A3 (aa2 fr d d1) (ab2 d1 a vs) (St P b (fr.or d1) L l fp h):=⟨_,S.frz.2,ap8 S,S.frz.1⟩
theorem a33 {P:Params} {a C dx:Addr} {al:List (Str × Value)} (S:St P b (fr.or d) L l ((a,.inst C dx al)::fp) h):∃d1,A3 (aa2 fr d d1) (a00 d1 a C al) (St P b (fr.or d1) L l fp h):=⟨_,S.frz.2,a84 S,S.frz.1⟩
theorem ad0.mono {w:World} {d d':Bas} {tab:Value} {tb:TB} {nf:Nat} {tf:FP} (T:ad0 w d tab tb nf tf) (k:Sub d d'):ad0 w d' tab tb nf tf:=by
 rcases T with⟨h1,h2,bd,rows,h3⟩|⟨tA,dT,rl,bd,rows,h1,h2,h3⟩
 ·exact .inl ⟨h1,h2,bd,rows,h3.sub k⟩
 ·exact .inr ⟨tA,dT,rl,bd,rows,h1,h2,h3.sub k⟩
theorem ad0.ok {w:World} {d:Bas} {tab:Value} {tb:TB} {nf:Nat} {tf:FP} (T:ad0 w d tab tb nf tf):X2 λbd rows=>a17 d tb bd rows nf:=by
 rcases T with⟨h1,h2,bd,rows,h3⟩|⟨tA,dT,rl,bd,rows,h1,h2,h3⟩
 ·exact ⟨bd,rows,h3⟩
 ·exact ⟨bd,rows,h3⟩
theorem a17.rep {d:Bas} {tb:TB} {bd:Addr} {rows:List Value} {nf:Nat} (T:a17 d tb bd rows nf) {s:Str} {a:Addr} (e:tb.lookup s=some a):Rep tb d (.ref a) (.sym s):=by
 obtain⟨n,u,v,I⟩:=T.syms _ (a16 e)
 exact⟨a,n,u,v,rfl,e,I⟩
theorem al4 {α:Type} {a c e:α} {r:List α}:(e::a::c::r).Perm (a::c::e::r):=by
 refine (List.Perm.swap a e (c::r)).trans ?_
 exact (List.Perm.swap c e r).cons a
theorem Rep.handed {tb:TB} {d:Bas} {g:Dt} {v:Value} (R:Rep tb d v g):handedIn v=true:=by
 induction g using Dt.casesOn with
 |int U=>obtain⟨_,rfl⟩:=R;rfl
 |eof=>cases R;rfl
 |unspec=>cases R;rfl
 |nil=>cases R;rfl
 |q1 U V=>obtain⟨a,x,⟨p,r,rfl,_⟩,_⟩:=R;rfl
 |q2 U V U1=>obtain⟨a,x,y,⟨p,r,rfl,_⟩,_⟩:=R;rfl
 |sym U=>obtain⟨a,n,u,w,rfl,_⟩:=R;rfl
 |raw U=>obtain⟨a,n,u,w,rfl,_⟩:=R;rfl
 |text U=>obtain⟨a,l,vs,rfl,_⟩:=R;rfl
 |prim=>obtain⟨a,t,u,rfl,_⟩:=R;rfl
 |vec U V=>obtain⟨a,l,x,y,rfl,_⟩:=R;rfl
 | _=>obtain⟨a,t,rfl,_⟩:=R;rfl
theorem am9.handed {tb:TB} {d:Bas} {gs:List Dt} {v:Value} (R:am9 tb d v gs):handedIn v=true:=by
 induction gs using List.casesOn with
 |nil=>cases R;rfl
 |cons U V=>obtain⟨p,c,rest,rfl,_⟩:=R;rfl
theorem aX7 (X:a01 w K b) (G:KOk K) (room:a04 A 2) {tb:TB} {nf:Nat} {x dx pl wl:Addr} {iw:Bool} {lim tab v:Value} {r:Nat} {pt rt tk:Tok} {n0:Int} {gs:List Dt} {vs ps:List Value} {tf:FP}
  (hps:ps.length<1000000) (hvs:vs.length<1000000) (hf:aw5 lim (n0+((a19.step (a06 tab) iw r (.tail gs)).1.length:Int))) (TP:ad0 w d tab tb nf tf) (R:am9 tb d v gs)
  (T:Sit w.params b (fr.or d) (ag3 x dx pl wl iw pt r rt lim tab n0 tk vs ps tf) h):
  a07 w A z (.ref 1217) [.ref x,v] h t (λq h'=>q= .none/\a52 w b fr d tb nf x dx pl wl iw pt r rt lim tab n0 vs ps (a19.step (a06 tab) iw r (.tail gs)).1 (a19.step (a06 tab) iw r (.tail gs)).2 h'):=by
 induction gs using List.casesOn with
 |nil=>
  obtain rfl:=R
  refine en (binds:=[("self",.ref x),("thing",.ref 44)]) G.bu7 X T room ?_
  kd_in
  refine b59 (a14 G X S) (a14 G X S) ?_
  kd_subs
  refine a05 [false,true,true] S (λg' hs T=>aa6 X G (room.deeper (by decide)) (by decide+kernel) hps hf T) ?_
  clear S;rintro q h t fp' S ⟨tk',rfl,rfl⟩
  kcf_m
  kd_subs
  refine rT.n ⟨rfl,d,_,a48.same (S.perm al4).sit,tb,tf,tk',[],tk,Ext.refl,TP,trivial,?_⟩
  rw[List.append_nil]
  rfl
 |cons g gs=>
  obtain⟨p,c,rest,rfl,I,Rg,Rt⟩:=R
  refine en (binds:=[("self",.ref x),("thing",.ref p)]) G.bu7 X T room ?_
  kd_all
  dsimp only[List.reverse,List.reverseAux] at S
  have J1:a00 (fr.or d) p 152 [("car",c),("cdr",rest)]:=I.sub a12
  kd_subs
  refine ar8 (S.binst J1) (a14 G X S) ?_
  kd_subs
  refine a05 [false,true,true] S (λg' hs T=>aa6 X G (room.deeper (by decide)) (by decide+kernel) hps hf T) ?_
  clear S;rintro q h t fp' S ⟨tk',rfl,rfl⟩
  kcf_m
  have hr:=Rt.handed
  have hc:=Rg.handed
  kd_subs
  refine a02 3 S rfl (szE (ltl (by keq_rows))) ?_;kcj_m
  have e1:a=a:=rfl
  obtain⟨d1,G1,I1,S⟩:=a11 S
  rename_i S0;clear S0
  replace J1:=J1.sub (a91 G1.mono)
  kd_subs
  refine a02 3 S rfl (szE (by rw[List.length_append];simp;exact ltl (by keq_rows))) ?_;kcj_m
  obtain⟨d2,G2,I2,S⟩:=a11 S
  rename_i S0;clear S0
  kd_subs
  refine rT.n ⟨rfl,d2,_,(G1.trans G2).back (S.perm al4).sit,tb,tf,tk',[_,_],tk,Ext.refl,TP.mono (G1.trans G2).mono,⟨⟨_,_,_,rfl,I1.sub G2.mono,Rt.mono Ext.refl (G1.trans G2).mono⟩,⟨_,_,_,rfl,I2,Rg.mono Ext.refl (G1.trans G2).mono⟩,trivial⟩,?_⟩
  rw[List.append_assoc]
  rfl
end
section
theorem Mk.sign_len (m:Mk):m.sign.length<=2:=by induction m using Mk.casesOn<;>decide+kernel
theorem ay8 (X:a01 w K b) (G:KOk K) (room:a04 A 2) {tb:TB} {nf:Nat} {x dx pl wl p:Addr} {iw:Bool} {lim tab c rest:Value} {g1:Dt} {gs:List Dt} {r:Nat} {pt rt tk:Tok} {n0:Int} {vs ps:List Value} {tf:FP}
  (hps:ps.length<1000000) (hvs:vs.length<1000000) (hf:aw5 lim (n0+((Str.ofString "(").length:Int))) (TP:ad0 w d tab tb nf tf) (I:a00 d p 152 [("car",c),("cdr",rest)]) (Rc:Rep tb d c g1) (Rt:am9 tb d rest gs)
  (hT:tab= .none∨X3 λc1 c2 c3=>aj2 d (.ref p) [c1,c2,c3] (.ref 44))
  (T:Sit w.params b (fr.or d) (ag3 x dx pl wl iw pt r rt lim tab n0 tk vs ps tf) h):
  a07 w A z (.ref 1210) [.ref x,.ref p] h t (λq h'=>q= .none/\a52 w b fr d tb nf x dx pl wl iw pt r rt lim tab n0 vs ps (Str.ofString "(") [.tail gs,.datum g1] h'):=by
 refine en (binds:=[("self",.ref x),("thing",.ref p)]) G.bs4 X T room ?_
 kd_all
 dsimp only[List.reverse,List.reverseAux] at S
 have J1:a00 (fr.or d) p 152 [("car",c),("cdr",rest)]:=I.sub a12
 have hr:=Rt.handed
 have hc:=Rc.handed
 have fin:∀{tb':TB} {tab':Value},tab'=tab->tab'=tab:=λq=>q
 rcases hT with rfl |⟨c1,c2,c3,C⟩
 ·kd_subs
  refine a05 [false,true,true] S (λg' hs T=>aa6 X G (room.deeper (by decide)) (by decide+kernel) hps hf T) ?_
  clear S;rintro q h t fp' S ⟨tk',rfl,rfl⟩
  kcf_m
  kd_subs
  refine a02 3 S rfl (szE (ltl (by keq_rows))) ?_;kcj_m
  obtain⟨d1,G1,I1,S⟩:=a11 S
  rename_i S0;clear S0
  replace J1:=J1.sub (a91 G1.mono)
  kd_subs
  refine a02 3 S rfl (szE (by rw[List.length_append];simp;exact ltl (by keq_rows))) ?_;kcj_m
  obtain⟨d2,G2,I2,S⟩:=a11 S
  rename_i S0;clear S0
  kd_subs
  refine rT.n ⟨rfl,d2,_,(G1.trans G2).back (S.perm al4).sit,tb,tf,tk',[_,_],tk,Ext.refl,TP.mono (G1.trans G2).mono,⟨⟨_,_,_,rfl,I1.sub G2.mono,Rt.mono Ext.refl (G1.trans G2).mono⟩,⟨_,_,_,rfl,I2,Rc.mono Ext.refl (G1.trans G2).mono⟩,trivial⟩,?_⟩
  rw[List.append_assoc]
  rfl
 ·have TP0:=TP
  rcases TP with⟨rfl,rfl,_⟩|⟨tA,dT,rl,bd,rows,rfl,rfl,Tb⟩
  ·kd_subs
   refine a05 [false,true,true] S (λg' hs T=>aa6 X G (room.deeper (by decide)) (by decide+kernel) hps hf T) ?_
   clear S;rintro q h t fp' S ⟨tk',rfl,rfl⟩
   kcf_m
   kd_subs
   refine a02 3 S rfl (szE (ltl (by keq_rows))) ?_;kcj_m
   obtain⟨d1,G1,I1,S⟩:=a11 S
   rename_i S0;clear S0
   replace J1:=J1.sub (a91 G1.mono)
   kd_subs
   refine a02 3 S rfl (szE (by rw[List.length_append];simp;exact ltl (by keq_rows))) ?_;kcj_m
   obtain⟨d2,G2,I2,S⟩:=a11 S
   rename_i S0;clear S0
   kd_subs
   refine rT.n ⟨rfl,d2,_,(G1.trans G2).back (S.perm al4).sit,tb,[],tk',[_,_],tk,Ext.refl,TP0.mono (G1.trans G2).mono,⟨⟨_,_,_,rfl,I1.sub G2.mono,Rt.mono Ext.refl (G1.trans G2).mono⟩,⟨_,_,_,rfl,I2,Rc.mono Ext.refl (G1.trans G2).mono⟩,trivial⟩,?_⟩
   rw[List.append_assoc]
   rfl
  ·kd_subs
   refine am4 S (λg' hs T=>ad4 X G (room.deeper (by decide)) (C.sub (Sub.trans a12 hs)) T) ?_;clear S
   kd_subs
   refine a05 [false,true,true,false,false,false] S (λg' hs T=>aa6 X G (room.deeper (by decide)) (by decide+kernel) hps hf T) ?_
   clear S;rintro q h t fp' S ⟨tk',rfl,rfl⟩
   kcf_m
   kd_subs
   refine a02 3 S rfl (szE (ltl (by keq_rows))) ?_;kcj_m
   obtain⟨d1,G1,I1,S⟩:=a11 S
   rename_i S0;clear S0
   replace J1:=J1.sub (a91 G1.mono)
   kd_subs
   refine a02 3 S rfl (szE (by rw[List.length_append];simp;exact ltl (by keq_rows))) ?_;kcj_m
   obtain⟨d2,G2,I2,S⟩:=a11 S
   rename_i S0;clear S0
   kd_subs
   refine rT.n ⟨rfl,d2,_,(G1.trans G2).back (S.perm al4).sit,tb,_,tk',[_,_],tk,Ext.refl,.inr ⟨tA,dT,rl,bd,rows,rfl,rfl,Tb.sub (G1.trans G2).mono⟩,⟨⟨_,_,_,rfl,I1.sub G2.mono,Rt.mono Ext.refl (G1.trans G2).mono⟩,⟨_,_,_,rfl,I2,Rc.mono Ext.refl (G1.trans G2).mono⟩,trivial⟩,?_⟩
   rw[List.append_assoc]
   rfl
theorem bf0 (X:a01 w K b) (G:KOk K) (room:a04 A 6) (hh:A.handled=none) (hb:Sub (Bas.of b) fr) {tb:TB} {nf:Nat} (hnf:nf<900) {x dx pl wl tA dT rl bd ad:Addr} {rows:List Value} {iw:Bool} {lim v vx:Value} {m:Mk} {g1:Dt} {r:Nat} {pt rt tk:Tok} {n0:Int} {vs ps:List Value}
  (hps:ps.length<1000000) (hvs:vs.length<1000000) (hf:aw5 lim (n0+(m.sign.length:Int))) (Tb:a17 d tb bd rows nf) (C:aj2 d v [.ref ad,vx] (.ref 44)) (ha:tb.lookup m.name=some ad) (Rx:Rep tb d vx g1)
  (T:Sit w.params b (fr.or d) (ag3 x dx pl wl iw pt r rt lim (.ref tA) n0 tk vs ps (Tab w tb tA dT rl bd rows)) h):
  a07 w A z (.ref 1210) [.ref x,v] h t (λq h'=>q= .none/\a52 w b fr d tb nf x dx pl wl iw pt r rt lim (.ref tA) n0 vs ps m.sign [.datum g1] h'):=by
 obtain⟨p,rest,rfl,I1,p2,rest2,rfl,I2,C2⟩:=id C
 refine en (binds:=[("self",.ref x),("thing",.ref p)]) G.bs4 X T room ?_
 kd_all
 dsimp only[List.reverse,List.reverseAux] at S
 have hc:=Rx.handed
 kd_subs
 refine a03 [false,false,false,true,true,true] S hb (λfr' hs T=>ad5 X G (room.deeper (by decide)) hh hnf Tb (hb.trans (Sub.trans a29 hs)) C ha T) ?_
 clear S
 rintro q h t d1 fp' G1 S ⟨tb1,rows1,tks,hx1,Tb1,rfl,rfl⟩
 dsimp+zetaDelta only[msk,List.cons_append,List.nil_append,Tab] at S
 have J1:a00 (fr.or d1) p 152 [("car",.ref ad),("cdr",.ref p2)]:=(I1.sub G1.mono).sub a12
 have J2:a00 (fr.or d1) p2 152 [("car",vx),("cdr",rest2)]:=(I2.sub G1.mono).sub a12
 kd_subs
 refine a05 [false,false,false,false,true,true] S (λg' hs T=>aa6 X G (room.deeper (by decide)) (by have:=m.sign_len;exact lel (by keq_rows)) hps hf T) ?_
 clear S;rintro q h t fp' S ⟨tk',rfl,rfl⟩
 kcf_m
 replace S:=S.perm (List.perm_append_comm (l₁:=[_]) (l₂:=[_,_,_,_,_]))
 dsimp only[List.cons_append,List.nil_append] at S
 kd_subs
 refine a02 1 S rfl (szE (ltl (by keq_rows))) ?_;kcj_m
 obtain⟨d2,G2,I3,S⟩:=a11 S
 rename_i S0;clear S0
 kd_subs
 exact rT.s ⟨rfl,d2,_,(G1.trans G2).back S.sit,tb1,_,tk',[_],tks,hx1,.inr ⟨tA,dT,rl,bd,rows1,rfl,rfl,Tb1.sub G2.mono⟩,⟨⟨_,_,_,rfl,I3,Rx.mono hx1 (G1.trans G2).mono⟩,trivial⟩,rfl⟩
end
section
theorem ah8 {tab iw:Bool} {r:Nat} {g:Dt} (ha:g.isAtom=true):a19.step tab iw r (.datum g)=(g.atomT iw r,[]):=by
 induction g using Dt.casesOn<;>first |rfl |(exact absurd ha Bool.false_ne_true)
theorem ak0 (X:a01 w K b) (G:KOk K) (room:a04 A 5) (hh:A.handled=none) {g:Bas} {tb:TB} {x dx pl wl:Addr} {iw:Bool} {lim tab v:Value} {r:Nat} {pt rt tk:Tok} {n0:Int} {gd:Dt} (hd:Sub d g) (hr2:2<=r) (hr:r<=16) (ok:gd.ok iw) (ha:gd.isAtom=true) (R:Rep tb d v gd)
  (T:Sit w.params b g [(x,.inst 1227 dx (ba5 iw pt r rt lim tab pl n0 tk wl))] h):
  a07 w A z (.ref 1224) [.ref x,v] h t (λq h'=>∃fp',Sit w.params b g fp' h'/\fp'=[(x,.inst 1227 dx (ba5 iw pt r rt lim tab pl n0 tk wl))]/\∃tk,q= .str (gd.atomT iw r) tk):=by
 refine codeAny_mono (b46 X G room hh T.base hr2 hr ok ha R (T.anti (Sub.or (λU V e=>e) hd) (T.base.trans a29))) ?_
 rintro q s' ⟨v,h',t',rfl,rfl,fp',T',hq⟩
 exact⟨_,_,_,rfl,rfl,fp',T'.anti a29 T.base,hq⟩
theorem aU7 (X:a01 w K b) (G:KOk K) (room:a04 A 7) (hh:A.handled=none) (hb:Sub (Bas.of b) fr) {tb:TB} {nf:Nat} {x dx pl wl:Addr} {iw:Bool} {lim tab v:Value} {g:Dt} {r:Nat} {pt rt tk:Tok} {n0:Int} {vs ps:List Value} {tf:FP}
  (hr2:2<=r) (hr:r<=16) (ok:g.ok iw) (ha:g.isAtom=true) (hl:(g.atomT iw r).length<1000000)
  (hps:ps.length<1000000) (hvs:vs.length<1000000) (hf:aw5 lim (n0+((g.atomT iw r).length:Int))) (TP:ad0 w d tab tb nf tf) (R:Rep tb d v g)
  (T:Sit w.params b (fr.or d) (ag3 x dx pl wl iw pt r rt lim tab n0 tk vs ps tf) h):
  a07 w A z (.ref 1203) [.ref x,v] h t (λq h'=>q= .none/\a52 w b fr d tb nf x dx pl wl iw pt r rt lim tab n0 vs ps (g.atomT iw r) [] h'):=by
 refine en (binds:=[("self",.ref x),("thing",v)]) G.bt1 X T room ?_
 kd_all
 dsimp only[List.reverse,List.reverseAux] at S
 by_cases hi:∃n,g= .int n
 ·obtain ⟨n,rfl⟩:=hi
  obtain⟨u,rfl⟩:=id R
  kd_subs
  refine a05 [false,false,true] S (λg' hs T=>ak0 X G (room.deeper (by decide)) hh (Sub.trans a12 hs) hr2 hr ok ha R T) ?_
  clear S;rintro q h t fp' S ⟨rfl,tk1,rfl⟩
  kcf_m
  replace S:=S.perm al4
  kd_subs
  refine a05 [true,true] S (λg' hs T=>aa6 X G (room.deeper (by decide)) hl hps hf T) ?_
  clear S;rintro q h t fp' S ⟨tk',rfl,rfl⟩
  kcf_m
  replace S:=S.perm al4
  kd_subs
  exact rT.n ⟨rfl,d,_,a48.same S.sit,tb,tf,tk',[],tk1,Ext.refl,TP,trivial,by rw[List.append_nil]⟩
 ·obtain ⟨a,al,rfl,I⟩:=Rep.inst X G hb R (λn e=>hi ⟨n,e⟩)
  have h1:aJ0.contains g.cls=true:=by induction g using Dt.casesOn<;>first |exact absurd ⟨_,rfl⟩ hi |kernel_rfl!
  have h2:rel g.cls 152=false:=by induction g using Dt.casesOn<;>first |kernel_rfl! |exact absurd ha Bool.false_ne_true
  have h3:rel g.cls 215=false:=by induction g using Dt.casesOn<;>first |kernel_rfl! |exact absurd ha Bool.false_ne_true
  kd_subs
  refine aR2 S X G (S.binst I) h1 (by kernel_rfl!) ?_;intro t
  rw[h2]
  kd_subs
  refine aR2 S X G (S.binst I) h1 (by kernel_rfl!) ?_;intro t
  rw[h3]
  kd_subs
  refine a05 [false,false,true] S (λg' hs T=>ak0 X G (room.deeper (by decide)) hh (Sub.trans a12 hs) hr2 hr ok ha R T) ?_
  clear S;rintro q h t fp' S ⟨rfl,tk1,rfl⟩
  kcf_m
  replace S:=S.perm al4
  kd_subs
  refine a05 [true,true] S (λg' hs T=>aa6 X G (room.deeper (by decide)) hl hps hf T) ?_
  clear S;rintro q h t fp' S ⟨tk',rfl,rfl⟩
  kcf_m
  replace S:=S.perm al4
  kd_subs
  exact rT.n ⟨rfl,d,_,a48.same S.sit,tb,tf,tk',[],tk1,Ext.refl,TP,trivial,by rw[List.append_nil]⟩
theorem az5 (X:a01 w K b) (G:KOk K) (room:a04 A 7) (hh:A.handled=none) (hb:Sub (Bas.of b) fr) {tb:TB} {nf:Nat} (hnf:nf<900) {x dx pl wl:Addr} {iw:Bool} {lim tab v:Value} {g:Dt} {r:Nat} {pt rt tk:Tok} {n0:Int} {vs ps:List Value} {tf:FP}
  (hc:g.cls=152)
  (hps:ps.length<1000000) (hvs:vs.length<1000000) (hf:aw5 lim (n0+((a19.step (a06 tab) iw r (.datum g)).1.length:Int))) (TP:ad0 w d tab tb nf tf) (R:Rep tb d v g)
  (T:Sit w.params b (fr.or d) (ag3 x dx pl wl iw pt r rt lim tab n0 tk vs ps tf) h):
  a07 w A z (.ref 1203) [.ref x,v] h t (λq h'=>q= .none/\a52 w b fr d tb nf x dx pl wl iw pt r rt lim tab n0 vs ps (a19.step (a06 tab) iw r (.datum g)).1 (a19.step (a06 tab) iw r (.datum g)).2 h'):=by
 have hi:∀n,g≠ .int n:=λn e=>by subst e;cases hc
 obtain⟨a,al,rfl,I⟩:=Rep.inst X G hb R hi
 rw[hc] at I
 have sub:∀{A':Around} {fr':Bas} {h:Heap} {t:Nat},a04 A' 6->A'.handled=none->Sub (fr.or d) fr'->Sit w.params b (fr'.or d) (ag3 x dx pl wl iw pt r rt lim tab n0 tk vs ps tf) h->
   a07 w A' z (.ref 1210) [.ref x,.ref a] h t (λq h'=>q= .none/\a52 w b fr' d tb nf x dx pl wl iw pt r rt lim tab n0 vs ps (a19.step (a06 tab) iw r (.datum g)).1 (a19.step (a06 tab) iw r (.datum g)).2 h'):=by
  intro A' fr' h t room' hh' hs T'
  have hb':Sub (Bas.of b) fr':=hb.trans (Sub.trans a29 hs)
  induction g using Dt.casesOn with
  |q1 m g1=>
   obtain⟨ad,vx,C,ha,Rx⟩:=id R
   rcases TP with⟨rfl,rfl,bd,rows,Tb⟩|⟨tA,dT,rl,bd,rows,rfl,rfl,Tb⟩
   ·obtain ⟨p,rest,e,I1,p2,rest2,rfl,I2,C2⟩:=id C
    cases e
    have:rest2= .ref 44:=C2
    subst this
    exact ay8 X G (room'.less (by decide)) hps hvs hf (.inl ⟨rfl,rfl,bd,rows,Tb⟩) I1 (Tb.rep ha) (gs:=[g1]) ⟨p2,vx,.ref 44,rfl,I2,Rx,rfl⟩ (.inl rfl) T'
   ·exact bf0 X G room' hh' hb' hnf hps hvs hf Tb C ha Rx T'
  |q2 m g1 g2=>
   obtain⟨ad,vx,vy,C,ha,Rx,Ry⟩:=id R
   obtain⟨bd,rows,Tb⟩:=TP.ok
   obtain⟨p,rest,e,I1,p2,rest2,rfl,I2,p3,rest3,rfl,I3,C2⟩:=id C
   cases e
   have:rest3= .ref 44:=C2
   subst this
   exact ay8 X G (room'.less (by decide)) hps hvs hf TP I1 (Tb.rep ha) (gs:=[g1,g2]) ⟨p2,vx,.ref p3,rfl,I2,Rx,p3,vy,.ref 44,rfl,I3,Ry,rfl⟩ (.inr ⟨_,_,_,C⟩) T'
  | _=>cases hc
 refine en (binds:=[("self",.ref x),("thing",.ref a)]) G.bt1 X T room ?_
 kd_in
 have fin:∀{h:Heap} {d':Bas} {tb':TB} {tf':FP} {fp':FP} {tk':Tok} {us:List Value} {u:Tok},aa2 fr d d'->St w.params b (fr.or d') cx.L [("thing",.ref a),("self",.ref x)] fp' h->Ext tb tb'->ad0 w d' tab tb' nf tf'->items tb' d' us (a19.step (a06 tab) iw r (.datum g)).2->
   fp'=ag3 x dx pl wl iw pt r rt lim tab (n0+((a19.step (a06 tab) iw r (.datum g)).1.length:Int)) tk' (vs++us) (ps++[.str (a19.step (a06 tab) iw r (.datum g)).1 u]) tf'->
   a52 w b fr d tb nf x dx pl wl iw pt r rt lim tab n0 vs ps (a19.step (a06 tab) iw r (.datum g)).1 (a19.step (a06 tab) iw r (.datum g)).2 h:=
  λG1 S h1 h2 h3 h4=>⟨_,_,G1.back S.sit,_,_,_,_,_,h1,h2,h3,h4⟩
 refine a45 S hb (λfr' hs T=>ag6 (sub (room.deeper (by decide)) hh hs T)) ?_
 clear S
 rintro q h t d1 fp' G1 S ⟨rfl,tb1,tf1,tk1,us,u,h1,h2,h3,h4⟩
 kd_subs
 exact rT.n ⟨rfl,fin G1 S h1 h2 h3 h4⟩
theorem b38 (X:a01 w K b) (G:KOk K) (room:a04 A 7) (hh:A.handled=none) (hb:Sub (Bas.of b) fr) {tb:TB} {nf:Nat} {x dx pl wl:Addr} {iw:Bool} {lim tab v:Value} {g1 g2:Dt} {r:Nat} {pt rt tk:Tok} {n0:Int} {vs ps:List Value} {tf:FP}
  (hps:ps.length<1000000) (hvs:vs.length<1000000) (hf:aw5 lim (n0+((Str.ofString "#(").length:Int))) (TP:ad0 w d tab tb nf tf) (R:Rep tb d v (.vec g1 g2))
  (T:Sit w.params b (fr.or d) (ag3 x dx pl wl iw pt r rt lim tab n0 tk vs ps tf) h):
  a07 w A z (.ref 1203) [.ref x,v] h t (λq h'=>q= .none/\a52 w b fr d tb nf x dx pl wl iw pt r rt lim tab n0 vs ps (Str.ofString "#(") [.piece (Str.ofString ")"),.datum g2,.piece (Str.ofString " "),.datum g1] h'):=by
 obtain⟨av,lv,v1,v2,rfl,I,Il,R1,R2⟩:=R
 refine en (binds:=[("self",.ref x),("thing",.ref av)]) G.bt1 X T room ?_
 kd_all
 dsimp only[List.reverse,List.reverseAux] at S
 have J:a00 (fr.or d) av 215 [("things",.ref lv)]:=I.sub a12
 kd_subs
 refine a05 [false,true,true] S (λg' hs T=>aa6 X G (room.deeper (by decide)) (by decide+kernel) hps hf T) ?_
 clear S;rintro q h t fp' S ⟨tk',rfl,rfl⟩
 kcf_m
 revert tk;intro tkp S
 kd_subs
 refine a02 3 S rfl (szE (ltl (by keq_rows))) ?_;kcj_m
 obtain⟨d1,G1,I1,S⟩:=a11 S
 rename_i S0;clear S0
 replace J:=J.sub (a91 G1.mono)
 kd_subs
 have hlv:=(Il.sub (G1.mono.trans a12)).isList S.keep
 refine a34 hlv (show (2:Nat)<1000000 by decide) ?_;intro tk0
 kd_subs
 refine aO5 S (by decide) (aH0 _) ?_;clear S;intro rr h S
 refine ag9 0 S rfl (ay5 2 (by lia)) ?_;clear S;intro It h S
 rw[show Builtin.Range.rangeSize ((([v1,v2].length:Nat):Int) -1) (-1) (-1)=(2:Int) -((0:Nat):Int) from at9 2,show ((([v1,v2].length:Nat):Int) -1)=(2:Int) -1 -((0:Nat):Int) from rfl] at S
 replace S:=S.drop (.cons_cons _ (.cons _ (.refl _)))
 have ex:∀i:Nat,∃is:List a19,is=(match i with |0=>[.piece (Str.ofString ")")]|1=>[.piece (Str.ofString ")"),.datum g2,.piece (Str.ofString " ")]| _=>[.piece (Str.ofString ")"),.datum g2,.piece (Str.ofString " "),.datum g1]):=λU=>⟨_,rfl⟩
 refine av2 (n:=2) (λi h U=>X3 λ(d':Bas) (us:List Value) (qs:List (Str × Value))=>A3 (aa2 fr d d') (items tb d' us (match i with |0=>[.piece (Str.ofString ")")]|1=>[.piece (Str.ofString ")"),.datum g2,.piece (Str.ofString " ")]| _=>[.piece (Str.ofString ")"),.datum g2,.piece (Str.ofString " "),.datum g1]))
  (St w.params b (fr.or d') cx.L (("thing",.ref av)::("self",.ref x)::qs) ((It,.cell (bc4 ((2:Int) -1 -i) ((2:Int) -i) (-1)))::(pl,.list (ps++[Value.str (Str.ofString "#(") tkp]))::(x,.inst 1227 dx (ba5 iw pt r rt lim tab pl (n0+((Str.ofString "#(").length:Int)) tk' wl))::(wl,.list (vs++us))::tf) h)) ?_ ?_ 2 0 h _ (by exact rfl)
  ⟨d1,[.ref a],[],G1,⟨⟨_,_,_,rfl,I1⟩,trivial⟩,S⟩
 ·clear S
  rintro i h t hi ⟨d',us,qs,Gr,hus,S⟩ Jn nx
  have hul:=hus.len
  have hul2:us.length<=4:=by
   match i with
   |0=>simp at hul;lia
   |1=>simp at hul;lia
   |(n+2)=>simp at hul;lia
  refine ag7 0 S rfl (by lia) ?_;clear S;intro h tki S;dsimp+zetaDelta only[List.set] at S
  refine⟨_,rfl,?_⟩
  have J':a00 (fr.or d') av 215 [("things",.ref lv)]:=(I.sub Gr.mono).sub a12
  have hlv:=(Il.sub (Gr.mono.trans (a12 (g:=fr)))).isList S.keep
  have hi2:i=0∨i=1:=by lia
  rcases hi2 with rfl |rfl
  ·kd_subs
   have hlv:=(Il.sub (Gr.mono.trans (a12 (g:=fr)))).isList S.keep
   refine a27 hlv (by decide) (by decide) rfl ?_
   kd_subs
   refine a02 4 S rfl (szE (by rw[List.length_append];lia)) ?_;kcj_m
   obtain⟨d2,G2,I2,S⟩:=a11 S
   rename_i S0;clear S0
   kd_subs
   refine a02 4 S rfl (szE (by rw[List.length_append,List.length_append];simp;lia)) ?_;kcj_m
   obtain⟨d3,G3,I3,S⟩:=a11 S
   rename_i S0;clear S0
   kd_subs
   dsimp+zetaDelta only at S
   rw[List.append_assoc,List.append_assoc] at S
   exact nx ⟨d3,us++[_,_],_,(Gr.trans G2).trans G3,(hus.mono Ext.refl (G2.trans G3).mono).app (is:=[_]) (js:=[_,_]) ⟨⟨_,_,_,rfl,I2.sub G3.mono,R2.mono Ext.refl ((Gr.trans G2).trans G3).mono⟩,⟨_,_,_,rfl,I3⟩,trivial⟩,(S.front (x:="self") rfl).front (x:="thing") rfl⟩
  ·kd_subs
   have hlv:=(Il.sub (Gr.mono.trans (a12 (g:=fr)))).isList S.keep
   refine a27 hlv (by decide) (by decide) rfl ?_
   kd_subs
   refine a02 4 S rfl (szE (by rw[List.length_append];lia)) ?_;kcj_m
   obtain⟨d2,G2,I2,S⟩:=a11 S
   rename_i S0;clear S0
   kd_subs
   dsimp+zetaDelta only at S
   rw[List.append_assoc] at S
   exact nx ⟨d2,us++[_],_,Gr.trans G2,(hus.mono Ext.refl G2.mono).app (is:=[_,_,_]) (js:=[_]) ⟨⟨_,_,_,rfl,I2,R1.mono Ext.refl (Gr.trans G2).mono⟩,trivial⟩,(S.front (x:="self") rfl).front (x:="thing") rfl⟩
 ·clear S
  rintro h t ⟨d',us,qs,Gr,hus,S⟩
  refine a71 0 S hh rfl (by exact Int.natCast_nonneg _) ?_;clear S;intro h S;dsimp+zetaDelta only[List.eraseIdx] at S
  refine⟨rfl,?_⟩
  kd_subs
  exact rT.n ⟨rfl,d',_,Gr.back (S.perm al4).sit,tb,tf,tk',us,tkp,Ext.refl,TP.mono Gr.mono,hus,rfl⟩
end
section
noncomputable def a94:List Str->Str
 |[]=>Str.empty
 |x::r=>x++a94 r
theorem a30 (x:Str):Str.empty++x=x:=Str.append_left_empty rfl
theorem a26 (x:Str):x++Str.empty=x:=Str.append_right_empty rfl
theorem a24 (x y z:Str):x++y++z=x++(y++z):=Str.append_assoc x y z
theorem ao5:∀xs ys:List Str,a94 (xs++ys)=a94 xs++a94 ys
 |[],ys=>(a30 _).symm
 |x::r,ys=>by simp only[List.cons_append,a94,ao5 r ys,a24]
theorem an9:∀ys:List Str,Txt.join (Str.ofString "") ys=a94 ys:=by
 intro ys
 show PySem.Builtin.Str.glued _ _=_
 rw[StrLaws.glued_eq_join]
 have q:Str.ofString ""=Str.empty:=by kernel_rfl
 rw[q]
 induction ys with
 |nil=>rfl
 |cons x r ih=>
  induction r using List.casesOn with
  |nil=>rw[show Str.join Str.empty [x]=x from rfl];exact (a26 x).symm
  |cons y r=>
   rw[show Str.join Str.empty (x::y::r)=x++Str.empty++Str.join Str.empty (y::r) from rfl,ih,a26]
   rfl
noncomputable def Dt.txt (tab iw:Bool) (r:Nat):Dt->Str
 | .vec a c=>Str.ofString "#("++(a.txt tab iw r++(Str.ofString " "++(c.txt tab iw r++Str.ofString ")")))
 | .q1 m a=>if tab then m.sign++a.txt tab iw r else Str.ofString "("++(m.name++(Str.ofString " "++(a.txt tab iw r++Str.ofString ")")))
 | .q2 m a c=>Str.ofString "("++(m.name++(Str.ofString " "++(a.txt tab iw r++(Str.ofString " "++(c.txt tab iw r++Str.ofString ")")))))
 |g=>Dt.atomT iw r g
theorem txV {tab iw:Bool} {r:Nat} {a c:Dt}:(Dt.vec a c).txt tab iw r=Str.ofString "#("++(a.txt tab iw r++(Str.ofString " "++(c.txt tab iw r++Str.ofString ")"))):=rfl
theorem txQ {tab iw:Bool} {r:Nat} {m:Mk} {a:Dt}:(Dt.q1 m a).txt tab iw r=if tab then m.sign++a.txt tab iw r else Str.ofString "("++(m.name++(Str.ofString " "++(a.txt tab iw r++Str.ofString ")"))):=rfl
theorem txS {tab iw:Bool} {r:Nat} {s:Str}:(Dt.sym s).txt tab iw r=s:=rfl
theorem txR {tab iw:Bool} {r:Nat} {m:Mk} {a c:Dt}:(Dt.q2 m a c).txt tab iw r=Str.ofString "("++(m.name++(Str.ofString " "++(a.txt tab iw r++(Str.ofString " "++(c.txt tab iw r++Str.ofString ")"))))):=rfl
noncomputable def aS0 (tab iw:Bool) (r:Nat):List Dt->Str
 |[]=>Str.ofString ")"
 |g::gs=>Str.ofString " "++(g.txt tab iw r++aS0 tab iw r gs)
noncomputable def a19.txt (tab iw:Bool) (r:Nat):a19->Str
 | .piece p=>p
 | .datum g=>g.txt tab iw r
 | .tail gs=>aS0 tab iw r gs
noncomputable def a25 (tab iw:Bool) (r:Nat):List a19->Str
 |[]=>Str.empty
 |i::is=>a25 tab iw r is++i.txt tab iw r
theorem a55 (tab iw:Bool) (r:Nat):∀is js:List a19,a25 tab iw r (is++js)=a25 tab iw r js++a25 tab iw r is
 |[],js=>(a26 _).symm
 |i::is,js=>by simp only[List.cons_append,a25,a55 tab iw r is js,a24]
theorem ag4 {tab iw:Bool} {r:Nat} {g:Dt} (ha:g.isAtom=true):g.txt tab iw r=g.atomT iw r:=by
 induction g using Dt.casesOn<;>first |exact absurd ha Bool.false_ne_true |rfl
theorem ag5 (tab iw:Bool) (r:Nat) (i:a19):i.txt tab iw r=(i.step tab iw r).1++a25 tab iw r (i.step tab iw r).2:=by
 induction i using a19.casesOn with
 |piece p=>exact (a26 _).symm
 |tail gs=>
  induction gs using List.casesOn with
  |nil=>exact (a26 _).symm
  |cons g gs=>simp only[a19.txt,aS0,ipP,ipV,ipQ,ipR,ipN,ipT,a25,a30,a24]
 |datum g=>
  by_cases ha:g.isAtom=true
  ·rw [ah8 ha]
   show g.txt tab iw r=g.atomT iw r++Str.empty
   rw[a26,ag4 ha]
  ·induction g using Dt.casesOn with
   |vec a c=>simp only[a19.txt,txV,txQ,txR,txS,ipP,ipV,ipQ,ipR,ipN,ipT,a25,a30,a24]
   |q1 m a=>
    induction tab using Bool.casesOn
    ·simp only[a19.txt,txV,txQ,txR,txS,ipP,ipV,ipQ,ipR,ipN,ipT,a25,aS0,a30,a24,if_neg,Bool.false_eq_true,ite_false]
    ·simp only[a19.txt,txV,txQ,txR,txS,ipP,ipV,ipQ,ipR,ipN,ipT,a25,aS0,a30,a24,ite_true]
   |q2 m a c=>simp only[a19.txt,txV,txQ,txR,txS,ipP,ipV,ipQ,ipR,ipN,ipT,a25,aS0,a30,a24]
   | _=>exact absurd rfl ha
noncomputable def Dt.wt (tab:Bool):Dt->Nat
 | .vec a c=>3+a.wt tab+c.wt tab
 | .q1 U a=>if tab then 1+a.wt tab else 4+a.wt tab
 | .q2 U a c=>5+a.wt tab+c.wt tab
 | _=>1
theorem wtV {tab:Bool} {a c:Dt}:(Dt.vec a c).wt tab=3+a.wt tab+c.wt tab:=rfl
theorem wtQ {tab:Bool} {m:Mk} {a:Dt}:(Dt.q1 m a).wt tab=if tab then 1+a.wt tab else 4+a.wt tab:=rfl
theorem wtS {tab:Bool} {s:Str}:(Dt.sym s).wt tab=1:=rfl
theorem wtR {tab:Bool} {m:Mk} {a c:Dt}:(Dt.q2 m a c).wt tab=5+a.wt tab+c.wt tab:=rfl
noncomputable def an0 (tab:Bool):List Dt->Nat
 |[]=>1
 |g::gs=>1+g.wt tab+an0 tab gs
noncomputable def a19.wt (tab:Bool):a19->Nat
 | .piece U=>1
 | .datum g=>g.wt tab
 | .tail gs=>an0 tab gs
noncomputable def a18 (tab:Bool):List a19->Nat
 |[]=>0
 |i::is=>i.wt tab+a18 tab is
theorem a54 (tab:Bool):∀is js:List a19,a18 tab (is++js)=a18 tab is+a18 tab js
 |[],js=>by simp [a18]
 |i::is,js=>by simp only[List.cons_append,a18,a54 tab is js];lia
theorem Dt.wt_pos (tab:Bool) (g:Dt):1<=g.wt tab:=by
 induction g using Dt.casesOn<;>first |exact Nat.le_refl _ |(simp only[wtV,wtQ,wtR];first |lia |(split<;>lia))
theorem a19.wt_pos (tab:Bool) (i:a19):1<=i.wt tab:=by
 induction i using a19.casesOn with
 |piece p=>exact Nat.le_refl 1
 |datum g=>exact g.wt_pos tab
 |tail gs=>induction gs using List.casesOn<;>simp only[a19.wt,an0]<;>lia
theorem ap5 (tab:Bool):∀is:List a19,is.length<=a18 tab is
 |[]=>Nat.le_refl 0
 |i::is=>by
  have:=ap5 tab is
  have:=i.wt_pos tab
  simp only[a18,List.length_cons];lia
theorem aK5 (tab iw:Bool) (r:Nat) (i:a19):i.wt tab=1+a18 tab (i.step tab iw r).2:=by
 induction i using a19.casesOn with
 |piece p=>rfl
 |tail gs=>
  induction gs using List.casesOn with
  |nil=>rfl
  |cons g gs=>simp only[a19.wt,an0,ipP,ipV,ipQ,ipR,ipN,ipT,a18];lia
 |datum g=>
  by_cases ha:g.isAtom=true
  ·rw [ah8 ha]
   induction g using Dt.casesOn<;>first |rfl |(exact absurd ha Bool.false_ne_true)
  ·induction g using Dt.casesOn with
   |vec a c=>simp only[a19.wt,wtV,wtQ,wtR,wtS,ipP,ipV,ipQ,ipR,ipN,ipT,a18];lia
   |q1 m a=>
    induction tab using Bool.casesOn
    ·simp only[a19.wt,wtV,wtQ,wtR,wtS,ipP,ipV,ipQ,ipR,ipN,ipT,a18,an0,Bool.false_eq_true,ite_false];lia
    ·simp only[a19.wt,wtV,wtQ,wtR,wtS,ipP,ipV,ipQ,ipR,ipN,ipT,a18,an0,ite_true];exact rfl
   |q2 m a c=>simp only[a19.wt,wtV,wtQ,wtR,wtS,ipP,ipV,ipQ,ipR,ipN,ipT,a18,an0];lia
   | _=>exact absurd rfl ha
noncomputable def a19.ok (iw:Bool):a19->Prop
 | .piece U=>True
 | .datum g=>g.ok iw
 | .tail gs=>∀g∈gs,g.ok iw
theorem aO0 (tab iw:Bool) (r:Nat) (i:a19) (h:i.ok iw):∀j∈(i.step tab iw r).2,j.ok iw:=by
 have nm:∀m:Mk,Dt.ok iw (.sym m.name):=λm=>by
  show m.name.length<=100
  induction m using Mk.casesOn<;>decide+kernel
 induction i using a19.casesOn with
 |piece p=>intro j hj;cases hj
 |tail gs=>
  induction gs using List.casesOn with
  |nil=>intro j hj;cases hj
  |cons g gs=>
   intro j hj
   simp only[ipP,ipV,ipQ,ipR,ipN,ipT,List.mem_cons,List.not_mem_nil,or_false] at hj
   rcases hj with rfl |rfl
   ·exact λx hx=>h x (.tail _ hx)
   ·exact h g (.head _)
 |datum g=>
  by_cases ha:g.isAtom=true
  ·rw [ah8 ha];intro j hj;cases hj
  ·induction g using Dt.casesOn with
   |vec a c=>
    intro j hj
    simp only[ipP,ipV,ipQ,ipR,ipN,ipT,List.mem_cons,List.not_mem_nil,or_false] at hj
    rcases hj with rfl |rfl |rfl |rfl
    ·trivial
    ·exact h.2
    ·trivial
    ·exact h.1
   |q1 m a=>
    intro j hj
    induction tab using Bool.casesOn
    ·simp only[ipP,ipV,ipQ,ipR,ipN,ipT,Bool.false_eq_true,ite_false,List.mem_cons,List.not_mem_nil,or_false] at hj
     rcases hj with rfl |rfl
     ·intro x hx
      rw[List.mem_singleton] at hx
      subst hx
      exact h
     ·exact nm m
    ·simp only[ipP,ipV,ipQ,ipR,ipN,ipT,ite_true,List.mem_cons,List.not_mem_nil,or_false] at hj
     subst hj
     exact h
   |q2 m a c=>
    intro j hj
    simp only[ipP,ipV,ipQ,ipR,ipN,ipT,List.mem_cons,List.not_mem_nil,or_false] at hj
    rcases hj with rfl |rfl
    ·intro x hx
     simp only[List.mem_cons,List.not_mem_nil,or_false] at hx
     rcases hx with rfl |rfl
     ·exact h.1
     ·exact h.2
    ·exact nm m
   | _=>exact absurd rfl ha
theorem aw5.less {lim:Value} {m n:Int} (F:aw5 lim n) (h:m<=n):aw5 lim m:=by
 rcases F with F |⟨k,tk,e,hk⟩
 ·exact .inl F
 ·exact .inr ⟨k,tk,e,by lia⟩
theorem aQ2 (X:a01 w K b) (G:KOk K) (room:a04 A 7) (hh:A.handled=none) (hb:Sub (Bas.of b) fr) {tb:TB} {nf:Nat} (hnf:nf<900) {x dx pl wl:Addr} {iw:Bool} {lim tab v:Value} {g:Dt} {r:Nat} {pt rt tk:Tok} {n0:Int} {vs ps:List Value} {tf:FP}
  (hr2:2<=r) (hr:r<=16) (ok:g.ok iw) (hl:(g.txt (a06 tab) iw r).length<1000000)
  (hps:ps.length<1000000) (hvs:vs.length<1000000) (hf:aw5 lim (n0+((a19.step (a06 tab) iw r (.datum g)).1.length:Int))) (TP:ad0 w d tab tb nf tf) (R:Rep tb d v g)
  (T:Sit w.params b (fr.or d) (ag3 x dx pl wl iw pt r rt lim tab n0 tk vs ps tf) h):
  a07 w A z (.ref 1203) [.ref x,v] h t (λq h'=>q= .none/\a52 w b fr d tb nf x dx pl wl iw pt r rt lim tab n0 vs ps (a19.step (a06 tab) iw r (.datum g)).1 (a19.step (a06 tab) iw r (.datum g)).2 h'):=by
 by_cases ha:g.isAtom=true
 ·rw [ah8 ha] at hf ⊢
  rw[ag4 ha] at hl
  exact aU7 X G room hh hb hr2 hr ok ha hl hps hvs hf TP R T
 ·induction g using Dt.casesOn with
  |vec a c=>exact b38 X G room hh hb hps hvs hf TP R T
  |q1 m a=>exact az5 X G room hh hb hnf rfl hps hvs hf TP R T
  |q2 m a c=>exact az5 X G room hh hb hnf rfl hps hvs hf TP R T
  | _=>exact absurd rfl ha
end
section
theorem aC9:∀ys:List Str,(a94 ys).length=(ys.map (·.length)).sum
 |[]=>rfl
 |x::r=>by rw[a94,Str.length_append,aC9 r];simp
theorem bd7 (X:a01 w K b) (G:KOk K) (room:a04 A 8) (hh:A.handled=none) (hb:Sub (Bas.of b) fr) {tb:TB} {nf:Nat} (hnf:nf<900) {x dx pl wl:Addr} {iw:Bool} {lim tab v:Value} {g:Dt} {r:Nat} {pt rt tk:Tok} {tf:FP}
  (hr2:2<=r) (hr:r<=16) (ok:g.ok iw) (hl:(g.txt (a06 tab) iw r).length<100000) (hw:g.wt (a06 tab)<100000) (hf:aw5 lim ((g.txt (a06 tab) iw r).length:Int)) (TP:ad0 w d tab tb nf tf) (R:Rep tb d v g)
  (T:Sit w.params b (fr.or d) (ag3 x dx pl wl iw pt r rt lim tab 0 tk [] [] tf) h):
  a07 w A z (.ref 1189) [.ref x,v] h t (λq h'=>X2 λd' fp'=>a48 w.params b fr d d' fp' h'/\X2 λtb' tk'=>A3 (Ext tb tb') (ad0 w d' tab tb' nf fp') (q= .str (g.txt (a06 tab) iw r) tk')):=by
 refine en (binds:=[("self",.ref x),("datum",v)]) G.bA7 X T room ?_
 kd_in
 refine a02 1 S rfl (szE (by decide)) ?_;clear S;intro h S;dsimp+zetaDelta only[List.set,List.nil_append] at S
 obtain⟨d1,G1,I1,S⟩:=a11 S
 rename_i S0;clear S0
 kd_subs
 refine a56 (λm h U=>X9 λ(d':Bas) (tb':TB) (tf':FP) (ps vs:List Value) (ys:List Str) (is:List a19) (tk':Tok) (qs:List (Str × Value))=>A10
   (m=a18 (a06 tab) is) (aa2 fr d d') (Ext tb tb') (ad0 w d' tab tb' nf tf') (items tb' d' vs is) ((∀i∈is,i.ok iw)) (StrsAre ps ys) (a94 ys++a25 (a06 tab) iw r is=g.txt (a06 tab) iw r) (ps.length+a18 (a06 tab) is<100000)
   (St w.params b (fr.or d') cx.L (("datum",v)::("self",.ref x)::qs) (ag3 x dx pl wl iw pt r rt lim tab ((a94 ys).length:Int) tk' vs ps tf') h)) ?_ _ h _
  ⟨d1,tb,tf,[],[_],[],[.datum g],tk,[],rfl,G1,Ext.refl,TP.mono G1.mono,⟨⟨_,_,_,rfl,I1,R.mono Ext.refl G1.mono⟩,trivial⟩,λi hi=>by rw[List.mem_singleton] at hi;subst hi;exact ok,.nil,by simp only[a94,a25,a19.txt,a30],by simp only[a18,a19.wt,List.length_nil];lia,S⟩
 clear S I1 G1
 rintro m h t ⟨d',tb',tf',ps,vs,ys,is,tk',qs,rfl,Gr,hx,TP',hi,hok,hps,hc,hlen,S⟩ Jn nx
 have hL:∀{is':List a19} {i:a19},is=is'++[i]->(a94 ys).length+((i.step (a06 tab) iw r).1.length)<=(g.txt (a06 tab) iw r).length/\(i.txt (a06 tab) iw r).length<=(g.txt (a06 tab) iw r).length:=by
  rintro is' i rfl
  rw[a55] at hc
  have h1:=congrArg Str.length hc
  rw[Str.length_append,Str.length_append] at h1
  have h2:=congrArg Str.length (ag5 (a06 tab) iw r i)
  rw[Str.length_append] at h2
  have h3:(a25 (a06 tab) iw r [i]).length=(i.txt (a06 tab) iw r).length:=by simp only[a25,a30]
  lia
 have hilen:=hi.len
 have hwl:=ap5 (a06 tab) is
 have hpl:=a87 hps
 kd_subs
 refine ad8 (S.isList 1 rfl) (S.isList 0 rfl) (by have:=(room.of 0 (by decide)).2;lia) ?_
 replace S:=S.drop (List.sublist_cons_self _ _)
 rcases List.eq_nil_or_concat is with rfl |⟨is',i,rfl⟩
 ·have hv:vs=[]:=List.eq_nil_of_length_eq_zero (by simpa using hilen)
  subst hv
  kd_subs
  refine ay2 (S.isList 1 rfl) hps ?_ ?_
  ·have h1:=congrArg Str.length hc
   rw[Str.length_append,aC9] at h1
   have e0:(Str.ofString "").length=0:=rfl
   rw[e0]
   lia
  intro tkj t
  rw[an9]
  refine rT.s ⟨d',tf',Gr.back (S.drop (.cons _ (.cons _ (.cons _ (.refl _))))).sit,tb',tkj,hx,TP',?_⟩
  rw[<-hc]
  simp only[a25,a26]
 ·rw [List.concat_eq_append] at*
  obtain⟨us,u,rfl,hi1,hi2⟩:=items.snoc hi
  have hne:(us++[u]).isEmpty=false:=by induction us using List.casesOn<;>rfl
  rw[hne]
  have k1:a18 (a06 tab) (is'++(i.step (a06 tab) iw r).2)<a18 (a06 tab) (is'++[i]):=by
   rw[a54,a54]
   have:=aK5 (a06 tab) iw r i
   simp only[a18]
   lia
  have k2:a94 (ys++[(i.step (a06 tab) iw r).1])++a25 (a06 tab) iw r (is'++(i.step (a06 tab) iw r).2)=g.txt (a06 tab) iw r:=by
   rw[<-hc,ao5,a55,a55]
   simp only[a94,a25,a26,a30]
   rw[ag5 (a06 tab) iw r i]
   simp only[a24]
  have k3:∀j∈is'++(i.step (a06 tab) iw r).2,j.ok iw:=λj hj=>(List.mem_append.mp hj).elim (λq=>hok j (List.mem_append_left _ q)) (aO0 (a06 tab) iw r i (hok i (List.mem_append_right _ (.head _))) j)
  have k4:((a94 (ys++[(i.step (a06 tab) iw r).1])).length:Int)=((a94 ys).length:Int)+((i.step (a06 tab) iw r).1.length:Int):=by
   rw[ao5,Str.length_append]
   simp only[a94,a26]
   exact rfl
  have hfit:aw5 lim (((a94 ys).length:Int)+((i.step (a06 tab) iw r).1.length:Int)):=hf.less (by have:=(hL rfl).1;exact Int.ofNat_le.mpr (by keq_rows))
  have htl:=(hL rfl).2
  have hul:us.length<100000:=by
   have h1:(us++[u]).length=us.length+1:=by simp
   lia
  kd_subs
  refine aF3 0 S rfl (szE (ltT (by keq_rows))) ?_;kcj_m
  induction i using a19.casesOn with
  |piece p=>
   obtain⟨a2,tk1,tk2,rfl,I2⟩:=hi2
   refine ad6 0 X G S hh (I2.isTup (a12.keeps S.keep)) (by kernel_rfl) ?_;clear S;kbo_bools
   kd_subs
   refine a05 [false,true,true] S (λg' hs T=>aa6 X G (room.deeper (by decide)) (show p.length<1000000 from Nat.lt_of_le_of_lt htl (by exact ltT (by keq_rows))) (by lia) hfit T) ?_
   clear S;rintro q h t fp' S ⟨tkn,rfl,rfl⟩
   kcf_m
   replace S:=S.perm al4
   kd_subs
   dsimp+zetaDelta only at S
   rw[show ((a94 ys).length:Int)+(p.length:Int)=((a94 (ys++[p])).length:Int) from k4.symm] at S
   exact nx k1 ⟨d',tb',tf',_,us,ys++[p],is',tkn,_,by simp [ipP,ipV,ipQ,ipR,ipN,ipT],Gr,hx,TP',hi1,λj hj=>k3 j (List.mem_append_left _ hj),a13 hps (.cons _ _ .nil),by simpa [ipP,ipV,ipQ,ipR,ipN,ipT] using k2,by simp [ipP,ipV,ipQ,ipR,ipN,ipT] at k1;rw[List.length_append];simp;lia,(S.front (x:="self") rfl).front (x:="datum") rfl⟩
  |datum gd=>
   obtain⟨a2,tk1,v2,rfl,I2,R2⟩:=hi2
   refine ad6 0 X G S hh (I2.isTup (a12.keeps S.keep)) (by kernel_rfl) ?_;keq_hits
   have sub:∀{A':Around} {fr':Bas} {h:Heap} {t:Nat},a04 A' 7->A'.handled=none->Sub (fr.or d') fr'->Sit w.params b (fr'.or d') (ag3 x dx pl wl iw pt r rt lim tab ((a94 ys).length:Int) tk' us ps tf') h->
     a07 w A' z (.ref 1203) [.ref x,v2] h t (λq h'=>q= .none/\a52 w b fr' d' tb' nf x dx pl wl iw pt r rt lim tab ((a94 ys).length:Int) us ps (a19.step (a06 tab) iw r (.datum gd)).1 (a19.step (a06 tab) iw r (.datum gd)).2 h'):=
    λroom' hh' hs T'=>aQ2 X G room' hh' (hb.trans (Sub.trans a29 hs)) hnf hr2 hr (hok (.datum gd) (List.mem_append_right _ (.head _))) (Nat.lt_of_le_of_lt htl (by exact ltT (by keq_rows))) (by lia) (by exact ltT (by keq_rows)) hfit TP' R2 T'
   kd_subs
   have fin:∀{h:Heap} {fp2:FP} {d2:Bas} {qs:List (Str × Value)},aa2 fr d' d2->b51 w tb' nf x dx pl wl iw pt r rt lim tab ((a94 ys).length:Int) us ps (a19.step (a06 tab) iw r (.datum gd)).1 (a19.step (a06 tab) iw r (.datum gd)).2 d2 fp2->
     St w.params b (fr.or d2) cx.L (("datum",v)::("self",.ref x)::qs) fp2 h->X9 λ(d':Bas) (tb':TB) (tf':FP) (ps vs:List Value) (ys:List Str) (is:List a19) (tk':Tok) (qs:List (Str × Value))=>A10
      (a18 (a06 tab) (is'++(a19.step (a06 tab) iw r (.datum gd)).2)=a18 (a06 tab) is) (aa2 fr d d') (Ext tb tb') (ad0 w d' tab tb' nf tf') (items tb' d' vs is) ((∀i∈is,i.ok iw)) (StrsAre ps ys) (a94 ys++a25 (a06 tab) iw r is=g.txt (a06 tab) iw r) (ps.length+a18 (a06 tab) is<100000)
          (St w.params b (fr.or d') cx.L (("datum",v)::("self",.ref x)::qs) (ag3 x dx pl wl iw pt r rt lim tab ((a94 ys).length:Int) tk' vs ps tf') h):=by
    rintro h fp2 d2 qs G2 ⟨tb2,tf2,tk2,us2,u2,e1,e2,e3,rfl⟩ S
    rw[<-k4] at S
    exact⟨d2,tb2,tf2,_,_,_,_,tk2,_,rfl,Gr.trans G2,hx.trans e1,e2,(hi1.mono e1 G2.mono).app e3,k3,a13 hps (.cons _ u2 .nil),k2,by rw[List.length_append];simp;lia,S⟩
   refine a45 S hb (λfr' hs T=>ag6 (sub (room.deeper (by decide)) hh hs T)) ?_
   clear S
   rintro q h t d2 fp' G2 S ⟨rfl,P2⟩
   kd_subs
   exact nx k1 (fin G2 P2 ((S.front (x:="self") rfl).front (x:="datum") rfl))
  |tail gs=>
   obtain⟨a2,tk1,v2,rfl,I2,R2⟩:=hi2
   refine ad6 0 X G S hh (I2.isTup (a12.keeps S.keep)) (by kernel_rfl) ?_;keq_hits
   have sub:∀{A':Around} {fr':Bas} {h:Heap} {t:Nat},a04 A' 7->A'.handled=none->Sub (fr.or d') fr'->Sit w.params b (fr'.or d') (ag3 x dx pl wl iw pt r rt lim tab ((a94 ys).length:Int) tk' us ps tf') h->
     a07 w A' z (.ref 1217) [.ref x,v2] h t (λq h'=>q= .none/\a52 w b fr' d' tb' nf x dx pl wl iw pt r rt lim tab ((a94 ys).length:Int) us ps (a19.step (a06 tab) iw r (.tail gs)).1 (a19.step (a06 tab) iw r (.tail gs)).2 h'):=
    λroom' hh' hs T'=>aX7 X G (room'.less (by decide)) (by lia) (by exact ltT (by keq_rows)) hfit TP' R2 T'
   kd_subs
   have fin:∀{h:Heap} {fp2:FP} {d2:Bas} {qs:List (Str × Value)},aa2 fr d' d2->b51 w tb' nf x dx pl wl iw pt r rt lim tab ((a94 ys).length:Int) us ps (a19.step (a06 tab) iw r (.tail gs)).1 (a19.step (a06 tab) iw r (.tail gs)).2 d2 fp2->
     St w.params b (fr.or d2) cx.L (("datum",v)::("self",.ref x)::qs) fp2 h->X9 λ(d':Bas) (tb':TB) (tf':FP) (ps vs:List Value) (ys:List Str) (is:List a19) (tk':Tok) (qs:List (Str × Value))=>A10
      (a18 (a06 tab) (is'++(a19.step (a06 tab) iw r (.tail gs)).2)=a18 (a06 tab) is) (aa2 fr d d') (Ext tb tb') (ad0 w d' tab tb' nf tf') (items tb' d' vs is) ((∀i∈is,i.ok iw)) (StrsAre ps ys) (a94 ys++a25 (a06 tab) iw r is=g.txt (a06 tab) iw r) (ps.length+a18 (a06 tab) is<100000)
          (St w.params b (fr.or d') cx.L (("datum",v)::("self",.ref x)::qs) (ag3 x dx pl wl iw pt r rt lim tab ((a94 ys).length:Int) tk' vs ps tf') h):=by
    rintro h fp2 d2 qs G2 ⟨tb2,tf2,tk2,us2,u2,e1,e2,e3,rfl⟩ S
    rw[<-k4] at S
    exact⟨d2,tb2,tf2,_,_,_,_,tk2,_,rfl,Gr.trans G2,hx.trans e1,e2,(hi1.mono e1 G2.mono).app e3,k3,a13 hps (.cons _ u2 .nil),k2,by rw[List.length_append];simp;lia,S⟩
   refine a45 S hb (λfr' hs T=>ag6 (sub (room.deeper (by decide)) hh hs T)) ?_
   clear S
   rintro q h t d2 fp' G2 S ⟨rfl,P2⟩
   kd_subs
   exact nx k1 (fin G2 P2 ((S.front (x:="self") rfl).front (x:="datum") rfl))
end
section
theorem a86 {cx:Cx} (X:a01 w K b) (G:KOk K) (room:a04 cx.A 9) (hh:cx.A.handled=none) (hb:Sub (Bas.of b) fr) {tb:TB} {nf:Nat} (hnf:nf<900) {lim tab v:Value} {g:Dt} {r:Nat} {pt rt:Tok} {tf:FP}
  (hr2:2<=r) (hr:r<=16) (ok:g.ok true) (hl:(g.txt (a06 tab) true r).length<100000) (hw:g.wt (a06 tab)<100000) (hf:aw5 lim ((g.txt (a06 tab) true r).length:Int)) (TP:ad0 w d tab tb nf tf) (R:Rep tb d v g)
  (rts:∀{q:Value} {h:Heap} {t:Nat},(X2 λd' fp'=>a48 w.params b fr d d' fp' h/\X2 λtb' tk'=>A3 (Ext tb tb') (ad0 w d' tab tb' nf fp') (q= .str (g.txt (a06 tab) true r) tk'))->cx.R (.ret q) (sh z h t)) (S:St w.params b (fr.or d) cx.L [("table",tab),("limit",lim),("radix",.int (r:Int) rt),("precision",.int 53 pt),("datum",v)] tf h):
  Dn w z K a69 cx (.xs a69.body) [] (sh z h t):=by
 kd_subs
 refine al5 X G (room.less (by decide)) S ?_;clear S;intro x dx pl wl tk h t S
 kd_subs
 have fin:∀{h:Heap} {t:Nat} {d2:Bas} {fp2:FP} {q:Value},aa2 fr d d2->(X2 λtb' tk'=>A3 (Ext tb tb') (ad0 w d2 tab tb' nf fp2) (q= .str (g.txt (a06 tab) true r) tk'))->
   St w.params b (fr.or d2) cx.L [("table",tab),("limit",lim),("radix",.int (r:Int) rt),("precision",.int 53 pt),("datum",v)] fp2 h->cx.R (.ret q) (sh z h t):=
  λG2 P S=>rts ⟨_,_,G2.back S.sit,P⟩
 have sub:∀{A':Around} {fr':Bas} {h:Heap} {t:Nat},a04 A' 8->A'.handled=none->Sub (fr.or d) fr'->Sit w.params b (fr'.or d) (ag3 x dx pl wl true pt r rt lim tab 0 tk [] [] tf) h->
   a07 w A' z (.ref 1189) [.ref x,v] h t (λq h'=>X2 λd' fp'=>a48 w.params b fr' d d' fp' h'/\X2 λtb' tk'=>A3 (Ext tb tb') (ad0 w d' tab tb' nf fp') (q= .str (g.txt (a06 tab) true r) tk')):=
  λroom' hh' hs T'=>bd7 X G room' hh' (hb.trans (Sub.trans a29 hs)) hnf hr2 hr ok hl hw hf TP R T'
 refine a45 S hb (λfr' hs T=>sub (room.less (by decide)) hh hs T) ?_
 clear S
 rintro q h t d2 fp' G2 S P2
 exact fin G2 P2 S
theorem at4 (X:a01 w K b) (G:KOk K) (room:a04 A 10) (hh:A.handled=none) (hb:Sub (Bas.of b) fr) {tb:TB} {nf:Nat} (hnf:nf<900) {lim tab v:Value} {g:Dt} {r:Nat} {pt rt:Tok} {tf:FP}
  (hr2:2<=r) (hr:r<=16) (ok:g.ok true) (hl:(g.txt (a06 tab) true r).length<100000) (hw:g.wt (a06 tab)<100000) (hf:aw5 lim ((g.txt (a06 tab) true r).length:Int)) (TP:ad0 w d tab tb nf tf) (R:Rep tb d v g)
  (T:Sit w.params b (fr.or d) tf h):
  a07 w A z (.ref 1239) [v,.int 53 pt,.int (r:Int) rt,lim,tab] h t (λq h'=>X2 λd' fp'=>a48 w.params b fr d d' fp' h'/\X2 λtb' tk'=>A3 (Ext tb tb') (ad0 w d' tab tb' nf fp') (q= .str (g.txt (a06 tab) true r) tk')):=by
 refine en (binds:=[("datum",v),("precision",.int 53 pt),("radix",.int (r:Int) rt),("limit",lim),("table",tab)]) G.bz2 X T room ?_ (hbind:=ag1 X T G.t_1232 (by kernel_rfl) rfl (by kernel_rfl))
 kd_all
 exact a86 X G (room.deeper (by decide)) hh hb hnf hr2 hr ok hl hw hf TP R rT.s S
theorem aJ9 (X:a01 w K b) (G:KOk K) (room:a04 A 10) (hh:A.handled=none) (hb:Sub (Bas.of b) fr) {tb:TB} {nf:Nat} (hnf:nf<900) {v:Value} {g:Dt} {r:Nat} {pt rt:Tok} {tf:FP}
  (hr2:2<=r) (hr:r<=16) (ok:g.ok true) (hl:(g.txt false true r).length<100000) (hw:g.wt false<100000) (TP:ad0 w d .none tb nf tf) (R:Rep tb d v g)
  (T:Sit w.params b (fr.or d) tf h):
  a07 w A z (.ref 1239) [v,.int 53 pt,.int (r:Int) rt] h t (λq h'=>X2 λd' fp'=>a48 w.params b fr d d' fp' h'/\X2 λtb' tk'=>A3 (Ext tb tb') (ad0 w d' .none tb' nf fp') (q= .str (g.txt false true r) tk')):=by
 refine en (binds:=[("datum",v),("precision",.int 53 pt),("radix",.int (r:Int) rt),("limit",.none),("table",.none)]) G.bz2 X T room ?_ (hbind:=ag1 X T G.t_1232 (by kernel_rfl) rfl (by kernel_rfl))
 kd_all
 exact a86 (tab:=.none) X G (room.deeper (by decide)) hh hb hnf hr2 hr ok hl hw (.inl rfl) TP R rT.s S
theorem at5 (X:a01 w K b) (G:KOk K) (room:a04 A 10) (hh:A.handled=none) (hb:Sub (Bas.of b) fr) {tb:TB} {nf:Nat} (hnf:nf<900) {v:Value} {g:Dt} {tf:FP}
  (ok:g.ok true) (hl:(g.txt false true 10).length<100000) (hw:g.wt false<100000) (TP:ad0 w d .none tb nf tf) (R:Rep tb d v g)
  (T:Sit w.params b (fr.or d) tf h):
  a07 w A z (.ref 1239) [v] h t (λq h'=>X2 λd' fp'=>a48 w.params b fr d d' fp' h'/\X2 λtb' tk'=>A3 (Ext tb tb') (ad0 w d' .none tb' nf fp') (q= .str (g.txt false true 10) tk')):=by
 refine en (binds:=[("datum",v),("precision",.int 53 1968),("radix",.int 10 1969),("limit",.none),("table",.none)]) G.bz2 X T room ?_ (hbind:=ag1 X T G.t_1232 (by kernel_rfl) rfl (by kernel_rfl))
 kd_all
 exact a86 (r:=10) (tab:=.none) X G (room.deeper (by decide)) hh hb hnf (by decide) (by decide) ok hl hw (.inl rfl) TP R rT.s S
end
section
noncomputable def Dt.good:Dt->Bool
 | .sym s=>aa9 s
 | .raw U=>false
 | .eof=>false | .unspec=>false | .box=>false | .promise=>false | .port _=>false | .prim=>false
 | .vec a c=>a.good&&c.good
 | .q1 U a=>a.good
 | .q2 U a c=>a.good&&c.good
 | _=>true
inductive RI where
 |datum (g:Dt)|tail (gs:List Dt)
noncomputable def RI.good:RI->Bool
 | .datum g=>g.good
 | .tail gs=>gs.all (·.good)
noncomputable def RI.wt:RI->Nat
 | .datum g=>g.wt false
 | .tail gs=>an0 false gs
noncomputable def RI.rep (tb:TB) (d:Bas):Value->RI->Prop
 |v,.datum g=>Rep tb d v g
 |v,.tail gs=>am9 tb d v gs
noncomputable def RI.ok:RI->Prop
 | .datum g=>g.ok true
 | .tail gs=>∀g∈gs,g.ok true
noncomputable def ris (tb:TB) (d:Bas):List Value->List RI->Prop
 |[],[]=>True
 |v::vs,i::is=>i.rep tb d v/\ris tb d vs is
 |U,V=>False
theorem ris.app {tb:TB} {d:Bas}:∀{vs us:List Value} {is js:List RI},ris tb d vs is->ris tb d us js->ris tb d (vs++us) (is++js)
 |[],U,[],V,U1,h=>h
 |U::V,U1,V1::U2,V2,⟨h1,h2⟩,h=>⟨h1,h2.app h⟩
 |[],U,V::U1,V1,h,U2=>h.elim
 |U::V,U1,[],V1,h,U2=>h.elim
theorem ris.snoc {tb:TB} {d:Bas}:∀{vs:List Value} {is:List RI} {i:RI},ris tb d vs (is++[i])->X2 λus v=>A3 (vs=us++[v]) (ris tb d us is) (i.rep tb d v)
 |[v],[],U,⟨h1,V⟩=>⟨[],v,rfl,trivial,h1⟩
 |U::V::U1,[],V1,⟨U2,h⟩=>h.elim
 |[],[],U,h=>h.elim
 |[],U::V,U1,h=>h.elim
 |v::vs,j::is,i,⟨h1,h2⟩=>by
  obtain⟨us,u,rfl,h3,h4⟩:=ris.snoc (vs:=vs) (is:=is) h2
  exact⟨v::us,u,rfl,⟨h1,h3⟩,h4⟩
theorem ris.len {tb:TB} {d:Bas}:∀{vs:List Value} {is:List RI},ris tb d vs is->vs.length=is.length
 |[],[],U=>rfl
 |U::V,U1::V1,⟨U2,h⟩=>by simp [h.len]
 |[],U::V,h=>h.elim
 |U::V,[],h=>h.elim
noncomputable def ao9:List RI->Nat
 |[]=>0
 |i::is=>i.wt+ao9 is
theorem an4:∀is js:List RI,ao9 (is++js)=ao9 is+ao9 js
 |[],js=>by simp [ao9]
 |i::is,js=>by simp only[List.cons_append,ao9,an4 is js];lia
theorem RI.wt_pos (i:RI):1<=i.wt:=by
 induction i using RI.casesOn with
 |datum g=>exact g.wt_pos false
 |tail gs=>induction gs using List.casesOn<;>simp only[RI.wt,an0]<;>lia
theorem aO4:∀is:List RI,is.length<=ao9 is
 |[]=>Nat.le_refl 0
 |i::is=>by
  have:=aO4 is
  have:=i.wt_pos
  simp only[ao9,List.length_cons];lia
theorem av0 (m:Mk):aa9 m.name=true:=by induction m using Mk.casesOn<;>decide+kernel
theorem b85:names.all (λs=>ah4 s&&Nat.ble s.length 100)=true:=by decide+kernel
theorem bl5 {tb:TB} {bd:Addr} {rows:List Value} {nf:Nat} (Tb:a17 d tb bd rows nf) {s:Str} {a:Addr} (e:tb.lookup s=some a):ah4 s=true/\s.length<=100:=by
 have hk:=Tb.keys _ (a16 e)
 have:=List.all_eq_true.mp b85 s hk
 rw[Bool.and_eq_true] at this
 exact⟨this.1,Nat.le_of_ble_eq_true this.2⟩
theorem b74 {tb:TB} {bd:Addr} {rows:List Value} {nf:Nat} (Tb:a17 d tb bd rows nf) {s:Str} (e:s∉names):tb.lookup s=none:=by
 rw[List.lookup_eq_none_iff]
 intro p hp
 have:=Tb.keys p hp
 cases q:(s==p.1) with
 |true=>exact absurd this (eq_of_beq q▸e)
 |false=>simp [bne,q]
inductive aQ8 (tb:TB) (d:Bas) (v:Value) (i:RI):Prop
 |pair (p:Addr) (c rest:Value) (gs:List Dt) (g1:Dt):v= .ref p->a00 d p 152 [("car",c),("cdr",rest)]->Rep tb d c g1->am9 tb d rest gs->g1.ok true->(∀g∈gs,g.ok true)->i.good=(gs.all (·.good)&&g1.good)->an0 false gs+g1.wt false<i.wt->aQ8 tb d v i
 |vec (a lv:Addr) (v1 v2:Value) (g1 g2:Dt):v= .ref a->a00 d a 215 [("things",.ref lv)]->ab2 d lv [v1,v2]->Rep tb d v1 g1->Rep tb d v2 g2->g1.ok true->g2.ok true->i.good=(g1.good&&g2.good)->g1.wt false+g2.wt false<i.wt->aQ8 tb d v i
 |sym (a:Addr) (n:Int) (u w:Tok) (s:Str) (bi:Bool):v= .ref a->a00 d a 68 (a21 (.int n u) (.str s w))->(tb.lookup s==some a)=bi->(bi=true->ah4 s=true/\s.length<=100)->i.good=(bi&&aa9 s)->aQ8 tb d v i
 |nil:v= .ref 44->i.good=true->aQ8 tb d v i
 |int (n:Int) (u:Tok):v= .int n u->i.good=true->aQ8 tb d v i
 |text (a:Addr) (c:Value):v= .ref a->a00 d a 194 [("codes",c)]->i.good=true->aQ8 tb d v i
 |char (a:Addr) (c:Value):v= .ref a->a00 d a 173 [("code",c)]->i.good=true->aQ8 tb d v i
 |eof:v= .ref 50->i.good=false->aQ8 tb d v i
 |unspec:v= .ref 47->i.good=false->aQ8 tb d v i
 |box (a:Addr) (c:Value):v= .ref a->a00 d a 236 [("content",c)]->i.good=false->aQ8 tb d v i
 |promise (a:Addr) (c e:Value):v= .ref a->a00 d a 257 [("is_done",c),("content",e)]->i.good=false->aQ8 tb d v i
 |port (a:Addr) (n:Nat) (u:Tok):v= .ref a->a00 d a 278 [("number",.int (n:Int) u)]->n<1000->i.good=false->aQ8 tb d v i
 |prim (a:Addr) (u:Tok) (e:Value):v= .ref a->a00 d a 320 [("title",.str (Str.ofString "car") u),("op",e)]->i.good=false->aQ8 tb d v i
theorem bn7 (m:Mk):Dt.ok true (.sym m.name):=by
 show m.name.length<=100
 induction m using Mk.casesOn<;>decide+kernel
theorem RI.kind {tb:TB} {bd:Addr} {rows:List Value} {nf:Nat} (Tb:a17 d tb bd rows nf) {i:RI} {v:Value} (R:i.rep tb d v) (ok:i.ok):aQ8 tb d v i:=by
 induction i using RI.casesOn with
 |tail gs=>
  induction gs using List.casesOn with
  |nil=>exact .nil R rfl
  |cons g gs=>
   obtain⟨p,c,rest,h1,h2,h3,h4⟩:=R
   exact .pair p c rest gs g h1 h2 h3 h4 (ok g (.head _)) (λx hx=>ok x (.tail _ hx)) (by simp only[RI.good,List.all_cons,Bool.and_comm]) (by simp only[RI.wt,an0];lia)
 |datum g=>
  induction g using Dt.casesOn with
  |int n=>obtain⟨u,h⟩:=R;exact .int n u h rfl
  |sym s=>
   obtain⟨a,n,u,w1,h1,h2,h3⟩:=R
   exact .sym a n u w1 s true h1 h3 (by rw[h2];exact beq_self_eq_true _) (λU=>bl5 Tb h2) rfl
  |raw s=>
   obtain⟨a,n,u,w1,h1,h2,h3⟩:=R
   exact .sym a n u w1 s false h1 h3 (by rw[b74 Tb h2];rfl) (λq=>by cases q) rfl
  |text cs=>obtain⟨a,lc,vs,h1,h2,_⟩:=R;exact .text a _ h1 h2 rfl
  |char c=>obtain⟨a,u,h1,h2⟩:=R;exact .char a _ h1 h2 rfl
  |eof=>exact .eof R rfl
  |unspec=>exact .unspec R rfl
  |nil=>exact .nil R rfl
  |box=>obtain⟨a,u,h1,h2⟩:=R;exact .box a _ h1 h2 rfl
  |promise=>obtain⟨a,u,h1,h2⟩:=R;exact .promise a _ _ h1 h2 rfl
  |port n=>
   obtain⟨a,u,h1,h2⟩:=R
   obtain⟨m,rfl⟩:∃m:Nat,n=(m:Int):=⟨n.toNat,by have:=ok.1;lia⟩
   exact .port a m u h1 h2 (by have:=ok.2;lia) rfl
  |prim=>obtain⟨a,u,u2,h1,h2⟩:=R;exact .prim a u _ h1 h2 rfl
  |vec g1 g2=>
   obtain⟨a,lv,v1,v2,h1,h2,h3,h4,h5⟩:=R
   exact .vec a lv v1 v2 g1 g2 h1 h2 h3 h4 h5 ok.1 ok.2 rfl (by simp only[RI.wt,wtV,wtQ,wtR,wtS];lia)
  |q1 m g1=>
   obtain⟨ad,vx,⟨p,rest,h1,I1,p2,rest2,h2,I2,h3⟩,ha,Rx⟩:=R
   have:rest2= .ref 44:=h3
   subst this
   exact .pair p _ rest [g1] (.sym m.name) h1 I1 (Tb.rep ha) ⟨p2,vx,.ref 44,h2,I2,Rx,rfl⟩ (bn7 m) (λx hx=>by rw[List.mem_singleton] at hx;subst hx;exact ok) (by simp only[RI.good,show (Dt.q1 m g1).good=g1.good from rfl,show (Dt.sym m.name).good=aa9 m.name from rfl,av0,List.all_cons,List.all_nil,Bool.and_true]) (by simp only[RI.wt,wtV,wtQ,wtR,wtS,an0,Bool.false_eq_true,ite_false];lia)
  |q2 m g1 g2=>
   obtain⟨ad,vx,vy,⟨p,rest,h1,I1,p2,rest2,h2,I2,p3,rest3,h3,I3,h4⟩,ha,Rx,Ry⟩:=R
   have:rest3= .ref 44:=h4
   subst this
   exact .pair p _ rest [g1,g2] (.sym m.name) h1 I1 (Tb.rep ha) ⟨p2,vx,rest2,h2,I2,Rx,p3,vy,.ref 44,h3,I3,Ry,rfl⟩ (bn7 m) (λx hx=>by
    simp only[List.mem_cons,List.not_mem_nil,or_false] at hx
    rcases hx with rfl |rfl
    ·exact ok.1
    ·exact ok.2) (by simp only[RI.good,show (Dt.q2 m g1 g2).good=(g1.good&&g2.good) from rfl,show (Dt.sym m.name).good=aa9 m.name from rfl,av0,List.all_cons,List.all_nil,Bool.and_true]) (by simp only[RI.wt,wtV,wtQ,wtR,wtS,an0];lia)
theorem ap6 (X:a01 w K b) (G:KOk K) (room:a04 A 3) {g:Bas} {tb:TB} {tA dT rl bd a:Addr} {rows:List Value} {x:Str} {n:Int} {u v:Tok} {nf:Nat} (Tb:a17 g tb bd rows nf)
  (I:a00 g a 68 (a21 (.int n u) (.str x v))) (T:Sit w.params b g (Tab w tb tA dT rl bd rows) h):
  a07 w A z (.ref 121) [.ref tA,.ref a] h t (λr h'=>∃fp',Sit w.params b g fp' h'/\fp'=Tab w tb tA dT rl bd rows/\r= .bool (tb.lookup x==some a)):=by
 refine codeAny_mono (as3 (fr:=g) (d:=g) X G room Tb I (T.anti (Sub.or (λU V e=>e) (λU V e=>e)) (T.base.trans a29))) ?_
 rintro q s' ⟨v,h',t',rfl,rfl,fp',T',hq⟩
 exact⟨_,_,_,rfl,rfl,fp',T'.anti a29 T.base,hq⟩
set_option maxHeartbeats 2000000 in
theorem as2 (X:a01 w K b) (G:KOk K) (room:a04 A 6) (hh:A.handled=none) (hb:Sub (Bas.of b) fr) {tb:TB} {tA dT rl bd:Addr} {rows:List Value} {nf:Nat} (Tb:a17 d tb bd rows nf) {v:Value} {g:Dt}
  (ok:g.ok true) (hw:g.wt false<100000) (R:Rep tb d v g) (T:Sit w.params b (fr.or d) (Tab w tb tA dT rl bd rows) h):
  a07 w A z (.ref 1254) [v,.ref tA] h t (λq h'=>∃fp',Sit w.params b (fr.or d) fp' h'/\fp'=Tab w tb tA dT rl bd rows/\q= .bool g.good):=by
 refine en (binds:=[("datum",v),("table",.ref tA)]) G.bx2 X T room ?_
 kd_in
 refine a56 (λm h U=>X3 λ(vs:List Value) (is:List RI) (qs:List (Str × Value))=>A6
   (m=ao9 is) (ris tb d vs is) ((∀i∈is,i.ok)) (is.all (·.good)=g.good) (ao9 is<100000)
   (St w.params b (fr.or d) cx.L (("waiting",.ref a)::("table",.ref tA)::("datum",v)::qs) ((a,.list vs)::Tab w tb tA dT rl bd rows) h)) ?_ _ h _
  ⟨[v],[.datum g],[],rfl,⟨R,trivial⟩,λi hi=>by rw[List.mem_singleton] at hi;subst hi;exact ok,by simp [RI.good],by simp only[ao9,RI.wt];exact Nat.succ_le_of_lt (by keq_rows),S⟩
 clear S
 rintro m h t ⟨vs,is,qs,rfl,hi,hok,hg,hlen,S⟩ Jn nx
 have hilen:=hi.len
 have hwl:=aO4 is
 dsimp only[List.nil_append,List.cons_append,Tab] at S
 kd_subs
 refine ad8 (S.isList 1 rfl) (S.isList 0 rfl) (by have:=(room.of 0 (by decide)).2;lia) ?_
 replace S:=S.drop (List.sublist_cons_self _ _)
 rcases List.eq_nil_or_concat is with rfl |⟨is',i,rfl⟩
 ·have hv:vs=[]:=List.eq_nil_of_length_eq_zero (by simpa using hilen)
  subst hv
  kd_subs
  exact rT.s ⟨_,(S.drop (List.sublist_cons_self _ _)).sit,rfl,by rw[<-hg];rfl⟩
 ·rw [List.concat_eq_append] at*
  obtain⟨us,u,rfl,hi1,hi2⟩:=ris.snoc hi
  have hne:(us++[u]).isEmpty=false:=by induction us using List.casesOn<;>rfl
  rw[hne]
  rw[List.all_append] at hg
  have hok':∀j∈is',j.ok:=λj hj=>hok j (List.mem_append_left _ hj)
  have hoki:=hok i (List.mem_append_right _ (.head _))
  have hul:us.length<100000:=by
   have h1:(us++[u]).length=us.length+1:=by simp
   lia
  rw[an4] at hlen
  have e1:ao9 [i]=i.wt:=by simp [ao9]
  rw[e1] at hlen
  have hm:ao9 (is'++[i])=ao9 is'+i.wt:=by rw[an4,e1]
  rw[hm] at nx
  simp only[List.all_cons,List.all_nil,Bool.and_true] at hg
  kd_subs
  refine aF3 0 S rfl (szE (ltT (by keq_rows))) ?_;kcj_m
  have kd:=RI.kind Tb hi2 hoki
  cases kd with
  |pair p c rest gs g1 e1 I Rc Rt ok1 ok2 e9 e8=>
   subst e1
   have J:a00 (fr.or d) p 152 [("car",c),("cdr",rest)]:=I.sub a12
   have hr:=Rt.handed
   have hc:=Rc.handed
   kd_subs
   refine a02 0 S rfl (szE (ltl (by keq_rows))) ?_;kcj_m
   kd_subs
   refine a02 0 S rfl (szE (by rw[List.length_append];simp;exact ltl (by keq_rows))) ?_;kcj_m
   kd_subs
   have e7:ao9 (is'++[.tail gs,.datum g1])=ao9 is'+(an0 false gs+g1.wt false):=by rw[an4];simp [ao9,RI.wt]
   refine nx (m:=ao9 (is'++[.tail gs,.datum g1])) ?_ ⟨_,is'++[.tail gs,.datum g1],_,rfl,?_,?_,?_,?_,((S.front (x:="datum") rfl).front (x:="table") rfl).front (x:="waiting") rfl⟩
   ·lia
   ·rw [List.append_assoc];exact hi1.app (us:=[_,_]) ⟨Rt,Rc,trivial⟩
   ·intro j hj
    rcases List.mem_append.mp hj with hj |hj
    ·exact hok' j hj
    ·simp only[List.mem_cons,List.not_mem_nil,or_false] at hj
     rcases hj with rfl |rfl
     ·exact ok2
     ·exact ok1
   ·rw [<-hg,List.all_append,e9];simp only[List.all_cons,List.all_nil,RI.good,Bool.and_true]
   ·lia
  |vec av lv v1 v2 g1 g2 e1 I Il R1 R2 ok1 ok2 e9 e8=>
   subst e1
   have J:a00 (fr.or d) av 215 [("things",.ref lv)]:=I.sub a12
   kd_subs
   obtain⟨nl,el⟩:=Il
   refine b76 0 S rfl ⟨nl,S.keep _ _ (.inr el)⟩ (by simp;exact ltl (by keq_rows)) ?_;kcj_m
   kd_subs
   have e7:ao9 (is'++[.datum g1,.datum g2])=ao9 is'+(g1.wt false+g2.wt false):=by rw[an4];simp [ao9,RI.wt]
   refine nx (m:=ao9 (is'++[.datum g1,.datum g2])) ?_ ⟨_,is'++[.datum g1,.datum g2],_,rfl,?_,?_,?_,?_,((S.front (x:="datum") rfl).front (x:="table") rfl).front (x:="waiting") rfl⟩
   ·lia
   ·exact hi1.app (us:=[_,_]) ⟨R1,R2,trivial⟩
   ·intro j hj
    rcases List.mem_append.mp hj with hj |hj
    ·exact hok' j hj
    ·simp only[List.mem_cons,List.not_mem_nil,or_false] at hj
     rcases hj with rfl |rfl
     ·exact ok1
     ·exact ok2
   ·rw [<-hg,List.all_append,e9];simp only[List.all_cons,List.all_nil,RI.good,Bool.and_true]
   ·lia
  |sym as n u1 w1 s bi e1 I e2 e3 e9=>
   subst e1
   have J:a00 (fr.or d) as 68 (a21 (.int n u1) (.str s w1)):=I.sub a12
   unfold a21 at J
   kd_subs
   refine a05 [false,true,true,true] S (λg' hs T=>ap6 X G (room.deeper (by decide)) (Tb.sub (Sub.trans a12 hs)) (I.sub (Sub.trans a12 hs)) T) ?_
   clear S;rintro q h t fp' S ⟨rfl,rfl⟩
   kcf_m
   rw[e2]
   induction bi using Bool.casesOn
   ·kd_subs
    exact rT.s ⟨_,(S.drop (List.sublist_append_left (Tab w tb tA dT rl bd rows) [_])).sit,rfl,by rw[<-hg,e9];simp⟩
   ·kd_subs
    refine am4 S (λg' hs T=>a38 X G (room.deeper (by decide)) hh (by have:=(e3 rfl).2;exact leT (by keq_rows)) (e3 rfl).1 T) ?_;clear S;intro h t S
    cases q3:aa9 s
    ·kd_subs
     exact rT.s ⟨_,(S.drop (List.sublist_append_left (Tab w tb tA dT rl bd rows) [_])).sit,rfl,by rw[<-hg,e9,q3];simp⟩
    ·kd_subs
     exact nx (m:=ao9 is') (by have:=i.wt_pos;lia) ⟨us,is',_,rfl,hi1,hok',by rw[<-hg,e9,q3];simp,by lia,(((S.perm (List.perm_append_comm (l₁:=[_]) (l₂:=Tab w tb tA dT rl bd rows))).front (x:="datum") rfl).front (x:="table") rfl).front (x:="waiting") rfl⟩
  |nil e1 e9=>
   subst e1
   have J:=(aM9 G X hb).sub (a29 (g:=fr) (d:=d))
   kd_subs
   refine ap1 (S.binst J) (a14 G X S) ?_
   kd_subs
   exact nx (m:=ao9 is') (by have:=i.wt_pos;lia) ⟨us,is',_,rfl,hi1,hok',by rw[<-hg,e9,Bool.and_true],by lia,((S.front (x:="datum") rfl).front (x:="table") rfl).front (x:="waiting") rfl⟩
  |int n u1 e1 e9=>
   subst e1
   kd_subs
   refine aJ6 ?_
   kd_subs
   refine am4 S (λg' hs T=>ak5 X G (room.deeper (by decide)) T) ?_;clear S
   kd_subs
   exact nx (m:=ao9 is') (by have:=i.wt_pos;lia) ⟨us,is',_,rfl,hi1,hok',by rw[<-hg,e9,Bool.and_true],by lia,((S.front (x:="datum") rfl).front (x:="table") rfl).front (x:="waiting") rfl⟩
  |text ac c1 e1 I e9=>
   subst e1
   have J:a00 (fr.or d) ac 194 [("codes",c1)]:=I.sub a12
   kd_subs
   refine ad9 (S.binst J) (a14 G X S) ?_
   kd_subs
   refine am4 S (λg' hs T=>au5 (v2:=.none) X G (room.deeper (by decide)) (J.sub hs) T) ?_;clear S
   kd_subs
   exact nx (m:=ao9 is') (by have:=i.wt_pos;lia) ⟨us,is',_,rfl,hi1,hok',by rw[<-hg,e9,Bool.and_true],by lia,((S.front (x:="datum") rfl).front (x:="table") rfl).front (x:="waiting") rfl⟩
  |char ac c1 e1 I e9=>
   subst e1
   have J:a00 (fr.or d) ac 173 [("code",c1)]:=I.sub a12
   kd_subs
   refine ad9 (S.binst J) (a14 G X S) ?_
   kd_subs
   refine am4 S (λg' hs T=>au6 (v2:=.none) X G (room.deeper (by decide)) (J.sub hs) T) ?_;clear S
   kd_subs
   exact nx (m:=ao9 is') (by have:=i.wt_pos;lia) ⟨us,is',_,rfl,hi1,hok',by rw[<-hg,e9,Bool.and_true],by lia,((S.front (x:="datum") rfl).front (x:="table") rfl).front (x:="waiting") rfl⟩
  |eof e1 e9=>
   subst e1
   have J:=(bi5 G X hb).sub (a29 (g:=fr) (d:=d))
   unfold a41 at J
   kd_subs
   refine ap1 (S.binst J) (a14 G X S) ?_
   kd_subs
   refine al6 S (λg' hs T=>a43 X G (room.deeper (by decide)) (by decide+kernel) (J.sub hs) T) ?_;clear S;intro tk9
   kd_subs
   exact rT.s ⟨_,(S.drop (List.sublist_cons_self _ _)).sit,rfl,by rw[<-hg,e9,Bool.and_false]⟩
  |unspec e1 e9=>
   subst e1
   have J:=(ae4 G X hb).sub (a29 (g:=fr) (d:=d))
   unfold a41 at J
   kd_subs
   refine ap1 (S.binst J) (a14 G X S) ?_
   kd_subs
   refine al6 S (λg' hs T=>a43 X G (room.deeper (by decide)) (by decide+kernel) (J.sub hs) T) ?_;clear S;intro tk9
   kd_subs
   exact rT.s ⟨_,(S.drop (List.sublist_cons_self _ _)).sit,rfl,by rw[<-hg,e9,Bool.and_false]⟩
  |box ac c1 e1 I e9=>
   subst e1
   have J:a00 (fr.or d) ac 236 [("content",c1)]:=I.sub a12
   kd_subs
   refine ad9 (S.binst J) (a14 G X S) ?_
   kd_subs
   refine al6 S (λg' hs T=>ak6 (v2:=.none) X G (room.deeper (by decide)) (J.sub hs) T) ?_;clear S;intro tk9
   kd_subs
   exact rT.s ⟨_,(S.drop (List.sublist_cons_self _ _)).sit,rfl,by rw[<-hg,e9,Bool.and_false]⟩
  |promise ac c1 c2 e1 I e9=>
   subst e1
   have J:a00 (fr.or d) ac 257 [("is_done",c1),("content",c2)]:=I.sub a12
   kd_subs
   refine ad9 (S.binst J) (a14 G X S) ?_
   kd_subs
   refine al6 S (λg' hs T=>aa7 X G (room.deeper (by decide)) (J.sub hs) T) ?_;clear S;intro tk9
   kd_subs
   exact rT.s ⟨_,(S.drop (List.sublist_cons_self _ _)).sit,rfl,by rw[<-hg,e9,Bool.and_false]⟩
  |port ac n u1 e1 I e7 e9=>
   subst e1
   have J:a00 (fr.or d) ac 278 [("number",.int (n:Int) u1)]:=I.sub a12
   kd_subs
   refine ad9 (S.binst J) (a14 G X S) ?_
   kd_subs
   refine al6 S (λg' hs T=>ah2 X G (room.deeper (by decide)) e7 (J.sub hs) T) ?_;clear S;intro tk9
   kd_subs
   exact rT.s ⟨_,(S.drop (List.sublist_cons_self _ _)).sit,rfl,by rw[<-hg,e9,Bool.and_false]⟩
  |prim ac u1 c2 e1 I e9=>
   subst e1
   have J:a00 (fr.or d) ac 320 [("title",.str (Str.ofString "car") u1),("op",c2)]:=I.sub a12
   kd_subs
   refine ad9 (S.binst J) (a14 G X S) ?_
   kd_subs
   refine al6 S (λg' hs T=>ah1 X G (room.deeper (by decide)) (by decide+kernel) (J.sub hs) T) ?_;clear S;intro tk9
   kd_subs
   exact rT.s ⟨_,(S.drop (List.sublist_cons_self _ _)).sit,rfl,by rw[<-hg,e9,Bool.and_false]⟩
end
section
noncomputable abbrev ak1 (lx dl:Addr) (x:Str) (u0 u1:Tok) (p:Nat) (tk:Tok):FP:=[(lx,.inst 1015 dl (ab1 x u0 (.int 53 u1) (p:Int) tk))]
noncomputable abbrev br8:Str:=Str.ofString " \n\t\r\x0c"
noncomputable abbrev ar6:Str:=Str.ofString " \n\t\r\x0c()\";"
noncomputable abbrev RESs:Str:=Str.ofString "[]{}|"
noncomputable def aY2 (c:Nat):Bool:=!((⟨#[c]⟩:Str)==Str.ofString ";")&& !inS ⟨#[c]⟩ br8
theorem aE8 (X:a01 w K b) (G:KOk K) (room:a04 A 1) (hh:A.handled=none) {lx dl:Addr} {x:Str} {u0 u1 tk:Tok} {p k:Nat} {tl:List Nat} (hx:x.length<100000) (hd:(cod x).drop p=List.replicate k 32++tl) (hp:p<=x.length) (ht:∀c r,tl=c::r->aY2 c=true)
  (T:Sit w.params b g (ak1 lx dl x u0 u1 p tk) h):
  a07 w A z (.ref 949) [.ref lx] h t (λq h'=>∃fp',Sit w.params b g fp' h'/\∃tk',fp'=ak1 lx dl x u0 u1 (p+k) tk'/\q= .none):=by
 refine en (binds:=[("self",.ref lx)]) G.bv5 X T room ?_
 kd_in
 refine a56 (λm h U=>X3 λ(p':Nat) (tk':Tok) (qs:List (Str × Value))=>A4 (p'+m=p+k) ((cod x).drop p'=List.replicate m 32++tl) (p'<=x.length)
   (St w.params b g cx.L (("self",.ref lx)::qs) (ak1 lx dl x u0 u1 p' tk') h)) ?_ k h _
  ⟨p,tk,[],rfl,hd,hp,S⟩
 clear S
 rintro m h t ⟨p',tk',qs,hm,hd',hp',S⟩ Jn nx
 have hl:=a40 x
 kd_subs
 refine a09 (by lia) ?_;intro tkl
 kd_subs
 induction m using Nat.casesAuxOn with
 |zero=>
  induction tl using List.casesOn with
  |nil=>
   have e:p'=x.length:=by
    have:=congrArg List.length hd'
    simp at this
    lia
   subst e
   refine a32 400 false X G S (by simp) ?_;clear S;kbo_bools
   kd_subs
   kd_subs
   exact rT.n ⟨_,S.sit,tk',by rw[show p+k=x.length by lia],rfl⟩
  |cons c r=>
   obtain⟨e1,e2,e3⟩:=a47 hd'
   have hs:=ht c r rfl
   unfold aY2 at hs
   rw[Bool.and_eq_true,Bool.not_eq_true',Bool.not_eq_true'] at hs
   refine a32 400 true X G S (by simp;lia) ?_;clear S;kbo_bools
   kd_subs
   refine a70 (a72 e1) (by lia) (by exact ngE) (by lia) ?_;intro tki
   kd_subs
   refine a32 400 false X G S hs.1 ?_;clear S;kbo_bools
   kd_subs
   refine a32 400 false X G S hs.2 ?_;clear S;kbo_bools
   kd_subs
   exact rT.s ⟨_,S.sit,tk',by rw[show p+k=p' by lia],rfl⟩
 |succ m=>
  have hd2:(cod x).drop p'=32::(List.replicate m 32++tl):=hd'
  obtain⟨e1,e2,e3⟩:=a47 hd2
  refine a32 400 true X G S (by simp;lia) ?_;clear S;kbo_bools
  kd_subs
  refine a70 (a72 e1) (by lia) (by exact ngE) (by lia) ?_;intro tki
  kd_subs
  dsimp+zetaDelta only at S
  rw[show ((p':Int)+1)=((p'+1:Nat):Int) by exact rfl] at S
  exact nx (m:=m) (by exact Nat.lt_succ_self _) ⟨p'+1,tk,_,by lia,e3,by lia,S.front (x:="self") rfl⟩
end
section
theorem a85 (X:a01 w K b) (G:KOk K) (room:a04 A 3) {lx dl:Addr} {x:Str} {u0 u1 tk te:Tok} {p:Nat} {e:Int} {wd vl:Value}
  (T:Sit w.params b (fr.or d) (ak1 lx dl x u0 u1 p tk) h):
  a07 w A z (.ref 970) [.ref lx,wd,vl,.int e te] h t (λq h'=>X2 λd' fp'=>a48 w.params b fr d d' fp' h'/\X2 λa ts=>A3 (q= .ref a) (a00 d' a 874 (a23 wd vl (.int (p:Int) ts) (.int e te))) (fp'=[(lx,.inst 1015 dl (ab1 x u0 (.int 53 u1) e te))])):=by
 refine en (binds:=[("self",.ref lx),("word",wd),("value",vl),("end",.int e te)]) G.bz9 X T room ?_
 kd_in
 refine aG2 X G (room.deeper (by decide)) S ?_;clear S;intro a da h t S
 obtain⟨d1,G1,I1,S⟩:=a33 S
 exact rT.s ⟨d1,_,G1.back S.sit,a,tk,rfl,I1,rfl⟩
noncomputable def aK0 (c:Nat):Bool:=!inS ⟨#[c]⟩ ar6&& !inS ⟨#[c]⟩ RESs
theorem am8 (X:a01 w K b) (G:KOk K) (room:a04 A 1) {lx dl:Addr} {x:Str} {u0 u1 tk tp:Tok} {pl:Nat} {p:Nat} {ws tl:List Nat} (hx:x.length<100000) (hd:(cod x).drop p=ws++tl) (hp:p<=x.length) (hw:∀c∈ws,aK0 c=true) (ht:∀c r,tl=c::r->inS ⟨#[c]⟩ ar6=true)
  (T:Sit w.params b g (ak1 lx dl x u0 u1 pl tk) h):
  a07 w A z (.ref 977) [.ref lx,.int (p:Int) tp] h t (λq h'=>∃fp',Sit w.params b g fp' h'/\fp'=ak1 lx dl x u0 u1 pl tk/\∃tk',q= .int ((p+ws.length:Nat):Int) tk'):=by
 refine en (binds:=[("self",.ref lx),("start",.int (p:Int) tp)]) G.bB2 X T room ?_
 kd_in
 refine a56 (λm h U=>X3 λ(p':Nat) (ws':List Nat) (tk':Tok)=>A6 (m=ws'.length) (p'+m=p+ws.length) ((cod x).drop p'=ws'++tl) (p'<=x.length) ((∀c∈ws',aK0 c=true))
   (St w.params b g cx.L [("at",.int (p':Int) tk'),("start",.int (p:Int) tp),("self",.ref lx)] (ak1 lx dl x u0 u1 pl tk) h)) ?_ _ h _
  ⟨p,ws,tp,rfl,rfl,hd,hp,hw,S⟩
 clear S
 rintro m h t ⟨p',ws',tk',rfl,hm,hd',hp',hw',S⟩ Jn nx
 have hl:=a40 x
 kd_subs
 refine a09 (by lia) ?_;intro tkl
 kd_subs
 induction ws' using List.casesOn with
 |nil=>
  induction tl using List.casesOn with
  |nil=>
   have e:p'=x.length:=by
    have:=congrArg List.length hd'
    simp at this
    lia
   subst e
   refine a32 400 false X G S (by simp) ?_;clear S;kbo_bools
   kd_subs
   kd_subs
   exact rT.s ⟨_,S.sit,rfl,tk',by rw[show p+ws.length=x.length by simpa using hm.symm]⟩
  |cons c r=>
   obtain⟨e1,e2,e3⟩:=a47 hd'
   refine a32 400 true X G S (by simp;lia) ?_;clear S;kbo_bools
   kd_subs
   refine a70 (a72 e1) (by lia) (by exact ngE) (by lia) ?_;intro tki
   kd_subs
   rw[ht c r rfl]
   kd_subs
   exact rT.s ⟨_,S.sit,rfl,tk',by rw[show p+ws.length=p' by simpa using hm.symm]⟩
 |cons c ws'=>
  have hd2:(cod x).drop p'=c::(ws'++tl):=hd'
  obtain⟨e1,e2,e3⟩:=a47 hd2
  have hs:=hw' c (.head _)
  unfold aK0 at hs
  rw[Bool.and_eq_true,Bool.not_eq_true',Bool.not_eq_true'] at hs
  refine a32 400 true X G S (by simp;lia) ?_;clear S;kbo_bools
  kd_subs
  refine a70 (a72 e1) (by lia) (by exact ngE) (by lia) ?_;intro tki
  kd_subs
  rw[hs.1]
  kd_subs
  refine a70 (a72 e1) (by lia) (by exact ngE) (by lia) ?_;intro tkj
  kd_subs
  rw[hs.2]
  kd_subs
  dsimp+zetaDelta only at S
  rw[show ((p':Int)+1)=((p'+1:Nat):Int) by exact rfl] at S
  exact nx (m:=ws'.length) (by simp) ⟨p'+1,ws',tk,rfl,by simp at hm;lia,e3,by lia,λc hc=>hw' c (.tail _ hc),S.locs _⟩
theorem ao0 (X:a01 w K b) (G:KOk K) (room:a04 A 1) {y:Str} {u:Tok} {c:Nat} (hy:y.length<100000) (hc:(cod y)[0]?=some c) (hn:(inS ⟨#[c]⟩ bj7||inS ⟨#[c]⟩ (Str.ofString "+-."))=true) (T:Sit w.params b g fp h):
  a07 w A z (.ref 913) [.str y u] h t (λr h'=>∃fp',Sit w.params b g fp' h'/\fp'=fp/\r= .bool true):=by
 refine en (binds:=[("text",.str y u)]) G.bw9 X T room ?_
 kd_all
 dsimp only[List.reverse,List.reverseAux] at S
 have hlt:0<y.length:=by
  obtain⟨h1,_⟩:=List.getElem?_eq_some_iff.mp hc
  rw[a40] at h1
  exact h1
 kd_subs
 refine a70 (show Txt.item y 0=_ from a72 (i:=0) hc) (by lia) (by exact ngE) (by exact Int.ofNat_lt.mpr (by keq_rows)) ?_;intro tk0
 kd_subs
 cases q:inS ⟨#[c]⟩ bj7
 ·rw [q,Bool.false_or] at hn
  kd_subs
  refine a70 (show Txt.item y 0=_ from a72 (i:=0) hc) (by lia) (by exact ngE) (by exact Int.ofNat_lt.mpr (by keq_rows)) ?_;intro tk1
  kd_subs
  rw[hn]
  exact rT.s ⟨_,S.sit,rfl,rfl⟩
 ·kd_subs
  exact rT.s ⟨_,S.sit,rfl,rfl⟩
end
section
noncomputable abbrev aV6:Str:=Txt.slice aJ1 none (some 10)
noncomputable def ar3 (c:Nat):Nat:=(PySem.Builtin.Str.occurrences aJ1 ⟨#[c]⟩ 0 aJ1.length 1).headD 0
noncomputable def wth:List Nat->Nat->Nat
 |[],a=>a
 |c::r,a=>wth r (a*10+ar3 c)
noncomputable def bp7 (k:Nat):Bool:=let y:=b96 k 10
 (Txt.rstripChars y (Str.ofString "#")==y)&& !(y==Str.ofString "")&&(cod y).all (λc=>inS ⟨#[c]⟩ aV6&& !(PySem.Builtin.Str.occurrences aJ1 ⟨#[c]⟩ 0 aJ1.length 1).isEmpty&& !inS ⟨#[c]⟩ (Str.ofString "esfdl")&&Nat.ble (ar3 c) 9)&& !inS (Str.ofString "/") y&& !inS (Str.ofString ".") y&&Nat.beq (wth (cod y) 0) k&&Nat.ble y.length 2
theorem bh6:(List.range 21).all bp7=true:=by decide+kernel
structure aD4 (k:Nat) (y:Str):Prop where
 strip:Txt.rstripChars y (Str.ofString "#")=y
 ne:(y==Str.ofString "")=false
 sl:∀c∈cod y,inS ⟨#[c]⟩ aV6=true
 occ:∀c∈cod y,∃r,PySem.Builtin.Str.occurrences aJ1 ⟨#[c]⟩ 0 aJ1.length 1=ar3 c::r
 mrk:∀c∈cod y,inS ⟨#[c]⟩ (Str.ofString "esfdl")=false
 nine:∀c∈cod y,ar3 c<=9
 sla:inS (Str.ofString "/") y=false
 dot:inS (Str.ofString ".") y=false
 val:wth (cod y) 0=k
 len:y.length<=2
theorem b30 {k:Nat} (hk:k<=20):aD4 k (b96 k 10):=by
 have:=List.all_eq_true.mp bh6 k (List.mem_range.mpr (by exact lel (by keq_rows)))
 unfold bp7 at this
 simp only[Bool.and_eq_true,Bool.not_eq_true',List.all_eq_true] at this
 obtain⟨⟨⟨⟨⟨⟨h1,h2⟩,h3⟩,h4⟩,h5⟩,h6⟩,h7⟩:=this
 refine⟨eq_of_beq h1,h2,λc hc=>(h3 c hc).1.1.1,λc hc=>?_,λc hc=>(h3 c hc).1.2,λc hc=>Nat.le_of_ble_eq_true (h3 c hc).2,h4,h5,Nat.eq_of_beq_eq_true h6,Nat.le_of_ble_eq_true h7⟩
 have:=(h3 c hc).1.1.2
 unfold ar3
 cases q:PySem.Builtin.Str.occurrences aJ1 ⟨#[c]⟩ 0 aJ1.length 1 with
 |nil=>rw[q] at this;cases this
 |cons i r=>exact⟨r,rfl⟩
theorem aL0 (X:a01 w K b) (G:KOk K) (room:a04 A 1) {y:Str} {u:Tok} (hy:y.length<=1000) (hs:Txt.rstripChars y (Str.ofString "#")=y) (T:Sit w.params b g fp h):
  a07 w A z (.ref 751) [.str y u] h t (λq h'=>∃fp',Sit w.params b g fp' h'/\X3 λa tk tk'=>q= .ref a/\fp'=(a,.tup [.str y tk,.int 0 tk'])::fp):=by
 refine en (binds:=[("word",.str y u)]) G.by3 X T room ?_
 kd_in
 refine b56 (szE (leT (by keq_rows))) ?_;intro tk0 t
 rw[hs]
 kd_subs
 refine a09 (by lia) ?_;intro tk1
 kd_subs
 refine a09 (by lia) ?_;intro tk2
 kd_subs
 dsimp+zetaDelta only at S
 rw[Int.sub_self] at S
 exact rT.s ⟨_,S.sit,_,_,_,rfl,rfl⟩
theorem as4 (X:a01 w K b) (G:KOk K) (room:a04 A 2) (hh:A.handled=none) {y:Str} {u v:Tok} (hy:y.length<=1000) (hs:∀c∈cod y,inS ⟨#[c]⟩ aV6=true) (T:Sit w.params b g fp h):
  a07 w A z (.ref 744) [.str y u,.int 10 v] h t (λq h'=>∃fp',Sit w.params b g fp' h'/\fp'=fp/\q= .bool true):=by
 refine enC (binds:=[("word",.str y u),("radix",.int 10 v)]) G.bC1 X T room (by kernel_rfl) (by kernel_rfl) ?_
 intro cx hH room P₀ rT h t S0
 replace hh:=hH.trans hh
 have S:St w.params b g cx.L [("word",.str y u)] ((cx.L+1,.cell (aG6 (some (.int 10 v))))::fp) h:=S0
 clear S0
 have gF:=G.bw8
 kd_subs
 refine aQ1 [("radix",cx.L+1)] (λU=>true) (λv y=>X2 λc uc=>v= .str ⟨#[c]⟩ uc/\y= .bool (inS ⟨#[c]⟩ aV6)) ?_
 kd_subs
 have hc1:h.IsCell (cx.L+1) (some (.int 10 v)):=S.own.at_ _ (.head _)
 refine aQ3 S hh (szE (leT (by keq_rows))) (λC i v s₃ m₃ E' hv hn hm' kp=>a93 (v:=v)) ?_ ?_
 ·intro C i v' s₃ m₃ E' hv _ hns hm' kp
  obtain⟨c,uc,_,rfl⟩:=hv
  refine e_cmp ?_
  refine aM0 hns hm' ?_
  refine bh7 ?_
  refine bc3 S X gF kp ?_
  refine az3 ?_
  refine ldCellK (c:=cx.L+1) rfl (hc1.keeps kp) ?_ (by kernel_rfl) (by kernel_rfl)
  refine aT9 (szE (by rw[aP8];decide)) ?_
  intro h' tk t' kh
  exact PyProof.Rows.in_str ⟨⟨c,uc,rfl,rfl⟩,_,_,rfl,kh⟩
 ·intro D vs ys h' t' hl hv hP S
  rw[ae3] at hP
  kd_subs
  refine aR4 S hh (S.isList 0 rfl) ?_ ?_
  ·intro v' hv'
   have key:∀{vs ys:List Value},Paired (λv y=>X2 λc uc=>v= .str ⟨#[c]⟩ uc/\y= .bool (inS ⟨#[c]⟩ aV6)) vs ys->∀v'∈ys,∃v∈vs,X2 λc uc=>v= .str ⟨#[c]⟩ uc/\v'= .bool (inS ⟨#[c]⟩ aV6):=by
    intro vs ys hP
    induction hP with
    |nil=>intro v' h;cases h
    |cons e r ih=>
     intro v' h
     rcases List.mem_cons.mp h with rfl |h
     ·exact ⟨_,.head _,e⟩
     ·obtain ⟨v,h1,h2⟩:=ih v' h;exact⟨v,.tail _ h1,h2⟩
   obtain⟨v,hvm,c,uc,rfl,rfl⟩:=key hP v' hv'
   obtain⟨j,hj⟩:=List.getElem?_of_mem hvm
   obtain⟨c',u',h1,h2⟩:=hv j _ hj
   injection h2 with h2
   injection h2 with h2
   have:c=c':=by simpa using h2
   subst this
   rw[hs c (by unfold cod;rw[<-Array.getElem?_toList] at h1;exact List.mem_of_getElem? h1)]
  ·intro h' t' S
   exact rT.s ⟨_,(S.drop (.cons _ (.cons _ (.refl _)))).sit,rfl,rfl⟩
theorem aN7 (c:Nat):∀(cs:List Nat) (a:Nat),wth (cs++[c]) a=wth cs a*10+ar3 c
 |[],a=>rfl
 |c'::r,a=>aN7 c r _
theorem aA0 (X:a01 w K b) (G:KOk K) (room:a04 A 1) (hh:A.handled=none) {y:Str} {u v:Tok} (hy:y.length<=1000) (ho:∀c∈cod y,∃r,PySem.Builtin.Str.occurrences aJ1 ⟨#[c]⟩ 0 aJ1.length 1=ar3 c::r) (T:Sit w.params b g fp h):
  a07 w A z (.ref 739) [.str y u,.int 10 v] h t (λq h'=>∃fp',Sit w.params b g fp' h'/\fp'=fp/\∃tk,q= .int (wth (cod y) 0:Nat) tk):=by
 refine en (binds:=[("figures",.str y u),("radix",.int 10 v)]) G.bx9 X T room ?_
 kd_in
 refine aj8 S ?_;clear S;intro TT It h hT S
 refine av2 (n:=y.cps.size) (λi h U=>X2 λ(tkf:Tok) (lc:List (Str × Value))=>(lc=([("found",.int (wth ((cod y).take i) 0:Nat) tkf),("radix",.int 10 v),("figures",.str y u)]:List (Str × Value))∨∃q1,lc=([("found",.int (wth ((cod y).take i) 0:Nat) tkf),("sign",q1),("radix",.int 10 v),("figures",.str y u)]:List (Str × Value)))/\
  St w.params b g cx.L lc ((It,.cell (b90 y u TT i))::fp) h) ?_ ?_ y.cps.size 0 h _ (by lia)
  ⟨_,_,.inl rfl,S⟩
 ·clear S
  rintro i h t hi ⟨tkf,lc,hlc,S⟩ Jn nx
  have hc':y.cps[i]?=some y.cps[i]:=by simp [hi]
  have e1:(cod y).take (i+1)=(cod y).take i++[y.cps[i]]:=by
   have:y.cps[i]=(cod y)[i]'(by simpa [cod] using hi):=by simp [cod]
   rw[this,List.take_append_getElem]
  obtain⟨r,hr⟩:=ho y.cps[i] (by simp [cod])
  refine aj6 hT 0 S rfl hc' ?_;clear S;intro h tkL t S;dsimp+zetaDelta only[List.set] at S
  refine⟨_,rfl,?_⟩
  rcases hlc with rfl |⟨q1,rfl⟩
  all_goals
   kd_subs
   refine aD9 (IntMulOk.of_right (by decide+kernel)) ?_;intro tkm
   kd_subs
   refine bd6 hr ?_;intro tki
   kd_subs
   refine nx ⟨tk,([("found",.int (wth ((cod y).take (i+1)) 0:Nat) tk),("sign",.str ⟨#[y.cps[i]]⟩ tkL),("radix",.int 10 v),("figures",.str y u)]:List (Str × Value)),.inr ⟨_,rfl⟩,?_⟩
   have e2:((wth ((cod y).take (i+1)) 0:Nat):Int)=(wth ((cod y).take i) 0:Nat)*10+(ar3 y.cps[i]:Nat):=by rw[e1,aN7];simp
   rw[e2]
   exact S.locs _
 ·clear S
  rintro h t ⟨tkf,lc,hlc,S⟩
  refine a67 hT 0 S hh rfl (by simp) ?_;clear S;intro h t S;dsimp+zetaDelta only[List.eraseIdx] at S
  refine⟨rfl,?_⟩
  have e:(cod y).take y.cps.size=cod y:=by rw[List.take_of_length_le];simp [cod]
  rw[e] at hlc
  rcases hlc with rfl |⟨q1,rfl⟩
  all_goals
   kd_subs
   exact rT.s ⟨_,S.sit,rfl,_,rfl⟩
theorem au2 (X:a01 w K b) (G:KOk K) (room:a04 A 4) (hh:A.handled=none) {k:Nat} {y:Str} {u v:Tok} (F:aD4 k y) (T:Sit w.params b (fr.or d) fp h):
  a07 w A z (.ref 779) [.str y u,.int 10 v] h t (λq h'=>X2 λd' fp'=>a48 w.params b fr d d' fp' h'/\fp'=fp/\X3 λa t1 t2=>q= .ref a/\a00 d' a 768 [("top",.int (k:Int) t1),("bottom",.int 1 t2),("is_exact",.bool true)]):=by
 have hy:y.length<=1000:=by have:=F.len;exact leT (by keq_rows)
 refine en (binds:=[("word",.str y u),("radix",.int 10 v)]) G.bu6 X T room ?_
 kd_in
 refine a05 [] S (λg' hs T=>aL0 X G (room.deeper (by decide)) hy F.strip T) ?_
 clear S;rintro q h t fp' S ⟨a,tk1,tk2,rfl,rfl⟩
 kcf_m
 refine ad6 0 X G S hh (S.isTup 0 rfl) (by kernel_rfl) ?_;keq_hits
 replace S:=S.drop (List.sublist_cons_self _ _)
 kd_subs
 refine a32 400 false X G S F.ne ?_;clear S;kbo_bools
 kd_subs
 refine am4 S (λg' hs T=>as4 X G (room.deeper (by decide)) hh hy F.sl T) ?_;clear S
 kd_subs
 refine al6 S (λg' hs T=>aA0 X G (room.deeper (by decide)) hh hy F.occ T) ?_;clear S;intro tkw;intro h t S
 rw[F.val]
 kd_subs
 refine pow_int_small (s:=sh z h t) (by decide) (by decide) (by decide) ?_
 refine aD9 (IntMulOk.of_right (by decide+kernel)) ?_;intro tkm
 kd_subs
 refine aL3 X G (room.deeper (by decide)) S ?_;clear S;intro ar dr h t S
 obtain⟨hd,es,n,hdx,ha,hl⟩:=S.own.at_ _ (.head _)
 have I1:=a84 (d:=d) S
 have e:((k:Int)*(10:Int)^(0:Int).toNat)=(k:Int):=by simp
 unfold ao6 at I1
 rw[e] at I1
 exact rT.s ⟨_,_,S.frz.2.back S.frz.1.sit,rfl,ar,_,_,rfl,I1⟩
theorem av1 (X:a01 w K b) (G:KOk K) (room:a04 A 2) (hh:A.handled=none) {y:Str} {u:Tok} (hy:y.length<=1000) (hm:∀c∈cod y,inS ⟨#[c]⟩ (Str.ofString "esfdl")=false) (T:Sit w.params b g fp h):
  a07 w A z (.ref 805) [.str y u] h t (λq h'=>∃fp',Sit w.params b g fp' h'/\fp'=fp/\∃tk,q= .int (y.length:Int) tk):=by
 refine en (binds:=[("word",.str y u)]) G.bD0 X T room ?_
 kd_all
 have gM:=G.bt2
 dsimp only[List.reverse,List.reverseAux] at S
 kd_subs
 refine be5 [] ?_
 kd_subs
 refine ax6 S hh (by kernel_rfl) (by kernel_rfl) (by kernel_rfl) (by kernel_rfl) ?_ ?_
 ·rintro C v2 s₃ m₃ E' ⟨i,c,uc,h1,rfl⟩ hns hm' kp
  refine i_cmp ?_
  refine aM0 hns hm' ?_
  refine bc3 S X gM kp ?_
  refine PyProof.Rows.in_str ?_
  refine wpAny_truthy_bool ⟨hm c (by unfold cod;rw[<-Array.getElem?_toList] at h1;exact List.mem_of_getElem? h1),_,_,rfl,λU V e=>e⟩
 ·clear S
  intro D C h t S
  refine aU8 S (λk=>bf5 S k) ?_
  clear S;intro h S
  kd_subs
  refine ad8 (S.isList 1 rfl) (S.isList 0 rfl) (by have:=(room.of 0 (by decide)).2;lia) ?_
  kd_subs
  refine a09 (by lia) ?_;intro tkl
  exact rT.s ⟨_,(S.drop (.cons _ (.cons _ (.refl _)))).sit,rfl,_,rfl⟩
theorem aa5 (X:a01 w K b) (G:KOk K) (room:a04 A 5) (hh:A.handled=none) {k:Nat} {y:Str} {u v:Tok} (hb:Sub (Bas.of b) fr) (F:aD4 k y) (T:Sit w.params b (fr.or d) fp h):
  a07 w A z (.ref 826) [.str y u,.int 10 v] h t (λq h'=>X2 λd' fp'=>a48 w.params b fr d d' fp' h'/\fp'=fp/\X3 λa t1 t2=>q= .ref a/\a00 d' a 768 [("top",.int (k:Int) t1),("bottom",.int 1 t2),("is_exact",.bool true)]):=by
 have hy:y.length<=1000:=by have:=F.len;exact leT (by keq_rows)
 refine en (binds:=[("word",.str y u),("radix",.int 10 v)]) G.bu3 X T room ?_
 kd_in
 refine a32 400 false X G S F.sla ?_;clear S;kbo_bools
 kd_subs
 refine a32 400 false X G S F.dot ?_;clear S;kbo_bools
 kd_subs
 refine al6 S (λg' hs T=>av1 X G (room.deeper (by decide)) hh hy F.mrk T) ?_;clear S;intro tkm
 kd_subs
 refine a09 (by lia) ?_;intro tkl
 kd_subs
 refine a32 400 false X G S (by simp) ?_;clear S;kbo_bools
 kd_subs
 refine a03 [] S hb (λfr' hs T=>au2 X G (room.deeper (by decide)) hh F T) ?_
 clear S;rintro q h t d1 fp' G1 S ⟨rfl,P⟩
 kcf_m
 exact rT.s ⟨d1,_,G1.back S.sit,rfl,P⟩
theorem aM2 (X:a01 w K b) (G:KOk K) (room:a04 A 1) (hh:A.handled=none) {n:Int} {u v:Tok} (hn:n.natAbs<=1000) (T:Sit w.params b g fp h):
  a07 w A z (.ref 590) [.int n u,.int 1 v] h t (λq h'=>∃fp',Sit w.params b g fp' h'/\fp'=fp/\∃tk,q= .int 1 tk):=by
 refine en (binds:=[("one",.int n u),("other",.int 1 v)]) G.bB4 X T room ?_
 kd_in
 refine b64 ?_;intro tk0 t
 kd_subs
 refine b64 ?_;intro tk1 t
 kd_subs
 refine b86 0 X G S hh (S.isTup 0 rfl) (by kernel_rfl) ?_;clear S;kbo_bools
 kd_subs
 refine aB7 ?_
 kd_subs
 refine aw8 (by decide) ?_;intro tk2
 kd_subs
 refine b86 0 X G S hh (S.isTup 0 rfl) (by kernel_rfl) ?_;keq_hits
 rw[show ((n.natAbs:Int)).fmod ((1:Int).natAbs:Int)=0 from Int.fmod_one _] at S
 kd_subs
 refine aP1 ?_
 kd_subs
 exact rT.s ⟨_,(S.drop (.cons _ (.cons _ (.refl _)))).sit,rfl,_,rfl⟩
theorem b19 (X:a01 w K b) (G:KOk K) (room:a04 A 1) {n:Int} {u v:Tok} (T:Sit w.params b g fp h):
  a07 w A z (.ref 597) [.int n u,.int 1 v] h t (λq h'=>∃fp',Sit w.params b g fp' h'/\fp'=fp/\∃tk,q= .int n tk):=by
 refine en (binds:=[("top",.int n u),("bottom",.int 1 v)]) G.bC7 X T room ?_
 kd_in
 exact rT.s ⟨_,S.sit,rfl,_,rfl⟩
theorem aA8 (X:a01 w K b) (G:KOk K) (room:a04 A 2) (hh:A.handled=none) {n:Int} {u v:Tok} (hn:n.natAbs<=1000) (T:Sit w.params b g fp h):
  a07 w A z (.ref 604) [.int n u,.int 1 v] h t (λq h'=>∃fp',Sit w.params b g fp' h'/\fp'=fp/\∃tk,q= .int n tk):=by
 refine en (binds:=[("top",.int n u),("bottom",.int 1 v)]) G.bA5 X T room ?_
 kd_in
 refine al6 S (λg' hs T=>aM2 X G (room.deeper (by decide)) hh hn T) ?_;clear S;intro tkg
 kd_subs
 refine aW7 (by decide) (PyProof.noPylong_small (by lia)) ?_;intro tk1
 kd_subs
 refine aW7 (by decide) (PyProof.noPylong_small (by decide)) ?_;intro tk2
 rw[show n.fdiv 1=n from Int.fdiv_one n,show (1:Int).fdiv 1=1 from Int.fdiv_one 1]
 kd_subs
 refine al6 S (λg' hs T=>b19 X G (room.deeper (by decide)) T) ?_;clear S;intro tkm;intro h t S
 exact rT.s ⟨_,S.sit,rfl,_,rfl⟩
theorem ao4 (X:a01 w K b) (G:KOk K) (room:a04 A 3) (hh:A.handled=none) {n:Int} {u v:Tok} {pv:Value} (hn:n.natAbs<=1000) (T:Sit w.params b g fp h):
  a07 w A z (.ref 840) [pv,.int n u,.int 1 v,.bool true] h t (λq h'=>∃fp',Sit w.params b g fp' h'/\fp'=fp/\∃tk,q= .int n tk):=by
 refine en (binds:=[("precision",pv),("top",.int n u),("bottom",.int 1 v),("is_exact",.bool true)]) G.bD5 X T room ?_
 kd_in
 refine al6 S (λg' hs T=>aA8 X G (room.deeper (by decide)) hh hn T) ?_;clear S;intro tkm;intro h t S
 exact rT.s ⟨_,S.sit,rfl,_,rfl⟩
noncomputable def bb0 (n:Int):Bool:=let x:=a28 n 10
 (Txt.lower x==x)&& !(Txt.slice x (some 0) (some 1)==Str.ofString "#")&&(Txt.slice x (some 0) none==x)&&((Txt.slice x none (some 1)==Str.ofString "-")==decide (n<0))&&(([Str.ofString "+",Str.ofString "-"].any (·==Txt.slice x none (some 1)))==decide (n<0))&&((if decide (n<0) then Txt.slice x (some 1) none else x)==b96 n.natAbs 10)&&Nat.ble x.length 10
theorem b65:(List.range 40).all (λk=>bb0 ((k:Int) -20))=true:=by decide+kernel
theorem aR5 {n:Int} (h1: -20<=n) (h2:n<20):let x:=a28 n 10
  Txt.lower x=x/\(Txt.slice x (some 0) (some 1)==Str.ofString "#")=false/\Txt.slice x (some 0) none=x/\(Txt.slice x none (some 1)==Str.ofString "-")=decide (n<0)/\([Str.ofString "+",Str.ofString "-"].any (·==Txt.slice x none (some 1)))=decide (n<0)/\(if decide (n<0)=true then Txt.slice x (some 1) none else x)=b96 n.natAbs 10/\x.length<=10:=by
 have:=List.all_eq_true.mp b65 (n+20).toNat (List.mem_range.mpr (by lia))
 rw[show (((n+20).toNat:Int) -20)=n by lia] at this
 unfold bb0 at this
 simp only[Bool.and_eq_true,Bool.not_eq_true'] at this
 obtain⟨⟨⟨⟨⟨⟨q1,q2⟩,q3⟩,q4⟩,q5⟩,q6⟩,q7⟩:=this
 exact⟨eq_of_beq q1,q2,eq_of_beq q3,eq_of_beq q4,eq_of_beq q5,eq_of_beq q6,Nat.le_of_ble_eq_true q7⟩
theorem al0 (X:a01 w K b) (G:KOk K) (room:a04 A 1) (hh:A.handled=none) {x:Str} {u v:Tok} (hx:x.length<=1000) (q2:(Txt.slice x (some 0) (some 1)==Str.ofString "#")=false) (q3:Txt.slice x (some 0) none=x) (T:Sit w.params b g fp h):
  a07 w A z (.ref 833) [.str x u,.int 10 v] h t (λq h'=>∃fp',Sit w.params b g fp' h'/\X3 λa tk tk'=>q= .ref a/\fp'=(a,.tup [.str x tk,.int 10 v,.str (Str.ofString "") tk'])::fp):=by
 refine en (binds:=[("word",.str x u),("radix",.int 10 v)]) G.bz3 X T room ?_
 kd_in
 refine bo3 0 X G S hh (S.isTup 0 rfl) (by kernel_rfl) ?_;keq_hits
 replace S:=S.drop (List.sublist_cons_self _ _)
 kd_subs
 refine aB7 ?_
 kd_subs
 refine aj3 S (szE (leT (by keq_rows))) ?_;clear S;intro h tk1 t S
 kd_subs
 refine a32 400 false X G S (by rw[show ((0:Int)+1)=1 from rfl,q2];try rfl) ?_;clear S;kbo_bools
 kd_subs
 refine ap0 S (szE (leT (by keq_rows))) ?_;clear S;intro h tk2 t S
 rw[q3]
 kd_subs
 exact rT.s ⟨_,S.sit,_,_,_,rfl,rfl⟩
theorem ap3 (X:a01 w K b) (G:KOk K) (room:a04 A 6) (hh:A.handled=none) (hb:Sub (Bas.of b) fr) {n:Int} {u v:Tok} {pv:Value} (h1: -20<=n) (h2:n<20) (T:Sit w.params b (fr.or d) fp h):
  a07 w A z (.ref 848) [pv,.str (a28 n 10) u,.int 10 v] h t (λq h'=>X2 λd' fp'=>a48 w.params b fr d d' fp' h'/\fp'=fp/\∃tk,q= .int n tk):=by
 obtain⟨q1,q2,q3,q4,q5,q6,q7⟩:=aR5 h1 h2
 have F:=b30 (k:=n.natAbs) (by lia)
 refine en (binds:=[("precision",pv),("text",.str (a28 n 10) u),("radix",.int 10 v)]) G.bC4 X T room ?_ (hbind:=ag1 X T G.t_841 (by kernel_rfl) rfl (by kernel_rfl))
 kd_in
 refine bd5 (by exact leT (by keq_rows)) ?_;intro tk0
 rw[q1]
 kd_subs
 refine a05 [] S (λg' hs T=>al0 X G (room.deeper (by decide)) hh (by exact leT (by keq_rows)) q2 q3 T) ?_
 clear S;rintro q h t fp' S ⟨a,tk1,tk2,rfl,rfl⟩
 kcf_m
 kd_subs
 refine bo3 0 X G S hh (S.isTup 0 rfl) (by kernel_rfl) ?_;keq_hits
 replace S:=S.drop (List.sublist_cons_self _ _)
 kd_subs
 refine ad1 S (szE (leT (by keq_rows))) ?_;clear S;intro h tk3 t S
 kd_subs
 rw[q4]
 have sgn:∀{sg:Int},sg*(n.natAbs:Int)=n->True:=λU=>trivial
 cases hneg:decide (n<0)
 all_goals
  rw[hneg] at q5 q6
  kd_subs
  refine ad1 S (szE (leT (by keq_rows))) ?_;clear S;intro h tk4 t S
  kd_subs
  refine as7 (S.isTup 0 rfl) (.cons _ _ (.cons _ _ .nil)) ?_
  rw[q5]
  kd_subs
  replace S:=S.drop (List.sublist_cons_self _ _)
 ·simp only[Bool.false_eq_true,if_false] at q6
  rw[q6]
  refine a03 [] S hb (λfr' hs T=>aa5 X G (room.deeper (by decide)) hh (hb.trans (Sub.trans a29 hs)) F T) ?_
  clear S;rintro q h t d1 fp' G1 S ⟨rfl,ar,t1,t2,rfl,I⟩
  kcf_m
  have J:a00 (fr.or d1) ar 768 [("top",.int (n.natAbs:Int) t1),("bottom",.int 1 t2),("is_exact",.bool true)]:=I.sub a12
  kd_subs
  refine aD9 (a:=1) (IntMulOk.of_left (by decide+kernel)) ?_;intro tk5
  rw[show (1:Int)*(n.natAbs:Int)=n by have:=of_decide_eq_false hneg;lia]
  kd_subs
  refine al6 S (λg' hs T=>ao4 X G (room.deeper (by decide)) hh (by lia) T) ?_;clear S;intro tkm;intro h t S
  exact rT.s ⟨d1,_,G1.back S.sit,rfl,_,rfl⟩
 ·simp only[if_true] at q6
  refine ap0 S (szE (leT (by keq_rows))) ?_;clear S;intro h tk6 t S
  rw[q6]
  kd_subs
  refine a03 [] S hb (λfr' hs T=>aa5 X G (room.deeper (by decide)) hh (hb.trans (Sub.trans a29 hs)) F T) ?_
  clear S;rintro q h t d1 fp' G1 S ⟨rfl,ar,t1,t2,rfl,I⟩
  kcf_m
  have J:a00 (fr.or d1) ar 768 [("top",.int (n.natAbs:Int) t1),("bottom",.int 1 t2),("is_exact",.bool true)]:=I.sub a12
  kd_subs
  refine aD9 (a:=-1) (IntMulOk.of_left (by decide+kernel)) ?_;intro tk5
  rw[show (-1:Int)*(n.natAbs:Int)=n by have:=of_decide_eq_true hneg;lia]
  kd_subs
  refine al6 S (λg' hs T=>ao4 X G (room.deeper (by decide)) hh (by lia) T) ?_;clear S;intro tkm;intro h t S
  exact rT.s ⟨d1,_,G1.back S.sit,rfl,_,rfl⟩
theorem ax1 (X:a01 w K b) (G:KOk K) (room:a04 A 8) (hh:A.handled=none) (hb:Sub (Bas.of b) fr) {lx dl:Addr} {x:Str} {u0 u1 tk tu:Tok} {p:Nat} {n:Int} {pv:Value} (h1: -20<=n) (h2:n<20)
  (T:Sit w.params b (fr.or d) (ak1 lx dl x u0 u1 p tk) h):
  a07 w A z (.ref 991) [.ref lx,.str (a28 n 10) tu,pv] h t (λq h'=>X2 λd' fp'=>a48 w.params b fr d d' fp' h'/\fp'=ak1 lx dl x u0 u1 p tk/\∃tk',q= .int n tk'):=by
 refine en (binds:=[("self",.ref lx),("own",.str (a28 n 10) tu),("start",pv)]) G.bs3 X T room ?_
 kd_in
 refine a03 [] S hb (λfr' hs T=>ap3 X G (room.deeper (by decide)) hh (hb.trans (Sub.trans a29 hs)) h1 h2 T) ?_
 clear S;rintro q h t d1 fp' G1 S ⟨rfl,tkn,rfl⟩
 kcf_m
 kd_subs
 exact rT.s ⟨d1,_,G1.back S.sit,rfl,_,rfl⟩
end
section
noncomputable def symOk (s:Str):Bool:=ah4 s&&(cod s).all aK0&& !(s==Str.ofString ".")&&Nat.blt 0 s.length&&Nat.ble s.length 100
theorem b12:names.all (λs=>!aa9 s||symOk s)=true:=by decide+kernel
theorem aX9 {s:Str} (hs:s∈names) (hr:aa9 s=true):ah4 s=true/\(∀c∈cod s,aK0 c=true)/\(s==Str.ofString ".")=false/\0<s.length/\s.length<=100/\aC4 s=s/\ak7 s=true:=by
 have:=List.all_eq_true.mp b12 s hs
 rw[hr,Bool.not_true,Bool.false_or] at this
 unfold symOk at this
 simp only[Bool.and_eq_true,Bool.not_eq_true',List.all_eq_true] at this
 unfold aa9 at hr
 rw[Bool.and_eq_true] at hr
 exact⟨this.1.1.1.1,this.1.1.1.2,this.1.1.2,Nat.le_of_ble_eq_true this.1.2,Nat.le_of_ble_eq_true this.2,eq_of_beq hr.1,hr.2⟩
theorem aF9 {x s:Str} {p:Nat} {tl:List Nat} (hd:(cod x).drop p=cod s++tl) (hp:p<=x.length):Txt.slice x (some (p:Int)) (some ((p+(cod s).length:Nat):Int))=s:=by
 refine ap9 ?_
 rw[aA3 hp,hd,Nat.add_sub_cancel_left]
 simp
noncomputable abbrev aI2 (w:World) (b:Heap) (fr d:Bas) (lx dl:Addr) (x:Str) (u0 u1:Tok) (wd:Str) (vl:Value->Bas->Prop) (p e:Nat) (q:Value) (h':Heap):Prop:=
 X2 λd' fp'=>a48 w.params b fr d d' fp' h'/\X6 λa tw v ts te tk'=>A4 (q= .ref a) (vl v d') (a00 d' a 874 (a23 (.str wd tw) v (.int (p:Int) ts) (.int (e:Int) te))) (fp'=ak1 lx dl x u0 u1 e tk')
theorem aw9 (X:a01 w K b) (G:KOk K) (room:a04 A 4) (hh:A.handled=none) (hb:Sub (Bas.of b) fr) {lx dl:Addr} {x s:Str} {u0 u1 tk:Tok} {p:Nat} {tl:List Nat} (hx:x.length<100000) (hs:s∈names) (hr:aa9 s=true) (hd:(cod x).drop p=cod s++tl) (hp:p<=x.length) (ht:∀c r,tl=c::r->inS ⟨#[c]⟩ ar6=true)
  (T:Sit w.params b (fr.or d) (ak1 lx dl x u0 u1 p tk) h):
  a07 w A z (.ref 984) [.ref lx] h t (aI2 w b fr d lx dl x u0 u1 (Str.ofString "symbol") (λv U=>∃tv,v= .str s tv) p (p+(cod s).length)):=by
 obtain⟨f1,f2,f3,f4,f5,f6,f7⟩:=aX9 hs hr
 refine en (binds:=[("self",.ref lx)]) G.bs5 X T room ?_
 kd_in
 refine a05 [true] S (λg' hs T=>am8 X G (room.deeper (by decide)) hx hd hp f2 ht T) ?_
 clear S;rintro q h t fp' S ⟨rfl,tke,rfl⟩
 try kcf_m
 kd_subs
 refine a63 (aF9 hd hp) S (szE (ltl (by keq_rows))) ?_;clear S;intro h tko t S
 kd_subs
 refine a32 400 false X G S f3 ?_;clear S;kbo_bools
 kd_subs
 refine al6 S (λg' hs T=>a92 X G (room.deeper (by decide)) hh (by exact leT (by keq_rows)) f1 T) ?_;clear S;intro tkf;intro h t S
 try kcf_m
 rw[f6]
 kd_subs
 refine am4 S (λg' hs T=>a57 X G (room.deeper (by decide)) hh (by exact leT (by keq_rows)) T) ?_;clear S;intro h t S
 try kcf_m
 rw[f7]
 kd_subs
 refine a03 [true] S hb (λfr' hs T=>a85 X G (room.deeper (by decide)) T) ?_
 clear S;rintro q h t d1 fp' G1 S ⟨a1,ts,rfl,I1,rfl⟩
 exact rT.s ⟨d1,_,G1.back S.sit,a1,_,_,ts,_,tke,rfl,⟨_,rfl⟩,I1,rfl⟩
noncomputable def bn5 (n:Int):Bool:=let y:=a28 n 10
 ah4 y&&(cod y).all aK0&& !(y==Str.ofString ".")&& !ak7 (aC4 y)&&Nat.ble y.length 10&&(match (cod y)[0]?with |some c=>inS ⟨#[c]⟩ bj7||inS ⟨#[c]⟩ (Str.ofString "+-.")|none=>false)
theorem bf1:(List.range 40).all (λk=>bn5 ((k:Int) -20))=true:=by decide+kernel
theorem b07 {n:Int} (h1: -20<=n) (h2:n<20):ah4 (a28 n 10)=true/\(∀c∈cod (a28 n 10),aK0 c=true)/\(a28 n 10==Str.ofString ".")=false/\ak7 (aC4 (a28 n 10))=false/\(a28 n 10).length<=10/\
  ∃c,(cod (a28 n 10))[0]?=some c/\(inS ⟨#[c]⟩ bj7||inS ⟨#[c]⟩ (Str.ofString "+-."))=true:=by
 have:=List.all_eq_true.mp bf1 (n+20).toNat (List.mem_range.mpr (by lia))
 rw[show (((n+20).toNat:Int) -20)=n by lia] at this
 unfold bn5 at this
 simp only[Bool.and_eq_true,Bool.not_eq_true',List.all_eq_true] at this
 refine⟨this.1.1.1.1.1,this.1.1.1.1.2,this.1.1.1.2,this.1.1.2,Nat.le_of_ble_eq_true this.1.2,?_⟩
 have h:=this.2
 cases q:(cod (a28 n 10))[0]?with
 |none=>rw[q] at h;cases h
 |some c=>rw[q] at h;exact⟨c,rfl,h⟩
theorem ax0 (X:a01 w K b) (G:KOk K) (room:a04 A 9) (hh:A.handled=none) (hb:Sub (Bas.of b) fr) {lx dl:Addr} {x:Str} {n:Int} {u0 u1 tk:Tok} {p:Nat} {tl:List Nat} (hx:x.length<100000) (h1: -20<=n) (h2:n<20) (hd:(cod x).drop p=cod (a28 n 10)++tl) (hp:p<=x.length) (ht:∀c r,tl=c::r->inS ⟨#[c]⟩ ar6=true)
  (T:Sit w.params b (fr.or d) (ak1 lx dl x u0 u1 p tk) h):
  a07 w A z (.ref 984) [.ref lx] h t (aI2 w b fr d lx dl x u0 u1 (Str.ofString "number") (λv U=>∃tv,v= .int n tv) p (p+(cod (a28 n 10)).length)):=by
 obtain⟨f1,f2,f3,f4,f5,c,f6,f7⟩:=b07 h1 h2
 have fl:(aC4 (a28 n 10)).length<=1000:=by
  have h1:=StrLaws.join_length_le (Str.ofString "") ((a28 n 10).cps.toList.map ax4)
  show (PySem.Builtin.Str.glued _ _).length<=1000
  rw[StrLaws.glued_eq_join]
  have e0:(Str.ofString "").length=0:=rfl
  rw[e0,aN9] at h1
  have e1:(a28 n 10).cps.toList.length=(a28 n 10).length:=by simp [Str.length]
  lia
 refine en (binds:=[("self",.ref lx)]) G.bs5 X T room ?_
 kd_in
 refine a05 [true] S (λg' hs T=>am8 X G (room.deeper (by decide)) hx hd hp f2 ht T) ?_
 clear S;rintro q h t fp' S ⟨rfl,tke,rfl⟩
 try kcf_m
 kd_subs
 refine a63 (aF9 hd hp) S (szE (ltl (by keq_rows))) ?_;clear S;intro h tko t S
 kd_subs
 refine a32 400 false X G S f3 ?_;clear S;kbo_bools
 kd_subs
 refine al6 S (λg' hs T=>a92 X G (room.deeper (by decide)) hh (by exact leT (by keq_rows)) f1 T) ?_;clear S;intro tkf;intro h t S
 try kcf_m
 kd_subs
 refine am4 S (λg' hs T=>a57 X G (room.deeper (by decide)) hh fl T) ?_;clear S;intro h t S
 try kcf_m
 rw[f4]
 kd_subs
 refine am4 S (λg' hs T=>ao0 X G (room.deeper (by decide)) (by exact lel (by keq_rows)) f6 f7 T) ?_;clear S;intro h t S
 try kcf_m
 kd_subs
 refine a03 [true] S hb (λfr' hs T=>ax1 X G (room.deeper (by decide)) hh (hb.trans (Sub.trans a29 hs)) h1 h2 T) ?_
 clear S;rintro q h t d0 fp' G0 S ⟨rfl,tkn,rfl⟩
 try kcf_m
 kd_subs
 refine a03 [true] S hb (λfr' hs T=>a85 X G (room.deeper (by decide)) T) ?_
 clear S;rintro q h t d1 fp' G1 S ⟨a1,ts,rfl,I1,rfl⟩
 exact rT.s ⟨d1,_,(G0.trans G1).back S.sit,a1,_,_,ts,_,tke,rfl,⟨_,rfl⟩,I1,rfl⟩
end
section
theorem ah3 {x:Str} {p c:Nat} {tl:List Nat} (hd:(cod x).drop p=c::tl):Txt.slice x (some (p:Int)) (some ((p+1:Nat):Int))=⟨#[c]⟩:=by
 obtain⟨e1,e2,e3⟩:=a47 hd
 rw[a40] at e2
 refine ap9 ?_
 rw[aA3 (by exact Nat.le_of_lt (by keq_rows)),hd,Nat.add_sub_cancel_left]
 rfl
theorem aP4:aC4 ⟨#[40]⟩=Str.ofString "("/\ah4 ⟨#[40]⟩=true:=by decide+kernel
theorem b28:aC4 ⟨#[92]⟩=Str.ofString "\\"/\ah4 ⟨#[92]⟩=true:=by decide+kernel
theorem aS4 (X:a01 w K b) (G:KOk K) (room:a04 A 4) (hh:A.handled=none) (hb:Sub (Bas.of b) fr) {lx dl:Addr} {x:Str} {u0 u1 tk:Tok} {p:Nat} {tl:List Nat} (hx:x.length<100000) (hd:(cod x).drop p=35::40::tl)
  (T:Sit w.params b (fr.or d) (ak1 lx dl x u0 u1 p tk) h):
  a07 w A z (.ref 998) [.ref lx] h t (aI2 w b fr d lx dl x u0 u1 (Str.ofString "#(") (λv U=>v= .none) p (p+2)):=by
 obtain⟨e1,e2,e3⟩:=a47 hd
 refine en (binds:=[("self",.ref lx)]) G.bs9 X T room ?_
 kd_in
 rw[show ((p:Int)+1)=((p+1:Nat):Int) by exact rfl,show ((p:Int)+2)=((p+1+1:Nat):Int) by exact rfl]
 refine a63 (ah3 e3) S (szE (ltl (by keq_rows))) ?_;clear S;intro h tko t S
 kd_subs
 refine al6 S (λg' hs T=>a92 X G (room.deeper (by decide)) hh (show 1<=1000 by decide) aP4.2 T) ?_;clear S;intro tkf;intro h t S
 try kcf_m
 rw[aP4.1]
 kd_subs
 rw[show ((p:Int)+2)=((p+2:Nat):Int) by exact rfl]
 refine a03 [true] S hb (λfr' hs T=>a85 X G (room.deeper (by decide)) T) ?_
 clear S;rintro q h t d1 fp' G1 S ⟨a1,ts,rfl,I1,rfl⟩
 exact rT.s ⟨d1,_,G1.back S.sit,a1,_,_,ts,_,_,rfl,rfl,I1,rfl⟩
theorem au0 (X:a01 w K b) (G:KOk K) (room:a04 A 4) (hh:A.handled=none) (hb:Sub (Bas.of b) fr) {tb:TB} {lx dl:Addr} {x:Str} {u0 u1 tq:Tok} {p c:Nat} {tl:List Nat} (hx:x.length<100000) (hd:(cod x).drop p=35::92::c::tl) (ht:∀c r,tl=c::r->inS ⟨#[c]⟩ ar6=true)
  (T:Sit w.params b (fr.or d) (ak1 lx dl x u0 u1 p tq) h):
  a07 w A z (.ref 1005) [.ref lx] h t (aI2 w b fr d lx dl x u0 u1 (Str.ofString "char") (λv d'=>Rep tb d' v (.char c)) p (p+3)):=by
 obtain⟨e1,e2,e3⟩:=a47 hd
 obtain⟨e4,e5,e6⟩:=a47 e3
 obtain⟨e7,e8,e9⟩:=a47 e6
 rw[a40] at e8
 refine en (binds:=[("self",.ref lx)]) G.bB3 X T room ?_
 kd_in
 refine a09 (by lia) ?_;intro tkl
 kd_subs
 refine a32 400 false X G S (by simp;lia) ?_;clear S;kbo_bools
 kd_subs
 dsimp+zetaDelta only at S
 rw[show ((p:Int)+3)=((p+3:Nat):Int) by exact rfl] at S
 refine a56 (λm h U=>∃tk3:Tok,St w.params b (fr.or d) cx.L [("end",.int ((p+3:Nat):Int) tk3),("start",.int (p:Int) tq),("self",.ref lx)] (ak1 lx dl x u0 u1 p tq) h) ?_ 0 h _ ⟨_,S⟩
 clear S
 rintro m h t ⟨tk3,S⟩ Jn nx
 have fin:∀{h:Heap} {t:Nat},St w.params b (fr.or d) cx.L [("end",.int ((p+3:Nat):Int) tk3),("start",.int (p:Int) tq),("self",.ref lx)] (ak1 lx dl x u0 u1 p tq) h->
   Dn w z K a36 cx (.xs (a36.body.drop 4)) [] (sh z h t):=by
  intro h t S
  kd_subs
  rw[show ((p:Int)+2)=((p+2:Nat):Int) by exact rfl,show ((p+3:Nat):Int)=((p+2+1:Nat):Int) by exact rfl]
  refine a63 (ah3 e6) S (szE (ltl (by keq_rows))) ?_;clear S;intro h tko t S
  kd_subs
  refine a09 (show (1:Int)<_ by decide) ?_;intro tkl
  kd_subs
  refine x_ord rfl ?_;intro tkc
  kd_subs
  refine aB4 X G (room.deeper (by decide)) S ?_;clear S;intro ac dc h t S
  obtain⟨d1,G1,I1,S⟩:=a33 S
  rename_i S0;clear S0
  kd_subs
  refine a03 [true] S hb (λfr' hs T=>a85 X G (room.deeper (by decide)) T) ?_
  clear S;rintro q h t d2 fp' G2 S ⟨a1,ts,rfl,I2,rfl⟩
  exact rT.s ⟨d2,_,(G1.trans G2).back S.sit,a1,_,_,ts,_,_,rfl,⟨ac,tkc,rfl,I1.sub G2.mono⟩,I2,rfl⟩
 kd_subs
 refine a09 (by lia) ?_;intro tkl
 kd_subs
 induction tl using List.casesOn with
 |nil=>
  have e:p+3=x.length:=by
   have:=congrArg List.length e9
   simp [a40] at this
   lia
  refine a32 2 false X G S (by simp;lia) ?_;keq_hits
  exact fin S
 |cons c2 r=>
  obtain⟨f1,f2,f3⟩:=a47 e9
  rw[a40] at f2
  refine a32 400 true X G S (by simp;exact Int.ofNat_lt.mpr (by keq_rows)) ?_;clear S;kbo_bools
  kd_subs
  refine a70 (a72 f1) (by lia) (by exact ngE) (by exact Int.ofNat_lt.mpr (by keq_rows)) ?_;intro tki
  kd_subs
  rw[ht c2 r rfl]
  refine a32 3 false X G S rfl ?_;keq_hits
  exact fin S
theorem aY8 (X:a01 w K b) (G:KOk K) (room:a04 A 5) (hh:A.handled=none) (hb:Sub (Bas.of b) fr) {tb:TB} {lx dl:Addr} {x:Str} {u0 u1 tk:Tok} {p c:Nat} {tl:List Nat} (hx:x.length<100000) (hd:(cod x).drop p=35::92::c::tl) (ht:∀c r,tl=c::r->inS ⟨#[c]⟩ ar6=true)
  (T:Sit w.params b (fr.or d) (ak1 lx dl x u0 u1 p tk) h):
  a07 w A z (.ref 998) [.ref lx] h t (aI2 w b fr d lx dl x u0 u1 (Str.ofString "char") (λv d'=>Rep tb d' v (.char c)) p (p+3)):=by
 obtain⟨e1,e2,e3⟩:=a47 hd
 refine en (binds:=[("self",.ref lx)]) G.bs9 X T room ?_
 kd_in
 rw[show ((p:Int)+1)=((p+1:Nat):Int) by exact rfl,show ((p:Int)+2)=((p+1+1:Nat):Int) by exact rfl]
 refine a63 (ah3 e3) S (szE (ltl (by keq_rows))) ?_;clear S;intro h tko t S
 kd_subs
 refine al6 S (λg' hs T=>a92 X G (room.deeper (by decide)) hh (show 1<=1000 by decide) b28.2 T) ?_;clear S;intro tkf;intro h t S
 try kcf_m
 rw[b28.1]
 kd_subs
 refine a03 [true] S hb (λfr' hs T=>au0 (tb:=tb) X G (room.deeper (by decide)) hh (hb.trans (Sub.trans a29 hs)) hx hd ht T) ?_
 clear S;rintro q h t d1 fp' G1 S ⟨a1,tw,v,ts,te,tk',rfl,hv,I1,rfl⟩
 exact rT.s ⟨d1,_,G1.back S.sit,a1,tw,v,ts,te,tk',rfl,hv,I1,rfl⟩
end
section
noncomputable def ax5 (cs:List Nat):List Nat:=(aC5 cs).flatMap cod
noncomputable def isQ (c:Nat):Bool:=(⟨#[c]⟩:Str)==Str.ofString "\""
noncomputable def isB (c:Nat):Bool:=(⟨#[c]⟩:Str)==Str.ofString "\\"
theorem aC8:∀ys:List Str,cod (a94 ys)=ys.flatMap cod
 |[]=>rfl
 |y::r=>by rw[a94,al7,aC8 r,List.flatMap_cons]
theorem bq7:cod (Str.ofString "\\")=[92]:=by decide+kernel
theorem bd0:cod (Str.ofString "\"")=[34]:=by decide+kernel
theorem aU9 (cs:List Nat):cod (aO7 cs)=34::(ax5 cs++[34]):=by
 unfold aO7 ax5
 rw[an9,aC8]
 simp only[List.flatMap_append,List.flatMap_cons,List.flatMap_nil,bd0]
 simp
theorem b33 (c:Nat) (r:List Nat):ax5 (c::r)=if isQ c||isB c then 92::c::ax5 r else c::ax5 r:=by
 unfold ax5
 have e:aC5 (c::r)=ag0 c++aC5 r:=by simp [aC5]
 rw[e,List.flatMap_append]
 unfold ag0
 show List.flatMap cod (if isQ c||isB c then _ else _)++_=_
 have e1:cod (⟨#[c]⟩:Str)=[c]:=rfl
 split
 ·rw [List.flatMap_cons,List.flatMap_cons,bq7,e1];rfl
 ·rw [List.flatMap_cons,e1];rfl
theorem isQ34:isQ 34=true:=by decide+kernel
theorem isB92:isB 92=true:=by decide+kernel
theorem isQ92:isQ 92=false:=by decide+kernel
theorem isQ_eq {c:Nat} (h:isQ c=true):c=34:=by
 have:=congrArg cod (eq_of_beq h)
 rw[bd0] at this
 exact (List.cons.inj this).1
theorem one_ne (c:Nat):((⟨#[c]⟩:Str)==Str.ofString "")=false:=by
 cases q:((⟨#[c]⟩:Str)==Str.ofString "") with
 |false=>rfl
 |true=>exact absurd (congrArg cod (eq_of_beq q)) (by show [c]≠[];simp)
theorem aT1:∀cs:List Nat,cod (Txt.join (Str.ofString "") (cs.map λc=>(⟨#[c]⟩:Str)))=cs:=by
 intro cs
 rw[an9,aC8]
 induction cs with
 |nil=>rfl
 |cons c r ih=>rw[List.map_cons,List.flatMap_cons,ih];rfl
theorem aK4 (X:a01 w K b) (G:KOk K) (room:a04 A 5) (hh:A.handled=none) (hb:Sub (Bas.of b) fr) {tb:TB} {lx dl:Addr} {x:Str} {u0 u1 tq:Tok} {p:Nat} {cs tl:List Nat} (hx:x.length<100000) (hcs:cs.length<=500) (hd:(cod x).drop p=34::(ax5 cs++34::tl))
  (T:Sit w.params b (fr.or d) (ak1 lx dl x u0 u1 p tq) h):
  a07 w A z (.ref 1012) [.ref lx] h t (aI2 w b fr d lx dl x u0 u1 (Str.ofString "string") (λv d'=>Rep tb d' v (.text cs)) p (p+(ax5 cs).length+2)):=by
 obtain⟨e1,e2,e3⟩:=a47 hd
 refine en (binds:=[("self",.ref lx)]) G.bz5 X T room ?_
 kd_in
 dsimp+zetaDelta only at S
 rw[show ((p:Int)+1)=((p+1:Nat):Int) by exact rfl] at S
 refine a56 (λm h U=>X6 λ(p':Nat) (cs1 cs2:List Nat) (vs:List Value) (tk':Tok) (qs:List (Str × Value))=>A6 (m=cs2.length) (cs=cs1++cs2) (p'+(ax5 cs2).length=p+1+(ax5 cs).length) ((cod x).drop p'=ax5 cs2++34::tl) (StrsAre vs (cs1.map λc=>(⟨#[c]⟩:Str)))
   (St w.params b (fr.or d) cx.L (("at",.int (p':Int) tk')::("letters",.ref a)::("start",.int (p:Int) tq)::("self",.ref lx)::qs) ((a,.list vs)::ak1 lx dl x u0 u1 p tq) h)) ?_ cs.length h _
  ⟨p+1,[],cs,[],_,[],rfl,rfl,by exact rfl,e3,.nil,S⟩
 clear S
 rintro m h t ⟨p',cs1,cs2,vs,tk',qs,rfl,hcs12,hp',hd',hv,S⟩ Jn nx
 have hl:=a40 x
 have hvl:vs.length<=500:=by
  have h1:=a87 hv
  rw[List.length_map] at h1
  have h2:=congrArg List.length hcs12
  rw[List.length_append] at h2
  lia
 kd_subs
 refine a09 (by lia) ?_;intro tkl
 kd_subs
 induction cs2 using List.casesOn with
 |nil=>
  have hd2:(cod x).drop p'=34::tl:=hd'
  obtain⟨f1,f2,f3⟩:=a47 hd2
  rw[hl] at f2
  refine a32 400 false X G S (by simp;assumption) ?_;clear S;kbo_bools
  kd_subs
  refine a70 (a72 f1) (by lia) (by exact ngE) (by exact Int.ofNat_lt.mpr (by keq_rows)) ?_;intro tki
  kd_subs
  refine ay2 (S.isList 0 rfl) hv ?_ ?_
  ·have e0:(Str.ofString "").length=0:=rfl
   rw[e0,aN8]
   have h2:=congrArg List.length hcs12
   rw[List.length_append] at h2
   lia
  intro tkj t
  have ecs:(Txt.join (Str.ofString "") (cs1.map λc=>(⟨#[c]⟩:Str))).cps.toList=cs:=by
   have:=aT1 cs1
   unfold cod at this
   rw[this,hcs12,List.append_nil]
  have elen:(Txt.join (Str.ofString "") (cs1.map λc=>(⟨#[c]⟩:Str))).length<=1000:=by
   rw[<-a40]
   unfold cod
   rw[ecs]
   exact leT (by keq_rows)
  kd_subs
  refine a03 [false,false] S hb (λfr' hs T=>ax2 X G (room.deeper (by decide)) hh elen T) ?_
  clear S;rintro q h t d1 fp' G1 S ⟨rfl,aT,lT,vT,rfl,I1,I2,hc⟩
  rw[ecs] at hc
  kcf_m
  kd_subs
  rw[show ((p':Int)+1)=((p+(ax5 cs).length+2:Nat):Int) by simp [ax5,aC5] at hp' ⊢;lia]
  refine a03 [false,true] S hb (λfr' hs T=>a85 X G (room.deeper (by decide)) T) ?_
  clear S;rintro q h t d2 fp' G2 S ⟨a1,ts,rfl,I3,rfl⟩
  dsimp only[aI7,msk,List.append_nil,List.nil_append,List.cons_append] at S ⊢
  exact rT.s ⟨d2,_,(G1.trans G2).back (S.drop (.cons_cons _ (.cons _ (.refl _)))).sit,a1,_,_,ts,_,_,rfl,⟨aT,lT,vT,rfl,I1.sub G2.mono,I2.sub G2.mono,hc⟩,I3,rfl⟩
 |cons c r=>
  have hesc:=b33 c r
  cases q:(isQ c||isB c)
  ·rw [q] at hesc
   simp only[Bool.false_eq_true,if_false] at hesc
   rw[hesc] at hd' hp'
   have hd2:(cod x).drop p'=c::(ax5 r++34::tl):=hd'
   obtain⟨f1,f2,f3⟩:=a47 hd2
   rw[hl] at f2
   rw[Bool.or_eq_false_iff] at q
   refine a32 400 false X G S (by simp;assumption) ?_;clear S;kbo_bools
   kd_subs
   refine a70 (a72 f1) (by lia) (by exact ngE) (by exact Int.ofNat_lt.mpr (by keq_rows)) ?_;intro tki
   kd_subs
   refine a32 400 false X G S (show ((⟨#[c]⟩:Str)==Str.ofString "\"")=false from q.1) ?_;clear S;kbo_bools
   kd_subs
   refine a32 400 false X G S (show ((⟨#[c]⟩:Str)==Str.ofString "\\")=false from q.2) ?_;clear S;kbo_bools
   kd_subs
   refine a02 0 S rfl (szE (leT (by keq_rows))) ?_;kcj_m
   kd_subs
   dsimp+zetaDelta only at S
   rw[show ((p':Int)+1)=((p'+1:Nat):Int) by exact rfl] at S
   exact nx (m:=r.length) (by simp) ⟨p'+1,cs1++[c],r,_,tk,_,rfl,by rw[hcs12];simp,by simp at hp';lia,f3,by rw[List.map_append];exact a13 hv (.cons _ _ .nil),(((S.front (x:="self") rfl).front (x:="start") rfl).front (x:="letters") rfl).front (x:="at") rfl⟩
  ·rw [q] at hesc
   simp only[if_true] at hesc
   rw[hesc] at hd' hp'
   have hd2:(cod x).drop p'=92::(c::(ax5 r++34::tl)):=hd'
   obtain⟨f1,f2,f3⟩:=a47 hd2
   obtain⟨f4,f5,f6⟩:=a47 f3
   rw[hl] at f2 f5
   refine a32 400 false X G S (by simp;assumption) ?_;clear S;kbo_bools
   kd_subs
   refine a70 (a72 f1) (by lia) (by exact ngE) (by exact Int.ofNat_lt.mpr (by keq_rows)) ?_;intro tki
   kd_subs
   dsimp+zetaDelta only at S
   rw[show ((p':Int)+1)=((p'+1:Nat):Int) by exact rfl] at S ⊢
   rw[show (((p'+1:Nat):Int)+1)=((p'+1+1:Nat):Int) by exact rfl]
   refine a63 (ah3 f3) S (szE (ltl (by keq_rows))) ?_;clear S;intro h tko t S
   kd_subs
   cases q2:isQ c
   ·have q3:isB c=true:=by rw[q2] at q;exact q
    rw[show ((⟨#[c]⟩:Str) !=Str.ofString "\"")=true by show (!isQ c)=true;rw[q2];rfl]
    kd_subs
    refine a32 400 false X G S (show ((⟨#[c]⟩:Str) !=Str.ofString "\\")=false by show (!isB c)=false;rw[q3];rfl) ?_;clear S;kbo_bools
    kd_subs
    refine a02 0 S rfl (szE (leT (by keq_rows))) ?_;kcj_m
    kd_subs
    dsimp+zetaDelta only at S
    rw[show (((p'+1:Nat):Int)+1)=((p'+1+1:Nat):Int) by exact rfl] at S
    exact nx (m:=r.length) (by simp) ⟨p'+1+1,cs1++[c],r,_,tk,_,rfl,by rw[hcs12];simp,by simp at hp';lia,f6,by rw[List.map_append];exact a13 hv (.cons _ _ .nil),(((S.front (x:="self") rfl).front (x:="start") rfl).front (x:="letters") rfl).front (x:="at") rfl⟩
   ·rw [show ((⟨#[c]⟩:Str) !=Str.ofString "\"")=false by show (!isQ c)=false;rw[q2];rfl]
    kd_subs
    refine a02 0 S rfl (szE (leT (by keq_rows))) ?_;kcj_m
    kd_subs
    dsimp+zetaDelta only at S
    rw[show (((p'+1:Nat):Int)+1)=((p'+1+1:Nat):Int) by exact rfl] at S
    exact nx (m:=r.length) (by simp) ⟨p'+1+1,cs1++[c],r,_,tk,_,rfl,by rw[hcs12];simp,by simp at hp';lia,f6,by rw[List.map_append];exact a13 hv (.cons _ _ .nil),(((S.front (x:="self") rfl).front (x:="start") rfl).front (x:="letters") rfl).front (x:="at") rfl⟩
end
section
inductive TK where
 |op |vop |cl |mk (m:Mk)|at (g:Dt)
noncomputable def TK.word:TK->Str
 | .op=>Str.ofString "(" | .vop=>Str.ofString "#(" | .cl=>Str.ofString ")" | .mk m=>m.sign
 | .at (.int U)=>Str.ofString "number" | .at (.sym _)=>Str.ofString "symbol" | .at (.text _)=>Str.ofString "string" | .at _=>Str.ofString "char"
noncomputable def TK.cds:TK->List Nat
 | .op=>[40]| .vop=>[35,40]| .cl=>[41]| .mk .quote=>[39]| .mk .quasi=>[96]| .mk .unq=>[44]| .mk .splice=>[44,64]
 | .at (.int n)=>cod (a28 n 10)| .at (.sym s)=>cod s | .at (.text cs)=>34::(ax5 cs++[34])| .at (.char c)=>[35,92,c]| .at _=>[]
noncomputable def TK.val (tb:TB) (d:Bas):Value->TK->Prop
 |v,.at (.int n)=>∃tv,v= .int n tv
 |v,.at (.sym s)=>∃tv,v= .str s tv
 |v,.at (.text cs)=>Rep tb d v (.text cs)
 |v,.at (.char c)=>Rep tb d v (.char c)
 |v,U=>v= .none
noncomputable def TK.ok:TK->Prop
 | .at (.int n)=>-20<=n/\n<20
 | .at (.sym s)=>s∈names/\aa9 s=true
 | .at (.text cs)=>cs.length<=500
 | .at (.char U)=>True
 | .at U=>False
 | _=>True
noncomputable def atC (c:Nat):Bool:=(⟨#[c]⟩:Str)==Str.ofString "@"
noncomputable def TK.fol:TK->List Nat->Prop
 | .at (.text U),V=>True
 | .at U,tl=>∀c r,tl=c::r->inS ⟨#[c]⟩ ar6=true
 | .mk .unq,tl=>∀c r,tl=c::r->atC c=false
 |U,V=>True
noncomputable def b55 (c:Nat):Bool:=aY2 c&& !inS ⟨#[c]⟩ (Str.ofString "()'`")&& !((⟨#[c]⟩:Str)==Str.ofString ",")&& !((⟨#[c]⟩:Str)==Str.ofString "\"")&& !((⟨#[c]⟩:Str)==Str.ofString "#")&& !atC c
noncomputable def fst1 (s:Str):Bool:=match cod s with |c::_=>b55 c |[]=>false
theorem bh4:names.all (λs=>!aa9 s||fst1 s)=true:=by decide+kernel
theorem bh5:(List.range 40).all (λk=>fst1 (a28 ((k:Int) -20) 10))=true:=by decide+kernel
theorem bc7 {s:Str} (h:fst1 s=true):X2 λc r=>cod s=c::r/\b55 c=true:=by
 unfold fst1 at h
 cases q:cod s with
 |nil=>rw[q] at h;cases h
 |cons c r=>rw[q] at h;exact⟨c,r,rfl,h⟩
theorem aX8 {s:Str} (hs:s∈names) (hr:aa9 s=true):X2 λc r=>cod s=c::r/\b55 c=true:=by
 have:=List.all_eq_true.mp bh4 s hs
 rw[hr,Bool.not_true,Bool.false_or] at this
 exact bc7 this
theorem b06 {n:Int} (h1: -20<=n) (h2:n<20):X2 λc r=>cod (a28 n 10)=c::r/\b55 c=true:=by
 have:=List.all_eq_true.mp bh5 (n+20).toNat (List.mem_range.mpr (by lia))
 rw[show (((n+20).toNat:Int) -20)=n by lia] at this
 exact bc7 this
theorem TK.fst {tk:TK} (ok:tk.ok):X2 λc r=>A3 (tk.cds=c::r) (aY2 c=true) (atC c=false):=by
 have f:∀c,b55 c=true->aY2 c=true/\atC c=false:=λc h=>by
  unfold b55 at h
  simp only[Bool.and_eq_true,Bool.not_eq_true'] at h
  exact⟨h.1.1.1.1.1,h.2⟩
 induction tk using TK.casesOn with
 |op=>exact⟨_,_,rfl,by decide+kernel,by decide+kernel⟩
 |vop=>exact⟨_,_,rfl,by decide+kernel,by decide+kernel⟩
 |cl=>exact⟨_,_,rfl,by decide+kernel,by decide+kernel⟩
 |mk m=>induction m using Mk.casesOn<;>exact⟨_,_,rfl,by decide+kernel,by decide+kernel⟩
 |«at» g=>
  induction g using Dt.casesOn with
  |int n=>obtain⟨c,r,h1,h2⟩:=b06 ok.1 ok.2;exact⟨c,r,h1,(f c h2).1,(f c h2).2⟩
  |sym s=>obtain⟨c,r,h1,h2⟩:=aX8 ok.1 ok.2;exact⟨c,r,h1,(f c h2).1,(f c h2).2⟩
  |text cs=>exact⟨_,_,rfl,by decide+kernel,by decide+kernel⟩
  |char c=>exact⟨_,_,rfl,by decide+kernel,by decide+kernel⟩
  | _=>exact ok.elim
theorem aT2 {x:Str} {p:Nat} (hp:p<=x.length):cod (Txt.slice x (some (p:Int)) (some ((p+1:Nat):Int)))=((cod x).drop p).take 1:=by
 rw[aA3 hp,Nat.add_sub_cancel_left]
theorem aE9 {xs:List Nat} {p k:Nat} {r:List Nat} (h:xs.drop p=List.replicate k 32++r):xs.drop (p+k)=r:=by
 rw[<-List.drop_drop,h,List.drop_left' (by simp)]
theorem bn3:(⟨#[40]⟩:Str)=Str.ofString "(":=ap9 (by decide+kernel)
theorem bn4:(⟨#[41]⟩:Str)=Str.ofString ")":=ap9 (by decide+kernel)
theorem bn1:(⟨#[39]⟩:Str)=Str.ofString "'":=ap9 (by decide+kernel)
theorem bn2:(⟨#[96]⟩:Str)=Str.ofString "`":=ap9 (by decide+kernel)
theorem bc2:(Str.ofString ",").length=1:=by decide+kernel
theorem bc1:(Str.ofString ",@").length=2:=by decide+kernel
noncomputable abbrev br3 (w:World) (b:Heap) (fr d:Bas) (tb:TB) (lx dl:Addr) (x:Str) (u0 u1:Tok) (tk:TK) (p:Nat) (q:Value) (h':Heap):Prop:=
 aI2 w b fr d lx dl x u0 u1 tk.word (λv d'=>TK.val tb d' v tk) p (p+tk.cds.length) q h'
theorem aR8 (X:a01 w K b) (G:KOk K) (room:a04 A 10) (hh:A.handled=none) (hb:Sub (Bas.of b) fr) {tb:TB} {lx dl:Addr} {x:Str} {u0 u1 tq:Tok} {p k:Nat} {tk:TK} {tl:List Nat} (hx:x.length<100000) (ok:tk.ok) (fol:tk.fol tl) (hd:(cod x).drop p=List.replicate k 32++(tk.cds++tl)) (hp:p<=x.length)
  (T:Sit w.params b (fr.or d) (ak1 lx dl x u0 u1 p tq) h):
  a07 w A z (.ref 963) [.ref lx] h t (br3 w b fr d tb lx dl x u0 u1 tk (p+k)):=by
 obtain⟨c,r,hc,hst,_⟩:=TK.fst ok
 have hsk:=aE9 hd
 have hd1:(cod x).drop (p+k)=c::(r++tl):=by rw[hsk,hc];rfl
 obtain⟨e1,e2,e3⟩:=a47 hd1
 have hl:=a40 x
 rw[hl] at e2
 refine en (binds:=[("self",.ref lx)]) G.bt8 X T room ?_
 kd_in
 refine a05 [true] S (λg' hs T=>aE8 X G (room.deeper (by decide)) hh hx hd hp (by rw[hc];intro c' r' q;cases q;exact hst) T) ?_
 clear S;rintro q h t fp' S ⟨tks,rfl,rfl⟩
 kcf_m
 kd_subs
 refine a09 (by lia) ?_;intro tkl
 kd_subs
 refine a32 400 false X G S (by simp;lia) ?_;clear S;kbo_bools
 kd_subs
 refine a70 (a72 e1) (by lia) (by exact ngE) (by exact Int.ofNat_lt.mpr (by keq_rows)) ?_;intro tki
 have fnd:∀{h:Heap} {t:Nat} {wd:Str} {tw tv:Tok} {e:Int},tk.word=wd->(∀d',tk.val tb d' .none)->e=((p+k+tk.cds.length:Nat):Int)->∀{A':Around},a04 A' 3->∀{fr':Bas},Sit w.params b (fr'.or d) (ak1 lx dl x u0 u1 (p+k) tks) h->
   a07 w A' z (.ref 970) [.ref lx,.str wd tw,.none,.int e tv] h t (br3 w b fr' d tb lx dl x u0 u1 tk (p+k)):=by
  rintro h t wd tw tv e rfl hv rfl A' room' fr' T
  refine codeAny_mono (a85 X G room' T) ?_
  rintro r s' ⟨v,h',t',rfl,rfl,d',fp',B,a,ts,rfl,I,rfl⟩
  exact⟨_,_,_,rfl,rfl,d',_,B,a,_,_,ts,_,_,rfl,hv d',I,rfl⟩
 have fin:∀{h:Heap} {t:Nat} {v:Value} {d':Bas} {fp':FP} {l:List (Str × Value)},aa2 fr d d'->St w.params b (fr.or d') cx.L l fp' h->(X6 λa tw v' ts te tk'=>A4 (v= .ref a) (tk.val tb d' v') (a00 d' a 874 (a23 (.str tk.word tw) v' (.int ((p+k:Nat):Int) ts) (.int ((p+k+tk.cds.length:Nat):Int) te))) (fp'=ak1 lx dl x u0 u1 (p+k+tk.cds.length) tk'))->
   cx.R (.ret v) (sh z h t):=λG1 S P=>rT.s ⟨_,_,G1.back S.sit,P⟩
 induction tk using TK.casesOn with
 |op=>
  obtain⟨rfl,rfl⟩:40=c/\[]=r:=List.cons.inj hc
  kd_subs
  rw[bn3]
  refine a45 S hb (λfr' hs T=>fnd rfl (λU=>rfl) rfl (room.deeper (by decide)) T) ?_
  clear S;rintro q h t d1 fp' G1 S P
  exact fin G1 S P
 |cl=>
  obtain⟨rfl,rfl⟩:41=c/\[]=r:=List.cons.inj hc
  kd_subs
  rw[bn4]
  refine a45 S hb (λfr' hs T=>fnd rfl (λU=>rfl) rfl (room.deeper (by decide)) T) ?_
  clear S;rintro q h t d1 fp' G1 S P
  exact fin G1 S P
 |vop=>
  obtain⟨rfl,rfl⟩:35=c/\[40]=r:=List.cons.inj hc
  kd_subs
  refine a45 S hb (λfr' hs T=>aS4 X G (room.deeper (by decide)) hh (hb.trans (Sub.trans a29 hs)) hx hd1 T) ?_
  clear S;rintro q h t d1 fp' G1 S P
  exact fin G1 S P
 |mk m=>
  induction m using Mk.casesOn with
  |quote=>
   obtain⟨rfl,rfl⟩:39=c/\[]=r:=List.cons.inj hc
   kd_subs
   rw[bn1]
   refine a45 S hb (λfr' hs T=>fnd rfl (λU=>rfl) rfl (room.deeper (by decide)) T) ?_
   clear S;rintro q h t d1 fp' G1 S P
   exact fin G1 S P
  |quasi=>
   obtain⟨rfl,rfl⟩:96=c/\[]=r:=List.cons.inj hc
   kd_subs
   rw[bn2]
   refine a45 S hb (λfr' hs T=>fnd rfl (λU=>rfl) rfl (room.deeper (by decide)) T) ?_
   clear S;rintro q h t d1 fp' G1 S P
   exact fin G1 S P
  |unq=>
   obtain⟨rfl,rfl⟩:44=c/\[]=r:=List.cons.inj hc
   kd_subs
   rw[show (((p+k:Nat):Int)+1)=((p+k+1:Nat):Int) by exact rfl,show (((p+k:Nat):Int)+2)=((p+k+1+1:Nat):Int) by exact rfl]
   refine aj3 S (szE (ltl (by keq_rows))) ?_;clear S;intro h tko t S
   have hne:(Txt.slice x (some ((p+k+1:Nat):Int)) (some ((p+k+1+1:Nat):Int))==Str.ofString "@")=false:=by
    have hs1:=aT2 (x:=x) (p:=p+k+1) (by exact Nat.succ_le_of_lt (by keq_rows))
    rw[e3] at hs1
    cases q:(Txt.slice x (some ((p+k+1:Nat):Int)) (some ((p+k+1+1:Nat):Int))==Str.ofString "@") with
    |false=>rfl
    |true=>
     have e:=eq_of_beq q
     rw[e,show cod (Str.ofString "@")=[64] by decide+kernel] at hs1
     induction tl using List.casesOn with
     |nil=>simp at hs1
     |cons c2 r2=>
      have:=fol c2 r2 rfl
      simp at hs1
      subst hs1
      exact absurd this (by decide+kernel)
   kd_subs
   refine a32 400 false X G S hne ?_;clear S;kbo_bools
   kd_subs
   refine a09 (by rw[bc2];decide) ?_;intro tkn
   kd_subs
   refine a45 S hb (λfr' hs T=>fnd rfl (λU=>rfl) (by rw[bc2];rfl) (room.deeper (by decide)) T) ?_
   clear S;rintro q h t d1 fp' G1 S P
   exact fin G1 S P
  |splice=>
   obtain⟨rfl,rfl⟩:44=c/\[64]=r:=List.cons.inj hc
   kd_subs
   rw[show (((p+k:Nat):Int)+1)=((p+k+1:Nat):Int) by exact rfl,show (((p+k:Nat):Int)+2)=((p+k+1+1:Nat):Int) by exact rfl]
   refine aj3 S (szE (ltl (by keq_rows))) ?_;clear S;intro h tko t S
   have e4:(cod x).drop (p+k+1)=64::tl:=e3
   rw[ah3 e4]
   kd_subs
   refine a09 (by rw[bc1];decide) ?_;intro tkn
   kd_subs
   refine a45 S hb (λfr' hs T=>fnd rfl (λU=>rfl) (by rw[bc1];rfl) (room.deeper (by decide)) T) ?_
   clear S;rintro q h t d1 fp' G1 S P
   exact fin G1 S P
 |«at» g=>
  induction g using Dt.casesOn with
  |int n=>
   have hf:b55 c=true:=by
    obtain⟨c',r',h1,h2⟩:=b06 ok.1 ok.2
    rw[show TK.cds (.at (.int n))=_ from h1] at hc
    obtain⟨rfl,_⟩:=List.cons.inj hc
    exact h2
   unfold b55 at hf
   simp only[Bool.and_eq_true,Bool.not_eq_true'] at hf
   obtain⟨⟨⟨⟨⟨_,q2⟩,q3⟩,q4⟩,q5⟩,_⟩:=hf
   kd_subs
   refine a32 400 false X G S q2 ?_;clear S;kbo_bools
   kd_subs
   refine a32 400 false X G S q3 ?_;clear S;kbo_bools
   kd_subs
   refine a32 400 false X G S q4 ?_;clear S;kbo_bools
   kd_subs
   refine a32 400 false X G S q5 ?_;clear S;kbo_bools
   kd_subs
   refine a45 S hb (λfr' hs T=>ax0 X G (room.deeper (by decide)) hh (hb.trans (Sub.trans a29 hs)) hx ok.1 ok.2 hsk (by exact Nat.le_of_lt (by keq_rows)) fol T) ?_
   clear S;rintro q h t d1 fp' G1 S P
   exact fin G1 S P
  |sym s=>
   have hf:b55 c=true:=by
    obtain⟨c',r',h1,h2⟩:=aX8 ok.1 ok.2
    rw[show TK.cds (.at (.sym s))=_ from h1] at hc
    obtain⟨rfl,_⟩:=List.cons.inj hc
    exact h2
   unfold b55 at hf
   simp only[Bool.and_eq_true,Bool.not_eq_true'] at hf
   obtain⟨⟨⟨⟨⟨_,q2⟩,q3⟩,q4⟩,q5⟩,_⟩:=hf
   kd_subs
   refine a32 400 false X G S q2 ?_;clear S;kbo_bools
   kd_subs
   refine a32 400 false X G S q3 ?_;clear S;kbo_bools
   kd_subs
   refine a32 400 false X G S q4 ?_;clear S;kbo_bools
   kd_subs
   refine a32 400 false X G S q5 ?_;clear S;kbo_bools
   kd_subs
   refine a45 S hb (λfr' hs T=>aw9 X G (room.deeper (by decide)) hh (hb.trans (Sub.trans a29 hs)) hx ok.1 ok.2 hsk (by exact Nat.le_of_lt (by keq_rows)) fol T) ?_
   clear S;rintro q h t d1 fp' G1 S P
   exact fin G1 S P
  |text cs=>
   obtain⟨rfl,rfl⟩:34=c/\ax5 cs++[34]=r:=List.cons.inj hc
   have hd2:(cod x).drop (p+k)=34::(ax5 cs++34::tl):=by rw[hd1];simp
   kd_subs
   refine a45 S hb (λfr' hs T=>aK4 (tb:=tb) X G (room.deeper (by decide)) hh (hb.trans (Sub.trans a29 hs)) hx ok hd2 T) ?_
   clear S;rintro q h t d1 fp' G1 S P
   have e:(TK.at (.text cs)).cds.length=(ax5 cs).length+2:=by show (34::(ax5 cs++[34])).length=_;simp
   rw[show p+k+(ax5 cs).length+2=p+k+(TK.at (.text cs)).cds.length by lia] at P
   exact fin G1 S P
  |char c1=>
   obtain⟨rfl,rfl⟩:35=c/\[92,c1]=r:=List.cons.inj hc
   kd_subs
   refine a45 S hb (λfr' hs T=>aY8 (tb:=tb) X G (room.deeper (by decide)) hh (hb.trans (Sub.trans a29 hs)) hx hd1 fol T) ?_
   clear S;rintro q h t d1 fp' G1 S P
   exact fin G1 S P
  | _=>exact ok.elim
theorem aX6 (X:a01 w K b) (G:KOk K) (room:a04 A 4) (hh:A.handled=none) {lx dl:Addr} {x:Str} {u0 u1 tq:Tok} {p k:Nat} (hx:x.length<100000) (hd:(cod x).drop p=List.replicate k 32) (hp:p<=x.length)
  (T:Sit w.params b (fr.or d) (ak1 lx dl x u0 u1 p tq) h):
  a07 w A z (.ref 963) [.ref lx] h t (aI2 w b fr d lx dl x u0 u1 (Str.ofString "end") (λv U=>v= .none) (p+k) (p+k)):=by
 have hl:=a40 x
 have e:p+k=x.length:=by
  have:=congrArg List.length hd
  simp at this
  lia
 refine en (binds:=[("self",.ref lx)]) G.bt8 X T room ?_
 kd_in
 refine a05 [true] S (λg' hs T=>aE8 (tl:=[]) X G (room.deeper (by decide)) hh hx (by rw[List.append_nil];exact hd) hp (by intro c' r' q;cases q) T) ?_
 clear S;rintro q h t fp' S ⟨tks,rfl,rfl⟩
 try kcf_m
 kd_subs
 refine a09 (by lia) ?_;intro tkl
 kd_subs
 refine a32 400 true X G S (by simp;lia) ?_;clear S;kbo_bools
 kd_subs
 refine aG2 X G (room.deeper (by decide)) S ?_;clear S;intro a da h t S
 obtain⟨d1,G1,I1,S⟩:=a33 S
 exact rT.s ⟨d1,_,G1.back S.sit,a,_,_,_,_,_,rfl,rfl,I1,rfl⟩
end
section
inductive FrA where
 |lst (gs:List Dt)|vec (gs:List Dt)|quo (m:Mk)
noncomputable def b17 (s:Str):Option Mk:=if s==Mk.quote.name then some .quote else if s==Mk.quasi.name then some .quasi else if s==Mk.unq.name then some .unq else if s==Mk.splice.name then some .splice else none
theorem b16 (m:Mk):b17 m.name=some m:=by
 have e:(match b17 m.name with |some m'=>m'.idx==m.idx |none=>false)=true:=by induction m using Mk.casesOn<;>decide+kernel
 cases q:b17 m.name with
 |none=>rw[q] at e;cases e
 |some m'=>
  rw[q] at e
  have:m'.idx=m.idx:=by simpa using e
  rw[<-Mk.all_idx m,<-Mk.all_idx m',this]
theorem b15 {s:Str} {m:Mk} (h:b17 s=some m):s=m.name:=by
 unfold b17 at h
 split at h
 ·rename_i q;cases h;exact eq_of_beq q
 ·split at h
  ·rename_i q;cases h;exact eq_of_beq q
  ·split at h
   ·rename_i q;cases h;exact eq_of_beq q
   ·split at h
    ·rename_i q;cases h;exact eq_of_beq q
    ·cases h
noncomputable def an8:List Dt->Option Dt
 |[]=>some .nil
 |[.sym s,a,c]=>(b17 s).map λm=>.q2 m a c
 | _=>none
noncomputable def unq:List FrA->Dt->Dt × List FrA
 | .quo m::st,g=>unq st (.q1 m g)
 |st,g=>(g,st)
noncomputable def dl (st:List FrA) (g:Dt):Dt⊕List FrA:=match unq st g with
 |(g',[])=>.inl g'
 |(g',.lst gs::s)=>.inr (.lst (gs++[g'])::s)
 |(g',.vec gs::s)=>.inr (.vec (gs++[g'])::s)
 |(U,s)=>.inr s
noncomputable def b71 (st:List FrA):TK->Option (Dt⊕List FrA)
 | .op=>some (.inr (.lst []::st))
 | .vop=>some (.inr (.vec []::st))
 | .mk m=>some (.inr (.quo m::st))
 | .cl=>match st with
  | .lst gs::s=>(an8 gs).map (dl s)
  | .vec [a,c]::s=>some (dl s (.vec a c))
  | _=>none
 | .at g=>some (dl st g)
noncomputable def run:List FrA->List (Nat × TK)->Option Dt
 |U,[]=>none
 |st,(U,tk)::r=>match b71 st tk with
  |some (.inr st')=>run st' r
  |some (.inl g)=>if r.isEmpty then some g else none
  |none=>none
noncomputable def toks:Nat->Dt->List (Nat × TK)
 |k,.nil=>[(k,.op),(0,.cl)]
 |k,.vec a c=>(k,.vop)::(toks 0 a++(toks 1 c++[(0,.cl)]))
 |k,.q1 m a=>(k,.mk m)::toks 0 a
 |k,.q2 m a c=>(k,.op)::(0,.at (.sym m.name))::(toks 1 a++(toks 1 c++[(0,.cl)]))
 |k,.int n=>[(k,.at (.int n))]
 |k,.sym s=>[(k,.at (.sym s))]
 |k,.text cs=>[(k,.at (.text cs))]
 |k,.char c=>[(k,.at (.char c))]
 |U,V=>[]
theorem tkV {k:Nat} {a c:Dt}:toks k (.vec a c)=(k,.vop)::(toks 0 a++(toks 1 c++[(0,.cl)])):=rfl
theorem tkQ {k:Nat} {m:Mk} {a:Dt}:toks k (.q1 m a)=(k,.mk m)::toks 0 a:=rfl
theorem tkR {k:Nat} {m:Mk} {a c:Dt}:toks k (.q2 m a c)=(k,.op)::(0,.at (.sym m.name))::(toks 1 a++(toks 1 c++[(0,.cl)])):=rfl
noncomputable def Dt.rd:Dt->Prop
 | .int n=>-20<=n/\n<20
 | .sym s=>s∈names/\aa9 s=true
 | .text cs=>cs.length<=500
 | .char U=>True
 | .nil=>True
 | .vec a c=>a.rd/\c.rd
 | .q1 U a=>a.rd
 | .q2 U a c=>a.rd/\c.rd
 | _=>False
noncomputable def bi9 (o:Dt⊕List FrA) (r:List (Nat × TK)):Option Dt:=match o with
 | .inr st'=>run st' r
 | .inl g=>if r.isEmpty then some g else none
theorem a79 {st:List FrA} {k:Nat} {tk:TK} {r:List (Nat × TK)} {o:Dt⊕List FrA} (h:b71 st tk=some o):run st ((k,tk)::r)=bi9 o r:=by
 show (match b71 st tk with |some (.inr st')=>run st' r |some (.inl g)=>if r.isEmpty then some g else none |none=>none)=_
 rw[h]
 cases o<;>rfl
theorem aj4:∀(g:Dt),g.rd->∀(k:Nat) (st:List FrA) (r:List (Nat × TK)),run st (toks k g++r)=bi9 (dl st g) r
 | .int n,U,k,st,r=>a79 rfl
 | .sym n,U,k,st,r=>a79 rfl
 | .text n,U,k,st,r=>a79 rfl
 | .char n,U,k,st,r=>a79 rfl
 | .nil,U,k,st,r=>(a79 (k:=k) (tk:=.op) (r:=(0,.cl)::r) rfl).trans (a79 (k:=0) (tk:=.cl) rfl)
 | .vec a c,h,k,st,r=>by
  show run (.vec []::st) ((toks 0 a++(toks 1 c++[(0,.cl)]))++r)=_
  rw[List.append_assoc,aj4 a h.1]
  show run (.vec ([]++[a])::st) _=_
  rw[List.append_assoc,aj4 c h.2]
  exact a79 (k:=0) (tk:=.cl) rfl
 | .q1 m a,h,k,st,r=>by
  show run (.quo m::st) (toks 0 a++r)=_
  rw[aj4 a h]
  rfl
 | .q2 m a c,h,k,st,r=>by
  show run (.lst ([]++[.sym m.name])::st) ((toks 1 a++(toks 1 c++[(0,.cl)]))++r)=_
  rw[List.append_assoc,aj4 a h.1]
  show run (.lst ([]++[.sym m.name]++[a])::st) ((toks 1 c++[(0,.cl)])++r)=_
  rw[List.append_assoc (toks 1 c),aj4 c h.2]
  show run (.lst [.sym m.name,a,c]::st) ((0,.cl)::r)=_
  refine a79 ?_
  show ((b17 m.name).map λm=>Dt.q2 m a c).map (dl st)=_
  rw[b16]
  rfl
 | .raw U,h,V,U1,V1=>h.elim
 | .eof,h,U,V,U1=>h.elim
 | .unspec,h,U,V,U1=>h.elim
 | .box,h,U,V,U1=>h.elim
 | .promise,h,U,V,U1=>h.elim
 | .port U,h,V,U1,V1=>h.elim
 | .prim,h,U,V,U1=>h.elim
noncomputable def aw7:List (Nat × TK)->List Nat
 |[]=>[]
 |(k,tk)::r=>List.replicate k 32++(tk.cds++aw7 r)
theorem aA6:∀xs ys:List (Nat × TK),aw7 (xs++ys)=aw7 xs++aw7 ys
 |[],ys=>rfl
 |(k,tk)::r,ys=>by simp only[List.cons_append,aw7,aA6 r ys,List.append_assoc]
theorem bq4:cod (Str.ofString "(")=[40]:=by decide+kernel
theorem bi0:cod (Str.ofString "#(")=[35,40]:=by decide+kernel
theorem bd1:cod (Str.ofString ")")=[41]:=by decide+kernel
theorem bc9:cod (Str.ofString " ")=[32]:=by decide+kernel
theorem bq6:cod (Str.ofString "#\\")=[35,92]:=by decide+kernel
theorem bq5:cod (Str.ofString "()")=[40,41]:=by decide+kernel
theorem b98 (m:Mk):cod m.sign=(TK.mk m).cds:=by induction m using Mk.casesOn<;>decide+kernel
theorem b72 {k:Nat} {tk:TK}:aw7 [(k,tk)]=List.replicate k 32++tk.cds:=by rw[aw7,aw7,List.append_nil]
theorem ad3:∀(g:Dt),g.rd->∀(k:Nat),aw7 (toks k g)=List.replicate k 32++cod (g.txt true true 10)
 | .int U,V,U1=>b72
 | .sym U,V,U1=>b72
 | .text n,U,V=>b72.trans (congrArg _ (aU9 n).symm)
 | .char n,U,k=>by rw[show toks k (.char n)=[(k,.at (.char n))] from rfl,b72,show (Dt.char n).txt true true 10=Str.ofString "#\\"++⟨#[n]⟩ from rfl,al7,bq6];rfl
 | .nil,U,k=>by rw[show (Dt.nil).txt true true 10=Str.ofString "()" from rfl,bq5];rfl
 | .vec a c,h,k=>by
  simp only[tkV,tkQ,tkR,aw7,aA6,ad3 a h.1,ad3 c h.2,txV,txQ,txR,txS,al7,bi0,bc9,bd1]
  simp [show TK.cds .vop=[35,40] from rfl,show TK.cds .cl=[41] from rfl,show TK.cds .op=[40] from rfl]
 | .q1 m a,h,k=>by
  simp only[tkV,tkQ,tkR,aw7,ad3 a h,txV,txQ,txR,txS,if_true,al7,b98]
  simp
 | .q2 m a c,h,k=>by
  simp only[tkV,tkQ,tkR,aw7,aA6,ad3 a h.1,ad3 c h.2,txV,txQ,txR,txS,al7,bq4,bc9,bd1]
  simp [show TK.cds .cl=[41] from rfl,show TK.cds .op=[40] from rfl,show (TK.at (Dt.sym m.name)).cds=cod m.name from rfl]
 | .raw U,h,V=>h.elim
 | .eof,h,U=>h.elim
 | .unspec,h,U=>h.elim
 | .box,h,U=>h.elim
 | .promise,h,U=>h.elim
 | .port U,h,V=>h.elim
 | .prim,h,U=>h.elim
noncomputable def aG0:List (Nat × TK)->Prop
 |[]=>True
 |(U,tk)::r=>tk.ok/\tk.fol (aw7 r)/\aG0 r
noncomputable def Dlm (xs:List Nat):Prop:=∀c r,xs=c::r->inS ⟨#[c]⟩ ar6=true
theorem bh9:Dlm []:=λc r e=>by cases e
theorem dlm32 (r:List Nat):Dlm (32::r):=λc r e=>by cases e;decide+kernel
theorem bq2 (r:List Nat):Dlm (41::r):=λc r e=>by cases e;decide+kernel
theorem aX5:∀(g:Dt),g.rd->∀k,X2 λtk r=>toks k g=(k,tk)::r/\tk.ok
 | .int n,h,k=>⟨_,_,rfl,h⟩
 | .sym n,h,k=>⟨_,_,rfl,h⟩
 | .text n,h,k=>⟨_,_,rfl,h⟩
 | .char n,h,k=>⟨_,_,rfl,h⟩
 | .nil,U,k=>⟨_,_,rfl,trivial⟩
 | .vec a c,h,k=>⟨_,_,rfl,trivial⟩
 | .q1 m a,h,k=>⟨_,_,rfl,trivial⟩
 | .q2 m a c,h,k=>⟨_,_,rfl,trivial⟩
 | .raw U,h,V=>h.elim
 | .eof,h,U=>h.elim
 | .unspec,h,U=>h.elim
 | .box,h,U=>h.elim
 | .promise,h,U=>h.elim
 | .port U,h,V=>h.elim
 | .prim,h,U=>h.elim
theorem bf9 (m:Mk):Dt.rd (.sym m.name):=⟨m.name_mem,av0 m⟩
theorem b37 {g:Dt} (h:g.rd) (k:Nat) (r:List (Nat × TK)):Dlm (aw7 (toks (k+1) g++r)):=by
 obtain⟨tk,r',e,_⟩:=aX5 g h (k+1)
 rw[e]
 show Dlm (32::_)
 exact dlm32 _
theorem a83:∀(g:Dt),g.rd->∀(k:Nat) (r:List (Nat × TK)),Dlm (aw7 r)->aG0 r->aG0 (toks k g++r)
 | .int n,h,k,r,hd,hr=>⟨h,hd,hr⟩
 | .sym n,h,k,r,hd,hr=>⟨h,hd,hr⟩
 | .text n,h,k,r,hd,hr=>⟨h,trivial,hr⟩
 | .char n,h,k,r,hd,hr=>⟨h,hd,hr⟩
 | .nil,U,k,r,hd,hr=>⟨trivial,trivial,trivial,trivial,hr⟩
 | .vec a c,h,k,r,hd,hr=>by
  refine⟨trivial,trivial,?_⟩
  show aG0 ((toks 0 a++(toks 1 c++[(0,.cl)]))++r)
  rw[List.append_assoc,List.append_assoc]
  refine a83 a h.1 0 _ (b37 h.2 0 _) (a83 c h.2 1 _ (bq2 _) ⟨trivial,trivial,hr⟩)
 | .q1 m a,h,k,r,hd,hr=>by
  refine⟨trivial,?_,a83 a h 0 r hd hr⟩
  induction m using Mk.casesOn with
  |unq=>
   obtain⟨tk,r',e,ok⟩:=aX5 a h 0
   obtain⟨c,r2,e2,_,e3⟩:=TK.fst ok
   intro c' r3 q
   rw[e] at q
   have q:tk.cds++aw7 (r'++r)=c'::r3:=q
   rw[e2] at q
   cases q
   exact e3
  | _=>trivial
 | .q2 m a c,h,k,r,hd,hr=>by
  refine⟨trivial,trivial,bf9 m,?_,?_⟩
  ·show Dlm (aw7 ((toks 1 a++(toks 1 c++[(0,.cl)]))++r))
   rw[List.append_assoc];exact b37 h.1 0 _
  show aG0 ((toks 1 a++(toks 1 c++[(0,.cl)]))++r)
  rw[List.append_assoc,List.append_assoc]
  refine a83 a h.1 1 _ (b37 h.2 0 _) (a83 c h.2 1 _ (bq2 _) ⟨trivial,trivial,hr⟩)
 | .raw U,h,V,U1,V1,U2=>h.elim
 | .eof,h,U,V,U1,V1=>h.elim
 | .unspec,h,U,V,U1,V1=>h.elim
 | .box,h,U,V,U1,V1=>h.elim
 | .promise,h,U,V,U1,V1=>h.elim
 | .port U,h,V,U1,V1,U2=>h.elim
 | .prim,h,U,V,U1,V1=>h.elim
theorem aS5 {g:Dt} (h:g.rd):run [] (toks 0 g)=some g/\aG0 (toks 0 g)/\aw7 (toks 0 g)=cod (g.txt true true 10):=by
 refine⟨?_,?_,?_⟩
 ·have:=aj4 g h 0 [] []
  rw[List.append_nil] at this
  rw[this]
  rfl
 ·have:=a83 g h 0 [] bh9 trivial
  rw[List.append_nil] at this
  exact this
 ·rw [ad3 g h 0];rfl
end
section
noncomputable def au4 (a:FP) (is:List Nat):FP:=is.filterMap λi=>a[i]?
theorem au3 {a:FP} {is:List Nat} {p:Addr × AO} (h:p∈au4 a is):∃i∈is,a[i]?=some p:=List.mem_filterMap.mp h
theorem aF8 {a:FP} {is:List Nat}:∀c∈FP.cells (au4 a is),c∈FP.cells a:=λc hc=>by
 obtain⟨p,hp,hcp⟩:=List.mem_flatMap.mp hc
 obtain⟨i,_,e⟩:=au3 hp
 exact FP.cells_mem (List.mem_of_getElem? e) hcp
theorem aO9 {a:FP} (nd:(FP.cells a).Nodup):∀{is:List Nat},is.Nodup->(FP.cells (au4 a is)).Nodup
 |[],U=>by simp [au4,FP.cells]
 |i::is,hn=>by
  rw[List.nodup_cons] at hn
  have ih:=aO9 nd hn.2
  unfold au4
  rw[List.filterMap_cons]
  cases q:a[i]?with
  |none=>exact ih
  |some p=>
   show (FP.cells (p::au4 a is)).Nodup
   have ec:FP.cells (p::au4 a is)=p.2.cells p.1++FP.cells (au4 a is):=by unfold FP.cells;rw[List.flatMap_cons]
   rw[ec,List.nodup_append]
   refine⟨aG1 nd (List.mem_of_getElem? q),ih,λc h1 c2 h2 e=>?_⟩
   subst e
   obtain⟨p2,hp2,hc2⟩:=List.mem_flatMap.mp h2
   obtain⟨j,hj,e2⟩:=au3 hp2
   exact ae0 nd q e2 (λe=>hn.1 (e▸hj)) c h1 hc2
theorem St.pickT {P:Params} {a tl fp':FP} (S:St P b g L l (a++tl) h) (is:List Nat) (hn:is.Nodup:=by decide) (e:au4 a is=fp':=by rfl):St P b g L l (fp'++tl) h:=by
 subst e
 have sub:∀c∈FP.cells (au4 a is++tl),c∈FP.cells (a++tl):=λc hc=>by
  rw[a51] at hc ⊢
  rcases List.mem_append.mp hc with hc |hc
  ·exact List.mem_append_left _ (aF8 c hc)
  ·exact List.mem_append_right _ hc
 refine⟨S.ns,S.keep,S.base,S.above,S.out,⟨λp hp=>?_,λc hc=>S.own.off c (sub c hc),?_⟩,λq=>S.nL (sub _ q)⟩
 ·rcases List.mem_append.mp hp with hp |hp
  ·obtain ⟨i,_,e⟩:=au3 hp
   exact S.own.at_ p (List.mem_append_left _ (List.mem_of_getElem? e))
  ·exact S.own.at_ p (List.mem_append_right _ hp)
 ·have nd:=S.own.nd
  rw[a51,List.nodup_append] at nd ⊢
  exact⟨aO9 nd.1 hn,nd.2.1,λc h1 c2 h2 e=>nd.2.2 c (aF8 c h1) c2 h2 e⟩
theorem St.pick {P:Params} {fp':FP} (S:St P b g L l fp h) (is:List Nat) (hn:is.Nodup:=by decide) (e:au4 fp is=fp':=by rfl):St P b g L l fp' h:=by
 have:=(St.pickT (tl:=[]) (by rw[List.append_nil];exact S) is hn e)
 rwa [List.append_nil] at this
noncomputable abbrev rdP (rd dr lx tA fl:Addr) (frs:List Value):FP:=[(rd,.inst 1121 dr (a81 lx (.ref tA) fl)),(fl,.list frs)]
noncomputable def FrI (d:Bas) (f:Addr) (wd:Str) (ti:Addr):Prop:=X3 λtw sv tk=>handedIn sv=true/\a00 d f 1036 (a95 (.str wd tw) sv (.ref ti) 0 tk (.ref 44))
theorem FrI.sub {d d':Bas} {f ti:Addr} {wd:Str} (I:FrI d f wd ti) (k:Sub d d'):FrI d' f wd ti:=by
 obtain⟨a,c,e,q,r⟩:=I
 exact⟨a,c,e,q,r.sub k⟩
theorem aK8 (X:a01 w K b) (G:KOk K) (room:a04 A 6) (hh:A.handled=none) (hb:Sub (Bas.of b) fr) {rd dr lx tA fl f ti ad:Addr} {frs:List Value} {v:Value} (hz:frs.length<10000) (I:FrI d f (Str.ofString "quotation") ti)
  (T:Sit w.params b (fr.or d) (rdP rd dr lx tA fl (frs++[.ref f])++[(ti,.list [.ref ad])]) h):
  a07 w A z (.ref 1083) [.ref rd,v] h t (λq h'=>X2 λd' fp'=>a48 w.params b fr d d' fp' h'/\aj2 d' q [.ref ad,v] (.ref 44)/\fp'=rdP rd dr lx tA fl frs):=by
 obtain⟨tw,sv,tk,hsv,I⟩:=I
 have J:a00 (fr.or d) f 1036 (a95 (.str (Str.ofString "quotation") tw) sv (.ref ti) 0 tk (.ref 44)):=I.sub a12
 refine en (binds:=[("self",.ref rd),("datum",v)]) G.by7 X T room ?_
 kd_all
 dsimp only[List.reverse,List.reverseAux,rdP,List.cons_append,List.nil_append] at S
 kd_subs
 refine aF3 1 S rfl (szE (ltT (by keq_rows))) ?_;kcj_m
 kd_subs
 refine a27 (S.isList 2 rfl) (by decide) (by decide) rfl ?_
 kd_subs
 refine a03 [true] S hb (λfr' hs T=>a80 X G (room.deeper (by decide)) hh (by simp) T) ?_
 clear S;rintro q h t d1 fp' G1 S ⟨C,rfl⟩
 kcf_m
 exact rT.s ⟨d1,_,G1.back (S.pick [1,2]).sit,C,rfl⟩
theorem b81 (X:a01 w K b) (G:KOk K) (room:a04 A 5) {tl:FP} {rd dr lx tA fl tko:Addr} {frs:List Value} {v sv ev:Value} {tw:Tok} (hz:frs.length<10000) (hsv:handedIn sv=true) (I:a00 d tko 874 (a23 (.str (Str.ofString "(") tw) v sv ev))
  (T:Sit w.params b (fr.or d) (rdP rd dr lx tA fl frs++tl) h):
  a07 w A z (.ref 1090) [.ref rd,.ref tko] h t (λq h'=>X2 λd' fp'=>a48 w.params b fr d d' fp' h'/\X2 λf ti=>A3 (q= .bool true) (FrI d' f (Str.ofString "list") ti) (fp'=rdP rd dr lx tA fl (frs++[.ref f])++((ti,.list [])::tl))):=by
 have J:a00 (fr.or d) tko 874 (a23 (.str (Str.ofString "(") tw) v sv ev):=I.sub a12
 unfold a23 at J
 refine en (binds:=[("self",.ref rd),("token",.ref tko)]) G.bx0 X T room ?_
 kd_all
 dsimp only[List.reverse,List.reverseAux,rdP,List.cons_append,List.nil_append] at S
 kd_subs
 refine au8 X G (room.deeper (by decide)) S ?_;clear S;intro f df tk h t S
 obtain⟨d1,G1,I1,S⟩:=a33 S
 rename_i S0;clear S0
 kd_subs
 refine a02 2 S rfl (szE (ltl (by keq_rows))) ?_;kcj_m
 kd_subs
 exact rT.s ⟨d1,_,G1.back (St.pickT (a:=[_,_,_]) S [1,2,0]).sit,f,a,rfl,⟨_,_,_,hsv,I1⟩,rfl⟩
theorem b05 (X:a01 w K b) (G:KOk K) (room:a04 A 5) {tl:FP} {rd dr lx tA fl tko:Addr} {frs:List Value} {v sv ev:Value} {tw:Tok} (hz:frs.length<10000) (hsv:handedIn sv=true) (I:a00 d tko 874 (a23 (.str (Str.ofString "#(") tw) v sv ev))
  (T:Sit w.params b (fr.or d) (rdP rd dr lx tA fl frs++tl) h):
  a07 w A z (.ref 1090) [.ref rd,.ref tko] h t (λq h'=>X2 λd' fp'=>a48 w.params b fr d d' fp' h'/\X2 λf ti=>A3 (q= .bool true) (FrI d' f (Str.ofString "vector") ti) (fp'=rdP rd dr lx tA fl (frs++[.ref f])++((ti,.list [])::tl))):=by
 have J:a00 (fr.or d) tko 874 (a23 (.str (Str.ofString "#(") tw) v sv ev):=I.sub a12
 unfold a23 at J
 refine en (binds:=[("self",.ref rd),("token",.ref tko)]) G.bx0 X T room ?_
 kd_all
 dsimp only[List.reverse,List.reverseAux,rdP,List.cons_append,List.nil_append] at S
 kd_subs
 refine au8 X G (room.deeper (by decide)) S ?_;clear S;intro f df tk h t S
 obtain⟨d1,G1,I1,S⟩:=a33 S
 rename_i S0;clear S0
 kd_subs
 refine a02 2 S rfl (szE (ltl (by keq_rows))) ?_;kcj_m
 kd_subs
 exact rT.s ⟨d1,_,G1.back (St.pickT (a:=[_,_,_]) S [1,2,0]).sit,f,a,rfl,⟨_,_,_,hsv,I1⟩,rfl⟩
theorem be1 {m n:Mk} (h:m≠n):(m.sign==n.sign)=false:=by
 induction m using Mk.casesOn<;>induction n using Mk.casesOn<;>first |exact absurd rfl h |decide+kernel
theorem b83 (X:a01 w K b) (G:KOk K) (room:a04 A 5) (hh:A.handled=none) (hb:Sub (Bas.of b) fr) {tb:TB} {rd dr lx tA dT rl bd fl tko:Addr} {frs rows:List Value} {v sv ev:Value} {tw:Tok} {m:Mk} {nf:Nat} (hnf:nf<900) (Tb:a17 d tb bd rows nf) (hz:frs.length<10000) (hsv:handedIn sv=true) (I:a00 d tko 874 (a23 (.str m.sign tw) v sv ev))
  (T:Sit w.params b (fr.or d) (rdP rd dr lx tA fl frs++Tab w tb tA dT rl bd rows) h):
  a07 w A z (.ref 1090) [.ref rd,.ref tko] h t (λq h'=>X2 λd' fp'=>a48 w.params b fr d d' fp' h'/\X5 λf ti tb' rows' ad=>A6 (q= .bool true) (Ext tb tb') (a17 d' tb' bd rows' nf) (tb'.lookup m.name=some ad) (FrI d' f (Str.ofString "quotation") ti)
   (fp'=rdP rd dr lx tA fl (frs++[.ref f])++((ti,.list [.ref ad])::Tab w tb' tA dT rl bd rows'))):=by
 have J:a00 (fr.or d) tko 874 (a23 (.str m.sign tw) v sv ev):=I.sub a12
 unfold a23 at J
 refine en (binds:=[("self",.ref rd),("token",.ref tko)]) G.bx0 X T room ?_
 kd_all
 dsimp only[List.reverse,List.reverseAux,rdP,Tab,List.cons_append,List.nil_append] at S
 have n1:(m.sign==Str.ofString "(")=false:=by induction m using Mk.casesOn<;>decide+kernel
 have n2:(m.sign==Str.ofString "#(")=false:=by induction m using Mk.casesOn<;>decide+kernel
 kd_subs
 refine a32 400 false X G S n1 ?_;clear S;kbo_bools
 kd_subs
 refine a32 400 false X G S n2 ?_;clear S;kbo_bools
 kd_subs
 refine aj7 S (X.tup S G.t_857) ?_;clear S;intro It h S
 refine av2 (n:=4) (λi h U=>∃(qs:List (Str × Value)),i<=m.idx/\
  St w.params b (fr.or d) cx.L (("token",.ref tko)::("self",.ref rd)::qs) ((It,.cell (b22 857 i))::(rdP rd dr lx tA fl frs++Tab w tb tA dT rl bd rows)) h) ?_ ?_ 4 0 h _ (by exact rfl)
  ⟨[],Nat.zero_le _,S⟩
 ·clear S
  rintro i h t hi ⟨qs,him,S⟩ Jn nx
  obtain⟨c,tk,tk',hq,hc⟩:=aK9 G hi
  refine aj5 0 S rfl (X.tup S G.t_857) hq ?_;clear S;intro h _ S;dsimp+zetaDelta only[List.set] at S
  refine⟨_,rfl,?_⟩
  refine aB0 0 S rfl ?_
  refine ad6 0 X G S hh (X.tup S hc) (by kernel_rfl) ?_;keq_hits
  dsimp only[rdP,Tab,List.nil_append,List.cons_append] at S
  kd_subs
  by_cases q:Mk.all i=m
  ·subst q
   rw[show ((Mk.all i).sign==(Mk.all i).sign)=true from beq_self_eq_true _]
   kd_subs
   refine a03 [false,false,false,true,true,true] S hb (λfr' hs T=>a64 X G (room.deeper (by decide)) hnf (Mk.name_mem _) Tb T) ?_
   clear S
   rintro q h t d1 fp'' G1 S ⟨tb1,rows1,ad,rfl,hlk,hx1,Tb1,rfl⟩
   dsimp+zetaDelta only[msk,List.cons_append,List.nil_append,Tab] at S
   kd_subs
   refine au8 X G (room.deeper (by decide)) S ?_;clear S;intro f df tkf h t S
   obtain⟨d2,G2,I2,S⟩:=a33 S
   rename_i S0;clear S0
   kd_subs
   refine a02 6 S rfl (szE (ltl (by keq_rows))) ?_;kcj_m
   kd_subs
   exact rT.s ⟨d2,_,(G1.trans G2).back (S.pick [5,6,0,1,2,3]).sit,f,a,tb1,rows1,ad,rfl,Ext.of hx1,Tb1.sub G2.mono,hlk,⟨_,_,_,hsv,I2⟩,rfl⟩
  ·rw [be1 q]
   kd_subs
   have him':i+1<=m.idx:=by
    rcases Nat.lt_or_ge i m.idx with h |h
    ·exact h
    ·exact absurd (by rw[show i=m.idx by lia];exact Mk.all_idx m) q
   exact nx ⟨_,him',(S.front (x:="self") rfl).front (x:="token") rfl⟩
 ·rintro h t ⟨qs,him,S⟩
  exact absurd m.idx_lt (by lia)
theorem b82 (X:a01 w K b) (G:KOk K) (room:a04 A 5) (hh:A.handled=none) {tl:FP} {rd dr lx tA fl tko:Addr} {frs:List Value} {v sv ev:Value} {tw:Tok} {wd:Str} (n1:(wd==Str.ofString "(")=false) (n2:(wd==Str.ofString "#(")=false) (n3:∀m:Mk,(m.sign==wd)=false) (I:a00 d tko 874 (a23 (.str wd tw) v sv ev))
  (T:Sit w.params b (fr.or d) (rdP rd dr lx tA fl frs++tl) h):
  a07 w A z (.ref 1090) [.ref rd,.ref tko] h t (λq h'=>∃fp',Sit w.params b (fr.or d) fp' h'/\fp'=rdP rd dr lx tA fl frs++tl/\q= .bool false):=by
 have J:a00 (fr.or d) tko 874 (a23 (.str wd tw) v sv ev):=I.sub a12
 unfold a23 at J
 refine en (binds:=[("self",.ref rd),("token",.ref tko)]) G.bx0 X T room ?_
 kd_all
 dsimp only[List.reverse,List.reverseAux,rdP,List.cons_append,List.nil_append] at S
 kd_subs
 refine a32 400 false X G S n1 ?_;clear S;kbo_bools
 kd_subs
 refine a32 400 false X G S n2 ?_;clear S;kbo_bools
 kd_subs
 refine aj7 S (X.tup S G.t_857) ?_;clear S;intro It h S
 refine av2 (n:=4) (λi h U=>∃(qs:List (Str × Value)),
  St w.params b (fr.or d) cx.L (("token",.ref tko)::("self",.ref rd)::qs) ((It,.cell (b22 857 i))::(rdP rd dr lx tA fl frs++tl)) h) ?_ ?_ 4 0 h _ (by exact rfl)
  ⟨[],S⟩
 ·clear S
  rintro i h t hi ⟨qs,S⟩ Jn nx
  obtain⟨c,tk,tk',hq,hc⟩:=aK9 G hi
  refine aj5 0 S rfl (X.tup S G.t_857) hq ?_;clear S;intro h _ S;dsimp+zetaDelta only[List.set] at S
  refine⟨_,rfl,?_⟩
  refine aB0 0 S rfl ?_
  refine ad6 0 X G S hh (X.tup S hc) (by kernel_rfl) ?_;keq_hits
  dsimp only[List.nil_append,List.cons_append,rdP] at S
  kd_subs
  refine a32 400 false X G S (by rw[n3];try rfl) ?_;clear S;kbo_bools
  kd_subs
  exact nx ⟨_,(S.front (x:="self") rfl).front (x:="token") rfl⟩
 ·rintro h t ⟨qs,S⟩
  refine ak4 0 S hh rfl (X.tup S G.t_857) rfl ?_;clear S;intro h S;dsimp+zetaDelta only[List.eraseIdx] at S
  refine⟨rfl,?_⟩
  kd_subs
  exact rT.s ⟨_,S.sit,rfl,rfl⟩
end
section
noncomputable def aF0 (tb:TB) (d:Bas):List Value->List Dt->Prop
 |[],[]=>True
 |v::vs,g::gs=>Rep tb d v g/\aF0 tb d vs gs
 |U,V=>False
theorem aF0.mono {tb tb':TB} {d d':Bas} (e:Ext tb tb') (k:Sub d d'):∀{vs:List Value} {gs:List Dt},aF0 tb d vs gs->aF0 tb' d' vs gs
 |[],[],U=>trivial
 |U::V,U1::V1,⟨h1,h2⟩=>⟨h1.mono e k,h2.mono e k⟩
theorem aF0.snoc {tb:TB} {d:Bas} {v:Value} {g:Dt} (R:Rep tb d v g):∀{vs:List Value} {gs:List Dt},aF0 tb d vs gs->aF0 tb d (vs++[v]) (gs++[g])
 |[],[],U=>⟨R,trivial⟩
 |U::V,U1::V1,⟨h1,h2⟩=>⟨h1,h2.snoc R⟩
theorem aF0.cons {tb:TB} {d:Bas} {vs:List Value} {g:Dt} {gs:List Dt} (R:aF0 tb d vs (g::gs)):X2 λv us=>A3 (vs=v::us) (Rep tb d v g) (aF0 tb d us gs):=by
 induction vs using List.casesOn with
 |nil=>exact R.elim
 |cons v us=>exact⟨v,us,rfl,R.1,R.2⟩
theorem aF0.nil {tb:TB} {d:Bas} {vs:List Value} (R:aF0 tb d vs []):vs=[]:=by
 induction vs using List.casesOn with
 |nil=>rfl
 |cons U V=>exact R.elim
theorem bf6 {gs:List Dt} {g:Dt} (hm:an8 gs=some g):(gs=[]/\g= .nil)∨X4 λs a c m=>A3 (gs=[.sym s,a,c]) (b17 s=some m) (g= .q2 m a c):=by
 induction gs using List.casesOn with
 |nil=>cases hm;exact .inl ⟨rfl,rfl⟩
 |cons x gs=>
  induction x using Dt.casesOn with
  |sym s=>
   rcases gs with _ |⟨a,_ |⟨c,_ |⟨y,gs⟩⟩⟩
   ·cases hm
   ·cases hm
   ·cases q:b17 s with
    |none=>rw[show an8 [.sym s,a,c]=(b17 s).map λm=>.q2 m a c from rfl,q] at hm;cases hm
    |some m=>rw[show an8 [.sym s,a,c]=(b17 s).map λm=>.q2 m a c from rfl,q] at hm;cases hm;exact .inr ⟨s,a,c,m,rfl,q,rfl⟩
   ·cases hm
  | _=>exact nsE hm
theorem aT4 {tb:TB} {d d':Bas} {q:Value} {vs:List Value} {gs:List Dt} {g:Dt} (Rs:aF0 tb d vs gs) (hm:an8 gs=some g) (k:Sub d d') (C:aj2 d' q vs (.ref 44)):Rep tb d' q g:=by
 rcases bf6 hm with⟨rfl,rfl⟩|⟨s,a,c,m,rfl,hq,rfl⟩
 ·cases Rs.nil;exact C
 ·obtain ⟨v1,us,hv1,⟨ad,n,u,w1,rfl,h2,_⟩,Q1⟩:=Rs.cons
  obtain⟨v2,us,rfl,R2,Q2⟩:=Q1.cons
  obtain⟨v3,us,rfl,R3,Q3⟩:=Q2.cons
  cases Q3.nil
  subst hv1
  exact⟨ad,v2,v3,C,by rw[<-b15 hq];exact h2,R2.mono Ext.refl k,R3.mono Ext.refl k⟩
theorem aV1 (X:a01 w K b) (G:KOk K) (room:a04 A 6) (hh:A.handled=none) (hb:Sub (Bas.of b) fr) {tb:TB} {rd dr lx tA fl f ti:Addr} {frs vs:List Value} {tv:Value} {gs:List Dt} {g:Dt} (hz:frs.length<10000) (hvz:vs.length<1000) (Rs:aF0 tb d vs gs) (hm:an8 gs=some g) (I:FrI d f (Str.ofString "list") ti)
  (T:Sit w.params b (fr.or d) (rdP rd dr lx tA fl (frs++[.ref f])++[(ti,.list vs)]) h):
  a07 w A z (.ref 1104) [.ref rd,tv] h t (λq h'=>X2 λd' fp'=>a48 w.params b fr d d' fp' h'/\Rep tb d' q g/\fp'=rdP rd dr lx tA fl frs):=by
 obtain⟨tw,sv,tk,hsv,I⟩:=I
 have J:a00 (fr.or d) f 1036 (a95 (.str (Str.ofString "list") tw) sv (.ref ti) 0 tk (.ref 44)):=I.sub a12
 refine en (binds:=[("self",.ref rd),("token",tv)]) G.bv7 X T room ?_
 kd_all
 dsimp only[List.reverse,List.reverseAux,rdP,List.cons_append,List.nil_append] at S
 kd_subs
 refine as8 (S.isList 2 rfl) (S.isList 0 rfl) (by have:=(room.of 0 (by decide)).2;lia) ?_
 replace S:=S.drop (List.sublist_cons_self _ _)
 rw[show (frs++[Value.ref f]).isEmpty=false by induction frs using List.casesOn<;>rfl]
 kd_subs
 refine az9 (S.isList 1 rfl) ?_
 kd_subs
 refine aF3 1 S rfl (szE (ltT (by keq_rows))) ?_;kcj_m
 kd_subs
 refine a03 [false,false,true] S hb (λfr' hs T=>aG4 X G (room.deeper (by decide)) hh hvz T) ?_
 clear S;rintro q h t d1 fp' G1 S ⟨C,rfl⟩
 kcf_m
 exact rT.s ⟨d1,_,G1.back (S.pick [1,2]).sit,aT4 Rs hm G1.mono C,rfl⟩
theorem aV0 (X:a01 w K b) (G:KOk K) (room:a04 A 6) (hh:A.handled=none) {tb:TB} {rd dr lx tA fl f ti:Addr} {frs vs:List Value} {tv:Value} {g1 g2:Dt} (hz:frs.length<10000) (hvz:vs.length<1000) (Rs:aF0 tb d vs [g1,g2]) (I:FrI d f (Str.ofString "vector") ti)
  (T:Sit w.params b (fr.or d) (rdP rd dr lx tA fl (frs++[.ref f])++[(ti,.list vs)]) h):
  a07 w A z (.ref 1104) [.ref rd,tv] h t (λq h'=>X2 λd' fp'=>a48 w.params b fr d d' fp' h'/\Rep tb d' q (.vec g1 g2)/\fp'=rdP rd dr lx tA fl frs):=by
 obtain⟨tw,sv,tk,hsv,I⟩:=I
 have J:a00 (fr.or d) f 1036 (a95 (.str (Str.ofString "vector") tw) sv (.ref ti) 0 tk (.ref 44)):=I.sub a12
 refine en (binds:=[("self",.ref rd),("token",tv)]) G.bv7 X T room ?_
 kd_all
 dsimp only[List.reverse,List.reverseAux,rdP,List.cons_append,List.nil_append] at S
 kd_subs
 refine as8 (S.isList 2 rfl) (S.isList 0 rfl) (by have:=(room.of 0 (by decide)).2;lia) ?_
 replace S:=S.drop (List.sublist_cons_self _ _)
 rw[show (frs++[Value.ref f]).isEmpty=false by induction frs using List.casesOn<;>rfl]
 kd_subs
 refine az9 (S.isList 1 rfl) ?_
 kd_subs
 refine aF3 1 S rfl (szE (ltT (by keq_rows))) ?_;kcj_m
 kd_subs
 refine ay9 X G (room.deeper (by decide)) S ?_;clear S;intro av dv h t S
 obtain⟨d1,G1,I1,S⟩:=a33 S
 rename_i S0;clear S0
 replace S:=S.pick [2,0,1]
 have I2:=ap8 (d:=d1) S
 obtain⟨S2,G2⟩:=S.frz
 obtain⟨v1,us,hv1,R1,Q1⟩:=Rs.cons
 obtain⟨v2,us,rfl,R2,Q2⟩:=Q1.cons
 cases Q2.nil
 subst hv1
 exact rT.s ⟨_,_,(G1.trans G2).back S2.sit,⟨av,ti,v1,v2,rfl,I1.sub G2.mono,I2,R1.mono Ext.refl (G1.trans G2).mono,R2.mono Ext.refl (G1.trans G2).mono⟩,rfl⟩
theorem ba2 (X:a01 w K b) (G:KOk K) (room:a04 A 4) (hb:Sub (Bas.of b) fr) {tb:TB} {rd dr lx tA dT rl bd fl tko:Addr} {rows frs:List Value} {nf:Nat} {s:Str} {ts tw:Tok} {sv ev:Value} (hnf:nf<900) (hs:s∈names) (Tb:a17 d tb bd rows nf)
  (I:a00 d tko 874 (a23 (.str (Str.ofString "symbol") tw) (.str s ts) sv ev))
  (T:Sit w.params b (fr.or d) (rdP rd dr lx tA fl frs++Tab w tb tA dT rl bd rows) h):
  a07 w A z (.ref 1111) [.ref rd,.ref tko] h t (λq h'=>X2 λd' fp'=>a48 w.params b fr d d' fp' h'/\X2 λtb' rows'=>A4 (Ext tb tb') (a17 d' tb' bd rows' nf) (Rep tb' d' q (.sym s)) (fp'=rdP rd dr lx tA fl frs++Tab w tb' tA dT rl bd rows')):=by
 have J:a00 (fr.or d) tko 874 (a23 (.str (Str.ofString "symbol") tw) (.str s ts) sv ev):=I.sub a12
 unfold a23 at J
 refine en (binds:=[("self",.ref rd),("token",.ref tko)]) G.bv3 X T room ?_
 kd_all
 dsimp only[List.reverse,List.reverseAux,rdP,Tab,List.cons_append,List.nil_append] at S
 kd_subs
 refine a03 [false,false,true,true,true] S hb (λfr' hs' T=>a64 X G (room.deeper (by decide)) hnf hs Tb T) ?_
 clear S
 rintro q h t d1 fp'' G1 S ⟨tb1,rows1,ad,rfl,hlk,hx1,Tb1,rfl⟩
 dsimp+zetaDelta only[msk,List.cons_append,List.nil_append,Tab] at S
 obtain⟨n,u,v',Q⟩:=Tb1.syms _ (a16 hlk)
 exact rT.s ⟨d1,_,G1.back (S.pick [3,4,0,1,2]).sit,tb1,rows1,Ext.of hx1,Tb1,⟨ad,n,u,v',rfl,hlk,Q⟩,rfl⟩
theorem ba1 (X:a01 w K b) (G:KOk K) (room:a04 A 4) {tko:Addr} {wd:Str} {tw:Tok} {v sv ev:Value} {tl:FP} {rd dr lx tA fl:Addr} {frs:List Value} (hv:handedIn v=true) (hw:(wd==Str.ofString "symbol")=false)
  (I:a00 d tko 874 (a23 (.str wd tw) v sv ev)) (T:Sit w.params b (fr.or d) (rdP rd dr lx tA fl frs++tl) h):
  a07 w A z (.ref 1111) [.ref rd,.ref tko] h t (λq h'=>∃fp',Sit w.params b (fr.or d) fp' h'/\fp'=rdP rd dr lx tA fl frs++tl/\q=v):=by
 have J:a00 (fr.or d) tko 874 (a23 (.str wd tw) v sv ev):=I.sub a12
 unfold a23 at J
 refine en (binds:=[("self",.ref rd),("token",.ref tko)]) G.bv3 X T room ?_
 kd_all
 dsimp only[List.reverse,List.reverseAux,rdP,List.cons_append,List.nil_append] at S
 kd_subs
 refine a32 400 false X G S hw ?_;clear S;kbo_bools
 kd_subs
 exact rT.s ⟨_,S.sit,rfl,rfl⟩
structure SE where
 a:FrA
 f:Addr
 ti:Addr
 vs:List Value
noncomputable def SE.rep (tb:TB) (d:Bas) (e:SE):Prop:=e.vs.length<900/\match e.a with
 | .lst gs=>FrI d e.f (Str.ofString "list") e.ti/\aF0 tb d e.vs gs
 | .vec gs=>FrI d e.f (Str.ofString "vector") e.ti/\aF0 tb d e.vs gs
 | .quo m=>FrI d e.f (Str.ofString "quotation") e.ti/\∃ad,e.vs=[.ref ad]/\tb.lookup m.name=some ad
theorem SE.rep.mono {tb tb':TB} {d d':Bas} (x:Ext tb tb') (k:Sub d d') {e:SE} (h:e.rep tb d):e.rep tb' d':=by
 obtain⟨a,f,ti,vs⟩:=e
 obtain⟨h0,h⟩:=h
 refine⟨h0,?_⟩
 induction a using FrA.casesOn with
 |lst gs=>exact⟨h.1.sub k,h.2.mono x k⟩
 |vec gs=>exact⟨h.1.sub k,h.2.mono x k⟩
 |quo m=>obtain⟨h1,ad,h2,h3⟩:=h;exact⟨h1.sub k,ad,h2,x _ _ h3⟩
noncomputable def FrA.isQ:FrA->Bool
 | .quo U=>true
 | _=>false
noncomputable def FrA.wd:FrA->Str
 | .lst U=>Str.ofString "list" | .vec _=>Str.ofString "vector" | .quo _=>Str.ofString "quotation"
theorem SE.rep.frI {tb:TB} {d:Bas} {e:SE} (h:e.rep tb d):FrI d e.f e.a.wd e.ti:=by
 obtain⟨a,f,ti,vs⟩:=e
 induction a using FrA.casesOn with
 |lst gs=>exact h.2.1
 |vec gs=>exact h.2.1
 |quo m=>exact h.2.1
noncomputable def stR (st:List SE):List Value:=(st.map λe=>Value.ref e.f).reverse
noncomputable def stF (st:List SE):FP:=st.map λe=>(e.ti,AO.list e.vs)
noncomputable def stA (st:List SE):List FrA:=st.map (·.a)
theorem aa4 (e:SE) (st:List SE):stR (e::st)=stR st++[.ref e.f]:=by simp [stR]
theorem a65 (st:List SE):(stR st).length=st.length:=by simp [stR]
theorem aK6 (ys:List SE) (e:SE) (st:List SE):(stR (ys++e::st))[st.length]?=some (.ref e.f):=by
 have e1:stR (ys++e::st)=stR st++(.ref e.f::stR ys):=by simp [stR]
 rw[e1,List.getElem?_append_right (by rw[a65];exact Nat.le_refl _),a65,Nat.sub_self]
 rfl
noncomputable abbrev rFP (rd dr lx tA fl:Addr) (st:List SE):FP:=rdP rd dr lx tA fl (stR st)++stF st
theorem aO2:∀st:List SE,(∀e∈st,e.a.isQ=true)∨X3 λqs e st0=>A3 (st=qs++e::st0) ((∀x∈qs,x.a.isQ=true)) (e.a.isQ=false)
 |[]=>.inl λe he=>by cases he
 |e::st=>by
  cases q:e.a.isQ with
  |false=>exact .inr ⟨[],e,st,rfl,λx hx=>(by cases hx),q⟩
  |true=>
   rcases aO2 st with h |⟨qs,e',st0,rfl,h1,h2⟩
   ·exact .inl λx hx=>by
     cases hx with
     |head=>exact q
     |tail U hx=>exact h x hx
   ·exact .inr ⟨e::qs,e',st0,rfl,λx hx=>by
     cases hx with
     |head=>exact q
     |tail U hx=>exact h1 x hx,h2⟩
theorem ao2 {a:FrA} (h:a.isQ=true):∃m,a= .quo m:=by
 induction a using FrA.casesOn with
 |quo m=>exact⟨m,rfl⟩
 | _=>cases h
theorem wd_ne {a:FrA} (h:a.isQ=false):(a.wd==Str.ofString "quotation")=false:=by
 induction a using FrA.casesOn with
 |quo m=>cases h
 |lst gs=>show (Str.ofString "list"==Str.ofString "quotation")=false;decide+kernel
 |vec gs=>show (Str.ofString "vector"==Str.ofString "quotation")=false;decide+kernel
end
section
theorem be0 (xs ys:List SE):stA (xs++ys)=stA xs++stA ys:=List.map_append
theorem aF7 (X:a01 w K b) (G:KOk K) (room:a04 A 6) (hh:A.handled=none) (hb:Sub (Bas.of b) fr) {tb:TB} {rd dr lx tA fl:Addr} {e:SE} {st:List SE} {v:Value} {g1:Dt} (hz:st.length<9000) (hq:e.a.isQ=true) (he:e.rep tb d) (R:Rep tb d v g1)
  (T:Sit w.params b (fr.or d) [(rd,.inst 1121 dr (a81 lx (.ref tA) fl)),(fl,.list (stR (e::st))),(e.ti,.list e.vs)] h):
  a07 w A z (.ref 1083) [.ref rd,v] h t (λq h'=>X2 λd' fp'=>a48 w.params b fr d d' fp' h'/\∃m,A4 (e.a= .quo m) (Rep tb d' q (.q1 m g1)) (Sub d d') (fp'=rdP rd dr lx tA fl (stR st))):=by
 obtain⟨m,hm⟩:=ao2 hq
 obtain⟨a,f,ti,vs⟩:=e
 subst hm
 obtain⟨h0,hI,ad,h2,h3⟩:=he
 subst h2
 rw[aa4] at T
 refine codeAny_mono (aK8 X G room hh hb (by rw[a65];exact ltT (by keq_rows)) hI T) ?_
 rintro r s' ⟨q,h',t',rfl,rfl,d',fp',B,C,rfl⟩
 exact⟨_,_,_,rfl,rfl,d',_,B,m,rfl,⟨ad,v,C,h3,R.mono Ext.refl B.mono⟩,B.mono,rfl⟩
theorem b21 (X:a01 w K b) (G:KOk K) (room:a04 A 7) (hh:A.handled=none) (hb:Sub (Bas.of b) fr) {tb:TB} {rd dr lx tA fl:Addr} {st:List SE} {v:Value} {g1:Dt} (hz:st.length<9000) (hq:∀e∈st,e.a.isQ=true) (hr:∀e∈st,e.rep tb d) (R:Rep tb d v g1)
  (T:Sit w.params b (fr.or d) (rFP rd dr lx tA fl st) h):
  a07 w A z (.ref 1076) [.ref rd,v] h t (λq h'=>X2 λd' fp'=>a48 w.params b fr d d' fp' h'/\Rep tb d' q (unq (stA st) g1).1/\fp'=rdP rd dr lx tA fl []):=by
 refine en (binds:=[("self",.ref rd),("datum",v)]) G.bs0 X T room ?_
 kd_in
 refine a56 (λm h U=>X4 λ(d':Bas) (ys:List SE) (v2:Value) (g2:Dt)=>A8 (m=ys.length) (aa2 fr d d') ((∀e∈ys,e.a.isQ=true)) (ys.length<9000) ((∀e∈ys,e.rep tb d')) (Rep tb d' v2 g2) ((unq (stA ys) g2).1=(unq (stA st) g1).1)
   (St w.params b (fr.or d') cx.L [("found",v2),("datum",v),("self",.ref rd)] (rFP rd dr lx tA fl ys) h)) ?_ _ h _
  ⟨d,st,v,g1,rfl,aa2.refl,hq,hz,hr,R,rfl,S⟩
 clear S
 rintro m h t ⟨d',ys,v2,g2,rfl,Gr,hq',hz',hr',R',hu,S⟩ Jn nx
 dsimp only[rFP,rdP,List.cons_append,List.nil_append] at S
 kd_subs
 refine ad8 (S.isList 2 rfl) (S.isList 0 rfl) (by have:=(room.of 0 (by decide)).2;lia) ?_
 replace S:=S.drop (List.sublist_cons_self _ _)
 induction ys using List.casesOn with
 |nil=>
  rw[show (stR []).isEmpty=true from rfl]
  kd_subs
  exact rT.s ⟨d',_,Gr.back S.sit,by rw[<-hu];exact R',rfl⟩
 |cons e ys=>
  have hne:(stR (e::ys)).isEmpty=false:=by rw[aa4];cases stR ys<;>rfl
  rw[hne]
  kd_subs
  have S':St w.params b (fr.or d') cx.L [("found",v2),("datum",v),("self",.ref rd)] ((rd,.inst 1121 dr (a81 lx (.ref tA) fl))::(fl,.list (stR (e::ys)))::(e.ti,.list e.vs)::stF ys) h:=S
  clear S;have S:=S';clear S'
  refine a03 [true,true,true] S hb (λfr' hs T=>aF7 X G (room.deeper (by decide)) hh (hb.trans (Sub.trans a29 hs)) (by simp at hz';exact ltl (by keq_rows)) (hq' e (.head _)) (hr' e (.head _)) R' T) ?_
  clear S;rintro q h t d1 fp' G1 S ⟨m,hm,R1,_,rfl⟩
  kcf_m
  kd_subs
  refine nx (by simp) ⟨d1,ys,q,.q1 m g2,rfl,Gr.trans G1,λx hx=>hq' x (.tail _ hx),by simp at hz';exact ltl (by keq_rows),λx hx=>(hr' x (.tail _ hx)).mono Ext.refl G1.mono,R1,?_,S.locs _⟩
  rw[<-hu]
  show _=(unq (e.a::stA ys) g2).1
  rw[hm]
  rfl
theorem aC7 (X:a01 w K b) (G:KOk K) (room:a04 A 7) (hh:A.handled=none) {tb:TB} {rd dr lx tA fl:Addr} {st:List SE} {v sv:Value} (hz:st.length<9000) (hq:∀e∈st,e.a.isQ=true) (hr:∀e∈st,e.rep tb d)
  (T:Sit w.params b (fr.or d) (rFP rd dr lx tA fl st) h):
  a07 w A z (.ref 1118) [.ref rd,v,sv] h t (λq h'=>∃fp',Sit w.params b (fr.or d) fp' h'/\fp'=rFP rd dr lx tA fl st/\q= .bool true):=by
 refine en (binds:=[("self",.ref rd),("datum",v),("start",sv)]) G.bx6 X T room ?_
 kd_all
 dsimp only[List.reverse,List.reverseAux,rFP,rdP,List.cons_append,List.nil_append] at S
 kd_subs
 refine a34 (S.isList 1 rfl) (by rw[a65];exact ltT (by keq_rows)) ?_;intro tk0
 rw[a65]
 kd_subs
 refine a56 (λm h U=>X3 λ(xs ys:List SE) (tk:Tok)=>A3 (m=ys.length) (st=xs++ys)
   (St w.params b (fr.or d) cx.L [("at",.int (ys.length:Int) tk),("found",v),("start",sv),("datum",v),("self",.ref rd)] (rFP rd dr lx tA fl st) h)) ?_ _ h _
  ⟨[],st,tk0,rfl,rfl,S⟩
 clear S
 rintro m h t ⟨xs,ys,tkA,rfl,hst,S⟩ Jn nx
 dsimp only[rFP,rdP,List.cons_append,List.nil_append] at S
 kd_subs
 induction ys using List.casesOn with
 |nil=>
  refine a32 400 false X G S (by simp) ?_;clear S;kbo_bools
  kd_subs
  kd_subs
  exact rT.s ⟨_,S.sit,rfl,rfl⟩
 |cons e ys=>
  refine a32 400 true X G S (by simp) ?_;keq_hits
  have hle:ys.length<9000:=by rw[hst] at hz;simp at hz;lia
  obtain⟨tw,sv2,tkf,_,I⟩:=(hr e (by rw[hst];simp)).frI
  have J:a00 (fr.or d) e.f 1036 (a95 (.str e.a.wd tw) sv2 (.ref e.ti) 0 tkf (.ref 44)):=I.sub a12
  obtain⟨mq,hmq⟩:=ao2 (hq e (by rw[hst];simp))
  rw[hmq] at J
  kd_subs
  refine a27 (v:=.ref e.f) (S.isList 1 rfl) (by simp) (by first |(simp;done)|(simp;lia)) (by rw[show ((((e::ys).length:Nat):Int) -1).toNat=ys.length by simp,hst];exact aK6 _ _ _) ?_
  kd_subs
  dsimp+zetaDelta only at S
  rw[show ((((e::ys).length:Nat):Int) -1)=(ys.length:Int) by simp] at S
  exact nx (m:=ys.length) (by simp) ⟨xs++[e],ys,tk,rfl,by rw[hst];simp,S.locs _⟩
theorem aH2 (X:a01 w K b) (G:KOk K) (room:a04 A 7) (hh:A.handled=none) (hb:Sub (Bas.of b) fr) {tb:TB} {rd dr lx tA fl:Addr} {qs st0:List SE} {e0:SE} {v sv:Value} {g1:Dt} (hz:(qs++e0::st0).length<9000) (hq:∀e∈qs,e.a.isQ=true) (hq0:e0.a.isQ=false) (hr:∀e∈qs++e0::st0,e.rep tb d) (R:Rep tb d v g1)
  (T:Sit w.params b (fr.or d) (rFP rd dr lx tA fl (qs++e0::st0)) h):
  a07 w A z (.ref 1118) [.ref rd,v,sv] h t (λq h'=>X2 λd' fp'=>a48 w.params b fr d d' fp' h'/\∃v2,A3 (q= .bool false) (Rep tb d' v2 (unq (stA qs) g1).1) (fp'=rFP rd dr lx tA fl (⟨e0.a,e0.f,e0.ti,e0.vs++[v2]⟩::st0))):=by
 refine en (binds:=[("self",.ref rd),("datum",v),("start",sv)]) G.bx6 X T room ?_
 kd_all
 dsimp only[List.reverse,List.reverseAux,rFP,rdP,List.cons_append,List.nil_append] at S
 kd_subs
 refine a34 (S.isList 1 rfl) (by rw[a65];exact ltT (by keq_rows)) ?_;intro tk0
 rw[a65]
 kd_subs
 refine a56 (λm h U=>X3 λ(xs ys:List SE) (tk:Tok)=>A3 (m=ys.length) (qs=xs++ys)
   (St w.params b (fr.or d) cx.L [("at",.int ((ys++e0::st0).length:Int) tk),("found",v),("start",sv),("datum",v),("self",.ref rd)] (rFP rd dr lx tA fl (qs++e0::st0)) h)) ?_ _ h _
  ⟨[],qs,tk0,rfl,rfl,S⟩
 clear S
 rintro m h t ⟨xs,ys,tkA,rfl,hst,S⟩ Jn nx
 dsimp only[rFP,rdP,List.cons_append,List.nil_append] at S
 kd_subs
 refine a32 400 true X G S (by first |(simp;done)|(simp;lia)) ?_;keq_hits
 induction ys using List.casesOn with
 |nil=>
  obtain⟨tw,sv2,tkf,_,I⟩:=(hr e0 (by simp)).frI
  have J:a00 (fr.or d) e0.f 1036 (a95 (.str e0.a.wd tw) sv2 (.ref e0.ti) 0 tkf (.ref 44)):=I.sub a12
  kd_subs
  refine a27 (v:=.ref e0.f) (S.isList 1 rfl) (by simp) (by simp at hz ⊢;lia) (by rw[show (((([]++e0::st0:List SE).length:Nat):Int) -1).toNat=st0.length by simp];exact aK6 _ _ _) ?_
  kd_subs
  refine a32 400 false X G S (wd_ne hq0) ?_;clear S;kbo_bools
  kd_subs
  refine a56 (λm h U=>X4 λ(d':Bas) (ys:List SE) (v2:Value) (g2:Dt)=>A8 (m=ys.length) (aa2 fr d d') ((∀e∈ys,e.a.isQ=true)) ((ys++e0::st0).length<9000) ((∀e∈ys++e0::st0,e.rep tb d')) (Rep tb d' v2 g2) ((unq (stA ys) g2).1=(unq (stA qs) g1).1)
    (St w.params b (fr.or d') cx.L [("found",v2),("at",.int ((st0.length+1:Nat):Int) tkA),("start",sv),("datum",v),("self",.ref rd)] (rFP rd dr lx tA fl (ys++e0::st0)) h)) ?_ _ h _
   ⟨d,qs,v,g1,rfl,aa2.refl,hq,hz,hr,R,rfl,(S.front (x:="found") rfl).locs _⟩
  clear S J
  rintro m h t ⟨d',ys,v2,g2,rfl,Gr,hq',hz',hr',R',hu,S⟩ Jn nx
  dsimp only[rFP,rdP,List.cons_append,List.nil_append] at S
  kd_subs
  refine a34 (S.isList 1 rfl) (by rw[a65];exact ltT (by keq_rows)) ?_;intro tk1
  rw[a65]
  kd_subs
  induction ys using List.casesOn with
  |nil=>
   refine a32 400 false X G S (by simp) ?_;clear S;kbo_bools
   kd_subs
   obtain⟨tw,sv2,tkf,_,I⟩:=(hr' e0 (by simp)).frI
   have J:a00 (fr.or d') e0.f 1036 (a95 (.str e0.a.wd tw) sv2 (.ref e0.ti) 0 tkf (.ref 44)):=I.sub a12
   dsimp+zetaDelta only at S
   rw[show stR ([]++e0::st0)=stR st0++[.ref e0.f] from aa4 e0 st0,show stF ([]++e0::st0)=(e0.ti,AO.list e0.vs)::stF st0 from rfl] at S
   kd_subs
   refine az9 (S.isList 1 rfl) ?_
   kd_subs
   refine a02 2 S rfl (szE (by have:=(hr' e0 (by simp)).1;exact ltl (by keq_rows))) ?_;kcj_m
   kd_subs
   dsimp+zetaDelta only at S
   exact rT.s ⟨d',_,Gr.back S.sit,v2,rfl,by rw[<-hu];exact R',by simp only[rFP,rdP,aa4,stF,List.map_cons,List.cons_append,List.nil_append]⟩
  |cons e ys=>
   refine a32 400 true X G S (by first |(simp;done)|(simp;lia)) ?_;keq_hits
   have hne:stR (e::ys++e0::st0)=stR (e::(ys++e0::st0)):=rfl
   kd_subs
   dsimp+zetaDelta only at S
   rw[show stF (e::ys++e0::st0)=(e.ti,AO.list e.vs)::stF (ys++e0::st0) from rfl] at S
   refine a03 [true,true,true] S hb (λfr' hs T=>aF7 X G (room.deeper (by decide)) hh (hb.trans (Sub.trans a29 hs)) (by simp at hz' ⊢;exact ltl (by keq_rows)) (hq' e (.head _)) (hr' e (by simp)) R' T) ?_
   clear S;rintro q h t d1 fp' G1 S ⟨m,hm,R1,_,rfl⟩
   kcf_m
   kd_subs
   refine nx (by simp) ⟨d1,ys,q,.q1 m g2,rfl,Gr.trans G1,λx hx=>hq' x (.tail _ hx),by simp at hz' ⊢;exact ltl (by keq_rows),λx hx=>(hr' x (by rw[List.cons_append];exact .tail _ hx)).mono Ext.refl G1.mono,R1,?_,S.locs _⟩
   rw[<-hu]
   show _=(unq (e.a::stA ys) g2).1
   rw[hm]
   rfl
 |cons e ys=>
  have hle:(qs++e0::st0).length=xs.length+(1+ys.length)+(1+st0.length):=by rw[hst];simp;lia
  obtain⟨tw,sv2,tkf,_,I⟩:=(hr e (by rw[hst];simp)).frI
  have J:a00 (fr.or d) e.f 1036 (a95 (.str e.a.wd tw) sv2 (.ref e.ti) 0 tkf (.ref 44)):=I.sub a12
  obtain⟨mq,hmq⟩:=ao2 (hq e (by rw[hst];simp))
  rw[hmq] at J
  kd_subs
  refine a27 (v:=.ref e.f) (S.isList 1 rfl) (by first |(simp;done)|(simp;exact Int.natCast_nonneg _)) (by rw[hle] at hz;simp;lia) (by
   rw[show ((((e::ys++e0::st0).length:Nat):Int) -1).toNat=(ys++e0::st0).length by first |(simp;done)|(simp;exact rfl),hst]
   have:=aK6 xs e (ys++e0::st0)
   simpa using this) ?_
  kd_subs
  dsimp+zetaDelta only at S
  rw[show ((((e::ys++e0::st0).length:Nat):Int) -1)=((ys++e0::st0).length:Int) by first |(simp;done)|(simp;lia)] at S
  exact nx (m:=ys.length) (by simp) ⟨xs++[e],ys,tk,rfl,by rw[hst];simp,S.locs _⟩
end
section
noncomputable def TK.opn:TK->Bool
 | .op=>true | .vop=>true | .mk _=>true | _=>false
noncomputable def TK.fra:TK->FrA
 | .vop=>.vec []| .mk m=>.quo m | _=>.lst []
noncomputable def w1B (s:Str):Bool:=(!(s==Str.ofString "(")&&(!(s==Str.ofString "#(")&&(((!(Mk.sign .quote==s)&& !(Mk.sign .quasi==s))&&(!(Mk.sign .unq==s)&& !(Mk.sign .splice==s)))&& !(s==Str.ofString "."))))
theorem w1_of {s:Str} (e:w1B s=true):(s==Str.ofString "(")=false/\(s==Str.ofString "#(")=false/\(∀m:Mk,(m.sign==s)=false)/\(s==Str.ofString ".")=false:=by
 unfold w1B at e
 simp only[Bool.and_eq_true,Bool.not_eq_true'] at e
 exact⟨e.1,e.2.1,λm=>(match m with | .quote=>e.2.2.1.1.1 | .quasi=>e.2.2.1.1.2 | .unq=>e.2.2.1.2.1 | .splice=>e.2.2.1.2.2),e.2.2.2⟩
theorem TK.w1 {tk:TK} (h:tk.opn=false):(tk.word==Str.ofString "(")=false/\(tk.word==Str.ofString "#(")=false/\(∀m:Mk,(m.sign==tk.word)=false)/\(tk.word==Str.ofString ".")=false:=w1_of (by
 induction tk using TK.casesOn with
 |cl=>kernel_rfl!
 |«at» g=>induction g using Dt.casesOn<;>kernel_rfl!
 | _=>exact ftE h.symm)
theorem TK.w2 (tk:TK):(tk.word==Str.ofString "end")=false:=by
 induction tk using TK.casesOn with
 |mk m=>induction m using Mk.casesOn<;>kernel_rfl!
 |«at» g=>induction g using Dt.casesOn<;>kernel_rfl!
 | _=>kernel_rfl!
noncomputable abbrev rdF (w:World) (tb:TB) (rd dr lx dl tA dT rl bd fl:Addr) (rows:List Value) (x:Str) (u0 u1:Tok) (p:Nat) (tq:Tok) (st:List SE):FP:=rdP rd dr lx tA fl (stR st)++(Tab w tb tA dT rl bd rows++(ak1 lx dl x u0 u1 p tq++stF st))
theorem b04 (X:a01 w K b) (G:KOk K) (room:a04 A 5) (hh:A.handled=none) (hb:Sub (Bas.of b) fr) {tb:TB} {rd dr lx tA dT rl bd fl tko:Addr} {st:List SE} {rows:List Value} {v sv ev:Value} {tw:Tok} {tk:TK} {nf:Nat} (hnf:nf<900) (Tb:a17 d tb bd rows nf) (hz:st.length<9000) (ho:tk.opn=true) (hsv:handedIn sv=true) (I:a00 d tko 874 (a23 (.str tk.word tw) v sv ev))
  (T:Sit w.params b (fr.or d) (rdP rd dr lx tA fl (stR st)++Tab w tb tA dT rl bd rows) h):
  a07 w A z (.ref 1090) [.ref rd,.ref tko] h t (λq h'=>X2 λd' fp'=>a48 w.params b fr d d' fp' h'/\X3 λtb' rows' e=>A7 (q= .bool true) (Ext tb tb') (a17 d' tb' bd rows' nf) (SE.rep tb' d' e) (e.a=tk.fra) (e.vs.length<=1)
   (fp'=rdP rd dr lx tA fl (stR (e::st))++((e.ti,.list e.vs)::Tab w tb' tA dT rl bd rows'))):=by
 induction tk using TK.casesOn with
 |cl=>cases ho
 |«at» U=>cases ho
 |mk m=>
  refine codeAny_mono (b83 X G room hh hb hnf Tb (by rw[a65];exact ltT (by keq_rows)) hsv I T) ?_
  rintro r s' ⟨q,h',t',rfl,rfl,d',fp',B,f,ti,tb',rows',ad,rfl,hx,Tb',hl,hI,rfl⟩
  exact⟨_,_,_,rfl,rfl,d',_,B,tb',rows',⟨.quo m,f,ti,[.ref ad]⟩,rfl,hx,Tb',⟨by simp,hI,ad,rfl,hl⟩,rfl,by simp,by rw[aa4]⟩
 |op=>
  refine codeAny_mono (b81 X G room (by rw[a65];exact ltT (by keq_rows)) hsv I T) ?_
  rintro r s' ⟨q,h',t',rfl,rfl,d',fp',B,f,ti,rfl,hI,rfl⟩
  exact⟨_,_,_,rfl,rfl,d',_,B,tb,rows,⟨.lst [],f,ti,[]⟩,rfl,Ext.refl,Tb.sub B.mono,⟨by simp,hI,trivial⟩,rfl,by simp,by rw[aa4]⟩
 |vop=>
  refine codeAny_mono (b05 X G room (by rw[a65];exact ltT (by keq_rows)) hsv I T) ?_
  rintro r s' ⟨q,h',t',rfl,rfl,d',fp',B,f,ti,rfl,hI,rfl⟩
  exact⟨_,_,_,rfl,rfl,d',_,B,tb,rows,⟨.vec [],f,ti,[]⟩,rfl,Ext.refl,Tb.sub B.mono,⟨by simp,hI,trivial⟩,rfl,by simp,by rw[aa4]⟩
theorem aL7:∀f1 f2:FP,msk (List.replicate f1.length true) (f1++f2)=(f1,f2)
 |[],f2=>rfl
 |p::r,f2=>by rw[List.length_cons,List.replicate_succ,List.cons_append,msk,aL7 r f2]
theorem aK7 {f1 f2:FP} {f:Value} {args:List Value} {Post:Value->Bas->FP->Prop} {Q:Value->Shared->Prop} (S:St w.params b (fr.or d) L l (f1++f2) h) (hb:Sub (Bas.of b) fr)
  (sp:∀fr',Sub (fr.or d) fr'->Sit w.params b (fr'.or d) f1 h->a07 w A z f args h t (λv h'=>X2 λd' fp'=>a48 w.params b fr' d d' fp' h'/\Post v d' fp'))
  (k:∀v h' t' d' fp',aa2 fr d d'->St w.params b (fr.or d') L l (fp'++f2) h'->Post v d' fp'->Q v (sh z h' t')):wpAny (model pw w) A (call f args) Q E (sh z h t):=by
 refine a03 (Post:=Post) (List.replicate f1.length true) S hb (λfr' hs T=>?_) ?_
 ·rw [aL7] at T
  exact sp fr' hs T
 ·intro v h' t' d' fp' G1 S' P
  rw[aL7] at S'
  exact k v h' t' d' fp' G1 S' P
theorem aZ1 {st:List FrA} {k:Nat} {tk:TK} {r:List (Nat × TK)} {g:Dt} (h:run st ((k,tk)::r)=some g):∃o,b71 st tk=some o/\bi9 o r=some g:=by
 cases q:b71 st tk with
 |none=>
  have:run st ((k,tk)::r)=none:=by
   show (match b71 st tk with |some (.inr st')=>run st' r |some (.inl g)=>if r.isEmpty then some g else none |none=>none)=_
   rw[q]
  rw[this] at h
  cases h
 |some o=>exact⟨o,rfl,by rw[<-a79 (k:=k) q];exact h⟩
theorem aX0:∀(st:List SE) (g:Dt),(∀e∈st,e.a.isQ=true)->(unq (stA st) g).2=[]
 |[],g,U=>rfl
 |e::st,g,h=>by
  obtain⟨m,hm⟩:=ao2 (h e (.head _))
  show (unq (e.a::stA st) g).2=[]
  rw[hm]
  exact aX0 st (.q1 m g) λx hx=>h x (.tail _ hx)
theorem aW9:∀(qs:List SE) (as:List FrA) (a:FrA) (g:Dt),(∀e∈qs,e.a.isQ=true)->a.isQ=false->unq (stA qs++a::as) g=((unq (stA qs) g).1,a::as)
 |[],as,a,g,U,ha=>by
  induction a using FrA.casesOn with
  |quo m=>cases ha
  |lst gs=>rfl
  |vec gs=>rfl
 |e::st,as,a,g,h,ha=>by
  obtain⟨m,hm⟩:=ao2 (h e (.head _))
  show unq (e.a::(stA st++a::as)) g=((unq (e.a::stA st) g).1,_)
  rw[hm]
  exact aW9 st as a (.q1 m g) (λx hx=>h x (.tail _ hx)) ha
theorem bq3 {st:List SE} {g:Dt} (h:∀e∈st,e.a.isQ=true):dl (stA st) g= .inl (unq (stA st) g).1:=by
 have:=aX0 st g h
 unfold dl
 generalize unq (stA st) g=o at*
 obtain⟨o1,o2⟩:=o
 simp only at this
 subst this
 rfl
noncomputable def FrA.snoc:FrA->Dt->FrA
 | .lst gs,g=>.lst (gs++[g])
 | .vec gs,g=>.vec (gs++[g])
 |a,U=>a
theorem dl_in {qs st0:List SE} {e0:SE} {g:Dt} (h:∀e∈qs,e.a.isQ=true) (ha:e0.a.isQ=false):dl (stA (qs++e0::st0)) g= .inr (e0.a.snoc (unq (stA qs) g).1::stA st0):=by
 unfold dl
 rw[be0,show stA (e0::st0)=e0.a::stA st0 from rfl,aW9 qs _ _ g h ha]
 cases q:e0.a with
 |quo m=>rw[q] at ha;cases ha
 |lst gs=>rfl
 |vec gs=>rfl
theorem SE.rep.snoc {tb:TB} {d:Bas} {e:SE} {v:Value} {g:Dt} (h:e.rep tb d) (hq:e.a.isQ=false) (hz:e.vs.length<800) (R:Rep tb d v g):SE.rep tb d ⟨e.a.snoc g,e.f,e.ti,e.vs++[v]⟩:=by
 obtain⟨a,f,ti,vs⟩:=e
 refine⟨by simp at hz ⊢;lia,?_⟩
 induction a using FrA.casesOn with
 |quo m=>cases hq
 |lst gs=>exact⟨h.2.1,h.2.2.snoc R⟩
 |vec gs=>exact⟨h.2.1,h.2.2.snoc R⟩
theorem TK.val_handed {tb:TB} {d:Bas} {v:Value} {tk:TK} (h:tk.val tb d v):handedIn v=true:=by
 induction tk using TK.casesOn with
 |op=>rw[show v= .none from h];rfl
 |vop=>rw[show v= .none from h];rfl
 |cl=>rw[show v= .none from h];rfl
 |mk m=>rw[show v= .none from h];rfl
 |«at» g=>
  induction g using Dt.casesOn with
  |int n=>obtain⟨_,rfl⟩:=h;rfl
  |sym n=>obtain⟨_,rfl⟩:=h;rfl
  |text cs=>exact Rep.handed h
  |char c=>exact Rep.handed h
  | _=>rw[show v= .none from h];rfl
end
section
theorem b03 {α:Type} {a c:α} {xs ys zs:List α}:([a,c]++xs++(ys++zs)).Perm ([a,c]++(ys++(zs++xs))):=by
 show (a::c::(xs++(ys++zs))).Perm (a::c::(ys++(zs++xs)))
 rw[<-List.append_assoc ys zs xs]
 exact (List.perm_append_comm.cons c).cons a
theorem b97 {x:Str} {p k:Nat} {tk:TK} {tl:List Nat} (hd:(cod x).drop p=List.replicate k 32++(tk.cds++tl)):(cod x).drop (p+k+tk.cds.length)=tl:=by
 have h1:=aE9 hd
 rw[<-List.drop_drop,h1,List.drop_left]
theorem an5 {f:Value} {args:List Value} {Post:Value->FP->Prop} (x:a07 w A z f args h t (λv h'=>∃fp',Sit w.params b (fr.or d) fp' h'/\Post v fp')):
  a07 w A z f args h t (λv h'=>X2 λd' fp'=>a48 w.params b fr d d' fp' h'/\(d=d'/\Post v fp')):=by
 refine codeAny_mono x ?_
 rintro r s' ⟨q,h',t',rfl,rfl,fp',T,P⟩
 exact⟨_,_,_,rfl,rfl,d,fp',a48.same T,rfl,P⟩
set_option maxHeartbeats 2000000 in
theorem bi6 (gg:Dt):((TK.at gg).word==Str.ofString ")")=false:=by induction gg using Dt.casesOn<;>kernel_rfl!
theorem ba3 (X:a01 w K b) (G:KOk K) (room:a04 A 4) (hb:Sub (Bas.of b) fr) {tb:TB} {rd dr lx tA dT rl bd fl tko:Addr} {rows frs:List Value} {nf:Nat} {gg:Dt} {tw:Tok} {v sv ev:Value} (hnf:nf<900) (ok:(TK.at gg).ok) (hv:(TK.at gg).val tb d v) (Tb:a17 d tb bd rows nf)
  (I:a00 d tko 874 (a23 (.str (TK.at gg).word tw) v sv ev)) (T:Sit w.params b (fr.or d) (rdP rd dr lx tA fl frs++Tab w tb tA dT rl bd rows) h):
  a07 w A z (.ref 1111) [.ref rd,.ref tko] h t (λq h'=>X2 λd' fp'=>a48 w.params b fr d d' fp' h'/\X2 λtb' rows'=>A4 (Ext tb tb') (a17 d' tb' bd rows' nf) (Rep tb' d' q gg) (fp'=rdP rd dr lx tA fl frs++Tab w tb' tA dT rl bd rows')):=by
 have other:((TK.at gg).word==Str.ofString "symbol")=false->Rep tb d v gg->a07 w A z (.ref 1111) [.ref rd,.ref tko] h t (λq h'=>X2 λd' fp'=>a48 w.params b fr d d' fp' h'/\X2 λtb' rows'=>A4 (Ext tb tb') (a17 d' tb' bd rows' nf) (Rep tb' d' q gg) (fp'=rdP rd dr lx tA fl frs++Tab w tb' tA dT rl bd rows')):=λhw R=>by
  refine codeAny_mono (an5 (ba1 X G room (TK.val_handed hv) hw I T)) ?_
  rintro r s' ⟨q,h',t',rfl,rfl,d',fp',B,rfl,rfl,rfl⟩
  exact⟨_,_,_,rfl,rfl,d,_,B,tb,rows,Ext.refl,Tb,R,rfl⟩
 induction gg using Dt.casesOn with
 |sym s=>obtain⟨tv,rfl⟩:=hv;exact ba2 X G room hb hnf ok.1 Tb I T
 |int n=>exact other (by kernel_rfl!) hv
 |text cs=>exact other (by kernel_rfl!) hv
 |char c=>exact other (by kernel_rfl!) hv
 | _=>exact ok.elim
inductive Cl (ea:FrA) (g:Dt):Prop
 |lst (gs:List Dt):ea= .lst gs->an8 gs=some g->Cl ea g
 |vec (x y:Dt):ea= .vec [x,y]->g= .vec x y->Cl ea g
theorem b99 {ea:FrA} {st:List FrA} {o:Dt⊕List FrA} (h:b71 (ea::st) .cl=some o):∃g,o=dl st g/\Cl ea g:=by
 induction ea using FrA.casesOn with
 |quo m=>exact nsE h
 |lst gs=>
  have h:(an8 gs).map (dl st)=some o:=h
  cases hm:an8 gs with
  |none=>rw[hm] at h;exact nsE h
  |some g=>rw[hm] at h;exact⟨g,(Option.some.inj h).symm,.lst gs rfl hm⟩
 |vec gs=>
  rcases gs with _ |⟨x,_ |⟨y,_ |⟨u,r⟩⟩⟩
  ·exact nsE h
  ·exact nsE h
  ·exact ⟨_,(Option.some.inj h).symm,.vec x y rfl rfl⟩
  ·exact nsE h
theorem aV2 (X:a01 w K b) (G:KOk K) (room:a04 A 6) (hh:A.handled=none) (hb:Sub (Bas.of b) fr) {tb:TB} {rd dr lx tA fl:Addr} {frs:List Value} {tv:Value} {e:SE} {g:Dt} (hz:frs.length<10000) (hvz:e.vs.length<1000) (her:e.rep tb d) (c:Cl e.a g)
  (T:Sit w.params b (fr.or d) (rdP rd dr lx tA fl (frs++[.ref e.f])++[(e.ti,.list e.vs)]) h):
  a07 w A z (.ref 1104) [.ref rd,tv] h t (λq h'=>X2 λd' fp'=>a48 w.params b fr d d' fp' h'/\Rep tb d' q g/\fp'=rdP rd dr lx tA fl frs):=by
 obtain⟨a,f,ti,vs⟩:=e
 cases c with
 |lst gs e1 hm=>cases e1;exact aV1 X G room hh hb hz hvz her.2.2 hm her.2.1 T
 |vec x y e1 e2=>cases e1;subst e2;exact aV0 X G room hh hz hvz her.2.2 her.2.1 T
theorem aZ2 (X:a01 w K b) (G:KOk K) (room:a04 A 11) (hh:A.handled=none) (hb:Sub (Bas.of b) fr) {tb:TB} {rd dr lx dl_ tA dT rl bd fl0:Addr} {rows:List Value} {x:Str} {u0 u1 tq:Tok} {p nf:Nat} {g0:Dt} {todo:List (Nat × TK)} (hnf:nf<900) (hx:x.length<100000) (hlen:todo.length<=700) (hrun:run [] todo=some g0) (hok:aG0 todo) (hd:(cod x).drop p=aw7 todo) (hp:p<=x.length)
  (Tb:a17 d tb bd rows nf) (T:Sit w.params b (fr.or d) (rdF w tb rd dr lx dl_ tA dT rl bd fl0 rows x u0 u1 p tq []) h):
  a07 w A z (.ref 1069) [.ref rd] h t (λq h'=>X2 λd' fp'=>a48 w.params b fr d d' fp' h'/\X4 λtb' rows' fl tq'=>A4 (Ext tb tb') (a17 d' tb' bd rows' nf) (Rep tb' d' q g0) (fp'=rdF w tb' rd dr lx dl_ tA dT rl bd fl rows' x u0 u1 x.length tq' [])):=by
 refine en (binds:=[("self",.ref rd)]) G.bA1 X T room ?_
 kd_all
 dsimp only[List.reverse,List.reverseAux,rdF,rdP,Tab,ak1,List.cons_append,List.nil_append,stR,stF,List.map_nil] at S
 kd_subs
 obtain⟨fl,hfl⟩:∃q,q=a:=⟨a,rfl⟩
 subst hfl
 replace S:=S.pick (fp':=[_,_,_,_,_,_]) [1,0,3,4,5,6]
 refine a56 (λm h U=>X8 λ(d':Bas) (tb':TB) (rows':List Value) (st:List SE) (todo':List (Nat × TK)) (p':Nat) (tq':Tok) (qs:List (Str × Value))=>A11 (m=todo'.length) (aa2 fr d d') (Ext tb tb') (a17 d' tb' bd rows' nf) (run (stA st) todo'=some g0) (aG0 todo') ((cod x).drop p'=aw7 todo') (p'<=x.length)
   ((∀e∈st,e.rep tb' d'/\e.vs.length+todo'.length<=780)) (st.length+todo'.length<=780)
   (St w.params b (fr.or d') cx.L (("self",.ref rd)::qs) (rdF w tb' rd dr lx dl_ tA dT rl bd fl rows' x u0 u1 p' tq' st) h)) ?_ _ h _
  ⟨d,tb,rows,[],todo,p,tq,[],rfl,aa2.refl,Ext.refl,Tb,hrun,hok,hd,hp,λe he=>(by cases he),by simp;exact leT (by keq_rows),S⟩
 clear S
 rintro m h t ⟨d',tb',rows',st,todo',p',tq',qs,rfl,Gr,hx',Tb',hrun',hok',hd',hp',hst,hsz,S⟩ Jn nx
 induction todo' using List.casesOn with
 |nil=>induction st using List.casesOn<;>exact absurd hrun' (by simp [run])
 |cons kt r=>
  obtain⟨k,kk⟩:=kt
  obtain⟨o1,o2,o3⟩:=hok'
  have hd2:(cod x).drop p'=List.replicate k 32++(kk.cds++aw7 r):=hd'
  obtain⟨o,ho1,ho2⟩:=aZ1 hrun'
  have hrl:(List.length ((k,kk)::r))=r.length+1:=rfl
  rw[hrl] at hsz hst
  have hd3:=b97 hd2
  have hp3:p'+k+kk.cds.length<=x.length:=by
   have h1:=congrArg List.length hd2
   rw[List.length_drop,a40] at h1
   simp at h1
   lia
  dsimp only[rdF,rdP,Tab,ak1,List.cons_append,List.nil_append] at S
  kd_subs
  refine a03 [false,false,false,false,false,true] S hb (λfr' hs T=>aR8 (tb:=tb') X G (room.deeper (by decide)) hh (hb.trans (Sub.trans a29 hs)) hx o1 o2 hd2 hp' T) ?_
  clear S;rintro q h t d1 fp' G1 S ⟨tko,tw,v,ts,te,tk1,rfl,hv,I,rfl⟩
  kcf_m
  replace S:=St.pickT (a:=[_,_,_,_,_,_]) (fp':=[_,_,_,_,_,_]) S [1,2,3,4,5,0]
  dsimp only[List.cons_append,List.nil_append] at S
  have Tb1:=Tb'.sub G1.mono
  have hvh:=TK.val_handed hv
  have J1:a00 (fr.or d1) tko 874 [("word",.str kk.word tw),("value",v),("start",.int ((p'+k:Nat):Int) ts),("end",.int ((p'+k+kk.cds.length:Nat):Int) te)]:=I.sub a12
  have hst1:∀e∈st,e.rep tb' d1/\e.vs.length+(r.length+1)<=780:=λe he=>⟨(hst e he).1.mono Ext.refl G1.mono,(hst e he).2⟩
  kd_subs
  refine a32 400 false X G S (TK.w2 kk) ?_;clear S;kbo_bools
  kd_subs
  cases ho:kk.opn with
  |true=>
   refine a03 [true,true,true,true,true] S hb (λfr' hs T=>b04 X G (room.deeper (by decide)) hh (hb.trans (Sub.trans a29 hs)) hnf Tb1 (by lia) ho rfl I T) ?_
   clear S J1;rintro q h t d2 fp' G2 S ⟨tb2,rows2,e,rfl,x2,Tb2,hr,ha,hvl,rfl⟩
   dsimp+zetaDelta only[msk,rdP,Tab,List.cons_append,List.nil_append] at S
   replace S:=St.pickT (a:=[_,_,_,_,_,_,_]) (fp':=[_,_,_,_,_,_,_]) S [0,1,3,4,5,6,2]
   dsimp only[List.cons_append,List.nil_append] at S
   kd_subs
   have e1:o= .inr (stA (e::st)):=by
    have:b71 (stA st) kk=some (.inr (kk.fra::stA st)):=by induction kk using TK.casesOn<;>first |rfl |cases ho
    rw[this] at ho1
    rw[<-Option.some.inj ho1,<-ha]
    rfl
   rw[e1] at ho2
   refine nx (by simp) ⟨d2,tb2,rows2,e::st,r,_,tk1,_,rfl,(Gr.trans G1).trans G2,hx'.trans x2,Tb2,ho2,o3,hd3,hp3,?_,by simp;lia,S.front (by kernel_rfl)⟩
   intro e' he'
   rcases List.mem_cons.mp he' with rfl |he'
   ·exact ⟨hr,by lia⟩
   ·exact ⟨(hst1 e' he').1.mono x2 G2.mono,by have:=(hst1 e' he').2;lia⟩
  |false=>
   obtain⟨n1,n2,n3,n4⟩:=TK.w1 ho
   refine a03 [true,true,true,true,true] S hb (λfr' hs T=>an5 (b82 X G (room.deeper (by decide)) hh n1 n2 n3 I T)) ?_
   clear S;rintro q h t d2 fp' G2 S ⟨rfl,rfl,rfl⟩
   dsimp+zetaDelta only[msk,rdP,Tab,List.cons_append,List.nil_append] at S
   kd_subs
   rw[n4]
   refine a32 4 false X G S rfl ?_;keq_hits
   refine wpAny_mono (Q:=λv2 s₁=>X7 λ(h:Heap) (t:Nat) (d2:Bas) (tb2:TB) (rows2:List Value) (st2:List SE) (g2:Dt)=>A9 (s₁=sh z h t) (aa2 fr d1 d2) (Ext tb' tb2) (a17 d2 tb2 bd rows2 nf) (Rep tb2 d2 v2 g2) (b71 (stA st) kk=some (dl (stA st2) g2)) ((∀e∈st2,e∈st)) (st2.length<=st.length)
    (St w.params b (fr.or d2) cx.L (("token",.ref tko)::("self",.ref rd)::qs) (rdF w tb2 rd dr lx dl_ tA dT rl bd fl rows2 x u0 u1 (p'+k+kk.cds.length) tk1 st2) h)) ?_ (λv2 s₁ P=>?_) (λU V e=>e)
   ·induction kk using TK.casesOn with
    |op=>cases ho
    |vop=>cases ho
    |mk m=>cases ho
    |cl=>
     kd_subs
     induction st using List.casesOn with
     |nil=>cases ho1
     |cons e st2=>
      have hz1:st2.length<9000:=by simp at hsz;lia
      have her:=(hst1 e (.head _))
      obtain⟨g2,hg2,hc⟩:=b99 ho1
      dsimp+zetaDelta only at S
      rw[aa4] at S
      have S':St w.params b (fr.or d1) cx.L (("token",.ref tko)::("self",.ref rd)::qs) ((rd,.inst 1121 dr (a81 lx (.ref tA) fl))::(fl,.list (stR st2++[.ref e.f]))::(tA,_)::(rl,_)::(bd,_)::(lx,_)::(e.ti,.list e.vs)::stF st2) h:=S
      clear S;have S:=S';clear S'
      refine a03 [true,true,false,false,false,false,true] S hb (λfr' hs T=>aV2 X G (room.deeper (by decide)) hh (hb.trans (Sub.trans a29 hs)) (by rw[a65];exact ltT (by keq_rows)) (by have:=her.2;simp at this ⊢;lia) her.1 hc T) ?_
      clear S J1;rintro q h t d2 fp' G2 S ⟨R2,rfl⟩
      dsimp+zetaDelta only[msk,rdP,List.cons_append,List.nil_append] at S
      exact⟨h,t,d2,tb',rows',st2,g2,rfl,G2,Ext.refl,Tb1.sub G2.mono,R2,ho1.trans (congrArg some hg2),λe he=>.tail _ he,by simp,S⟩
    |«at» gg=>
     kd_subs
     refine a32 400 false X G S (bi6 gg) ?_;clear S;kbo_bools
     kd_subs
     refine a03 [true,true,true,true,true] S hb (λfr' hs T=>ba3 X G (room.deeper (by decide)) (hb.trans (Sub.trans a29 hs)) hnf o1 hv Tb1 I T) ?_
     clear S J1;rintro q h t d2 fp' G2 S ⟨tb2,rows2,x2,Tb2,R2,rfl⟩
     dsimp+zetaDelta only[msk,rdP,Tab,List.cons_append,List.nil_append] at S
     exact⟨h,t,d2,tb2,rows2,st,gg,rfl,G2,x2,Tb2,R2,rfl,λe he=>he,Nat.le_refl _,S⟩
   ·clear S
    obtain⟨h,t,d2,tb2,rows2,st2,g2,rfl,G2,x2,Tb2,R2,hr1,hsub,hle,S⟩:=P
    rw[hr1] at ho1
    have ho1:=Option.some.inj ho1
    have J2:a00 (fr.or d2) tko 874 [("word",.str kk.word tw),("value",v),("start",.int ((p'+k:Nat):Int) ts),("end",.int ((p'+k+kk.cds.length:Nat):Int) te)]:=(I.sub G2.mono).sub a12
    clear J1
    have hst2:∀e∈st2,e.rep tb2 d2/\e.vs.length+(r.length+1)<=780:=λe he=>⟨(hst1 e (hsub e he)).1.mono x2 G2.mono,(hst1 e (hsub e he)).2⟩
    dsimp only[rdF,rdP,Tab,ak1,List.cons_append,List.nil_append] at S
    kd_subs
    replace S:=S.perm (fp':=rFP rd dr lx tA fl st2++(Tab w tb2 tA dT rl bd rows2++ak1 lx dl_ x u0 u1 (p'+k+kk.cds.length) tk1)) b03
    rcases aO2 st2 with hq |⟨qs2,e0,st0,rfl,hq,hq0⟩
    ·refine aK7 S hb (λfr' hs T=>an5 (aC7 X G (room.deeper (by decide)) hh (by lia) hq (λe he=>(hst2 e he).1) T)) ?_
     clear S;rintro q h t d3 fp' G3 S ⟨rfl,rfl,rfl⟩
     dsimp only[rFP,rdP,List.cons_append,List.nil_append] at S
     kd_subs
     refine aK7 (f1:=rFP rd dr lx tA fl st2) (f2:=Tab w tb2 tA dT rl bd rows2++ak1 lx dl_ x u0 u1 (p'+k+kk.cds.length) tk1) S hb (λfr' hs T=>b21 X G (room.deeper (by decide)) hh (hb.trans (Sub.trans a29 hs)) (by lia) hq (λe he=>(hst2 e he).1) R2 T) ?_
     clear S;rintro q h t d3 fp' G3 S ⟨R3,rfl⟩
     rw[bq3 hq] at ho1
     rw[<-ho1] at ho2
     have ho2:(if r.isEmpty then some (unq (stA st2) g2).1 else none)=some g0:=ho2
     induction r using List.casesOn with
     |cons U V=>cases ho2
     |nil=>
      have hg:(unq (stA st2) g2).1=g0:=Option.some.inj ho2
      have hpx:p'+k+kk.cds.length=x.length:=by
       have:=congrArg List.length hd3
       rw[List.length_drop,a40] at this
       simp [aw7] at this
       lia
      rw[hg] at R3
      rw[hpx] at S
      exact rT.s ⟨d3,_,(((Gr.trans G1).trans G2).trans G3).back S.sit,tb2,rows2,fl,tk1,hx'.trans x2,Tb2.sub G3.mono,R3,rfl⟩
    ·have hz2:(qs2++e0::st0).length<9000:=by lia
     refine aK7 S hb (λfr' hs T=>aH2 X G (room.deeper (by decide)) hh (hb.trans (Sub.trans a29 hs)) hz2 hq hq0 (λe he=>(hst2 e he).1) R2 T) ?_
     clear S;rintro q h t d3 fp' G3 S ⟨v3,rfl,R3,rfl⟩
     rw[dl_in hq hq0] at ho1
     rw[<-ho1] at ho2
     have he0:=hst2 e0 (by simp)
     have S':St w.params b (fr.or d3) cx.L (("datum",v2)::("token",.ref tko)::("self",.ref rd)::qs) (rFP rd dr lx tA fl (⟨e0.a.snoc (unq (stA qs2) g2).1,e0.f,e0.ti,e0.vs++[v3]⟩::st0)++(Tab w tb2 tA dT rl bd rows2++ak1 lx dl_ x u0 u1 (p'+k+kk.cds.length) tk1)) h:=S
     clear S;have S:=S';clear S'
     kd_subs
     refine nx (by simp) ⟨d3,tb2,rows2,⟨e0.a.snoc (unq (stA qs2) g2).1,e0.f,e0.ti,e0.vs++[v3]⟩::st0,r,_,tk1,_,rfl,((Gr.trans G1).trans G2).trans G3,hx'.trans x2,Tb2.sub G3.mono,ho2,o3,hd3,hp3,?_,by simp at hle ⊢;lia,(S.perm (fp':=rdF w tb2 rd dr lx dl_ tA dT rl bd fl rows2 x u0 u1 (p'+k+kk.cds.length) tk1 _) b03.symm).front (by kernel_rfl)⟩
     intro e' he'
     rcases List.mem_cons.mp he' with rfl |he'
     ·exact ⟨(he0.1.mono Ext.refl G3.mono).snoc hq0 (by lia) R3,by simp;lia⟩
     ·have:=hst2 e' (by simp [he'])
      exact⟨this.1.mono Ext.refl G3.mono,by lia⟩
end
section
theorem aT3 (X:a01 w K b) (G:KOk K) (room:a04 A 4) {text:Str} {u0 u1:Tok} {tA:Addr} {Q:Value->Shared->Prop} (S:St w.params b g L l fp h)
  (k:∀x dx lx dlx fr tk h'' t'',St w.params b g L l ((fr,.list [])::(lx,.inst 1015 dlx (ab1 text u0 (.int 53 u1) 0 tk))::(x,.inst 1121 dx (a81 lx (.ref tA) fr))::fp) h''->Q (.ref x) (sh z h'' t'')):wpAny (model pw w) A (call (.ref 1121) [.str text u0,.ref tA,.int 53 u1,.bool true]) Q E (sh z h t):=
 aF4 (pa:=λx fp'=>X5 λdx lx dlx fr tk=>fp'=[(fr,.list []),(lx,.inst 1015 dlx (ab1 text u0 (.int 53 u1) 0 tk)),(x,.inst 1121 dx (a81 lx (.ref tA) fr))]) S X G.bC2 (λU V U1 V1 T=>by
  refine codeAny_mono (aN3 X G (room.make (by decide)) T) ?_
  rintro r s' ⟨v,h',t',rfl,rfl,hv,lx,dlx,fr,tk,T'⟩
  exact⟨_,_,_,rfl,rfl,hv,_,⟨_,lx,dlx,fr,tk,rfl⟩,T'⟩) λx fp' h'' t'' ⟨dx,lx,dlx,fr,tk,e⟩ S'=>by subst e;exact k x dx lx dlx fr tk h'' t'' S'
theorem aS9 (X:a01 w K b) (G:KOk K) (room:a04 A 1) {rd dr lx dl_ tA fl:Addr} {x:Str} {u0 u1 tq:Tok} {p:Nat} (T:Sit w.params b g [(rd,.inst 1121 dr (a81 lx (.ref tA) fl)),(lx,.inst 1015 dl_ (ab1 x u0 (.int 53 u1) (p:Int) tq))] h):
  a07 w A z (.ref 1062) [.ref rd] h t (λq h'=>∃fp',Sit w.params b g fp' h'/\fp'=[(rd,.inst 1121 dr (a81 lx (.ref tA) fl)),(lx,.inst 1015 dl_ (ab1 x u0 (.int 53 u1) (p:Int) tq))]/\q= .int (p:Int) tq):=by
 refine en (binds:=[("self",.ref rd)]) G.bA4 X T room ?_
 kd_in
 exact rT.s ⟨_,S.sit,rfl,rfl⟩
theorem b73 (X:a01 w K b) (G:KOk K) (room:a04 A 6) (hh:A.handled=none) (hb:Sub (Bas.of b) fr) {tb:TB} {rd dr lx dl_ tA dT rl bd fl0:Addr} {rows:List Value} {x:Str} {u0 u1 tq:Tok} (hx:x.length<100000)
  (T:Sit w.params b (fr.or d) (rdF w tb rd dr lx dl_ tA dT rl bd fl0 rows x u0 u1 x.length tq []) h):
  a07 w A z (.ref 1069) [.ref rd] h t (λq h'=>X2 λd' fp'=>a48 w.params b fr d d' fp' h'/\X2 λfl tq'=>q= .ref 50/\fp'=rdF w tb rd dr lx dl_ tA dT rl bd fl rows x u0 u1 x.length tq' []):=by
 refine en (binds:=[("self",.ref rd)]) G.bA1 X T room ?_
 kd_all
 dsimp only[List.reverse,List.reverseAux,rdF,rdP,Tab,ak1,List.cons_append,List.nil_append,stR,stF,List.map_nil] at S
 kd_subs
 obtain⟨fl,hfl⟩:∃q,q=a:=⟨a,rfl⟩
 subst hfl
 replace S:=S.pick (fp':=[_,_,_,_,_,_]) [1,0,3,4,5,6]
 refine aB7 ?_
 have hd:(cod x).drop x.length=List.replicate 0 32:=by rw[<-a40,List.drop_length];rfl
 kd_subs
 refine a03 [false,false,false,false,false,true] S hb (λfr' hs T=>aX6 X G (room.deeper (by decide)) hh hx hd (Nat.le_refl _) T) ?_
 clear S;rintro q h t d1 fp' G1 S ⟨tko,tw,v,ts,te,tk1,rfl,hv,I,rfl⟩
 kcf_m
 replace S:=S.pick (fp':=[_,_,_,_,_,_]) [1,2,3,4,5,0]
 have J1:a00 (fr.or d1) tko 874 [("word",.str (Str.ofString "end") tw),("value",v),("start",.int ((x.length+0:Nat):Int) ts),("end",.int ((x.length+0:Nat):Int) te)]:=I.sub a12
 kd_subs
 refine as8 (S.isList 2 rfl) (S.isList 0 rfl) (by have:=(room.of 0 (by decide)).2;lia) ?_
 replace S:=S.drop (List.sublist_cons_self _ _)
 kd_subs
 exact rT.s ⟨d1,_,G1.back S.sit,fl,tk1,rfl,rfl⟩
theorem bf2 (X:a01 w K b) (G:KOk K) (hb:Sub (Bas.of b) fr) {tb:TB} {v:Value} {g0:Dt} (hr:g0.rd) (R:Rep tb d v g0) {Q:Value->Shared->Prop} (S:St w.params b (fr.or d) L l fp h) (k:Q (.bool false) (sh z h t)):
  wpAny (model pw w) A (compareOp .Is v (.ref 50)) Q E (sh z h t):=by
 have at_:(∀n,g0≠ .int n)->g0.cls≠38->wpAny (model pw w) A (compareOp .Is v (.ref 50)) Q E (sh z h t):=by
  intro h1 h2
  obtain⟨a,al,rfl,I⟩:=Rep.inst X G hb R h1
  exact ar8 (S.binst I) (b92 G X S) k (b11 h2)
 induction g0 using Dt.casesOn with
 |int n=>obtain⟨u,rfl⟩:=R;exact aN6 k
 |nil=>
  rw[show v= .ref 44 from R]
  exact b59 (a14 G X S) (b92 G X S) k
 |sym s=>exact at_ (λn e=>by cases e) (Nat.ne_of_beq_eq_false rfl)
 |text cs=>exact at_ (λn e=>by cases e) (Nat.ne_of_beq_eq_false rfl)
 |char c=>exact at_ (λn e=>by cases e) (Nat.ne_of_beq_eq_false rfl)
 |vec a c=>exact at_ (λn e=>by cases e) (Nat.ne_of_beq_eq_false rfl)
 |q1 m a=>exact at_ (λn e=>by cases e) (Nat.ne_of_beq_eq_false rfl)
 |q2 m a c=>exact at_ (λn e=>by cases e) (Nat.ne_of_beq_eq_false rfl)
 | _=>exact hr.elim
theorem aA7 (X:a01 w K b) (G:KOk K) (room:a04 A 12) (hh:A.handled=none) (hb:Sub (Bas.of b) fr) {tb:TB} {tA dT rl bd:Addr} {rows:List Value} {x:Str} {u0:Tok} {nf:Nat} {g0:Dt} (hnf:nf<900) (hx:x.length<100000) (hr:g0.rd) (he:x=g0.txt true true 10) (hlen:(toks 0 g0).length<=700)
  (Tb:a17 d tb bd rows nf) (T:Sit w.params b (fr.or d) (Tab w tb tA dT rl bd rows) h):
  a07 w A z (.ref 1133) [.str x u0,.ref tA] h t (λq h'=>X2 λd' fp'=>a48 w.params b fr d d' fp' h'/\X2 λtb' rows'=>A4 (Ext tb tb') (a17 d' tb' bd rows' nf) (Rep tb' d' q g0) (fp'=Tab w tb' tA dT rl bd rows')):=by
 obtain⟨p1,p2,p3⟩:=aS5 hr
 refine en (binds:=[("text",.str x u0),("table",.ref tA),("precision",.int 53 1812),("is_folded",.bool true)]) G.bw6 X T room ?_ (hbind:=ag1 X T G.t_1126 (by kernel_rfl) rfl (by kernel_rfl))
 kd_all
 dsimp only[List.reverse,List.reverseAux,Tab] at S
 kd_subs
 refine aT3 X G (room.deeper (by decide)) S ?_;clear S;intro rd dr lx dlx fl tk h t S
 replace S:=S.pick (fp':=[_,_,_,_,_,_]) [2,0,3,4,5,1]
 kd_subs
 refine a45 S hb (λfr' hs T=>aZ2 X G (room.deeper (by decide)) hh (hb.trans (Sub.trans a29 hs)) (p:=0) hnf hx hlen p1 p2 (by rw[p3,he];rfl) (Nat.zero_le _) Tb T) ?_
 clear S;rintro q h t d1 fp' G1 S ⟨tb1,rows1,fl1,tq1,x1,Tb1,R1,rfl⟩
 dsimp only[rdF,rdP,Tab,ak1,List.cons_append,List.nil_append] at S
 kd_subs
 refine bf2 X G hb hr R1 S ?_
 kd_subs
 refine a05 [true,false,false,false,false,true] S (λg' hs T=>aS9 X G (room.deeper (by decide)) T) ?_
 clear S;rintro q1 h t fp' S ⟨rfl,rfl⟩
 kcf_m
 replace S:=S.pick (fp':=[_,_,_,_,_,_]) [0,2,3,4,5,1]
 kd_subs
 refine a45 S hb (λfr' hs T=>b73 (tb:=tb1) X G (room.deeper (by decide)) hh (hb.trans (Sub.trans a29 hs)) hx T) ?_
 clear S;rintro q2 h t d2 fp' G2 S ⟨fl2,tq2,rfl,rfl⟩
 dsimp only[rdF,rdP,Tab,ak1,List.cons_append,List.nil_append] at S
 kd_subs
 refine ap1 (b92 G X S) (b92 G X S) ?_
 kd_subs
 exact rT.s ⟨d2,_,(G1.trans G2).back (S.pick (fp':=[_,_,_]) [2,3,4]).sit,tb1,rows1,x1,Tb1.sub G2.mono,R1.mono Ext.refl G2.mono,rfl⟩
end
section
noncomputable abbrev mX (u0 u1 u2:Value):Str->Option Value:=λx=>if x=Str.ofString "limit" then some u2 else if x=Str.ofString "irritants" then some u1 else if x=Str.ofString "word" then some u0 else none
theorem as6 (X:a01 w K b) (G:KOk K) (GX:KX K) (room:a04 A 1) {e tA:Addr} {u0 u1:Value} (T:Sit w.params b g [(e,.cell (bo9 tA))] h):
  a07 w A z (.ref 361) [.ref e,u0,u1] h t (λr h'=>∃fp',Sit w.params b g fp' h'/\r= .none/\∃dx,fp'=[(dx,.cell (isN λx=>if x=Str.ofString "irritants" then some u1 else if x=Str.ofString "word" then some u0 else none)),(e,.cell (isX tA dx))]):=by
 refine en (binds:=[("self",.ref e),("word",u0),("irritants",u1)]) G.bt3 X T room ?_
 kd_in
 refine bj9 0 X GX S rfl (.head _) ?_;clear S;intro dx h t S;dsimp+zetaDelta only[List.set] at S
 kd_subs
 refine bk0 1 0 X GX S rfl rfl (.tail _ (.head _)) (Within.cons _ _ Within.nil) (by decide) ?_;clear S;intro h t S;dsimp+zetaDelta only[List.set] at S
 kd_subs
 exact rT.n ⟨_,S.sit,rfl,dx,rfl⟩
theorem aI1 (X:a01 w K b) (G:KOk K) (GX:KX K) (room:a04 A 2) {e tA:Addr} {u:Value} (T:Sit w.params b g [(e,.cell (bo9 tA))] h):
  a07 w A z (.ref 419) [.ref e,u] h t (λr h'=>∃fp',Sit w.params b g fp' h'/\r= .none/\X3 λdx u0 u1=>fp'=[(dx,.cell (isN (mX u0 u1 u))),(e,.cell (isX tA dx))]):=by
 refine en (binds:=[("self",.ref e),("limit",u)]) G.bt6 X T room ?_
 kd_all
 have kS:=G.bt3.keep
 dsimp only[List.reverse,List.reverseAux] at S
 kd_subs
 refine aF5 S X GX.mt ?_
 kd_subs
 refine a05 [false,true] S (λg' hs T=>as6 X G GX (room.deeper (by decide)) T) ?_
 clear S;rintro r h t fp' S ⟨rfl,dx,rfl⟩
 kcf_m
 kd_subs
 refine bk0 1 0 X GX S rfl rfl (.tail _ (.tail _ (.head _))) (Within.cons _ _ (Within.cons _ _ Within.nil)) (by decide) ?_;clear S;intro h t S;dsimp+zetaDelta only[List.set] at S
 kd_subs
 exact rT.n ⟨_,(S.pick (fp':=[_,_]) [0,1]).sit,rfl,dx,_,_,rfl⟩
theorem aL2 (X:a01 w K b) (G:KOk K) (GX:KX K) (room:a04 A 3) {u:Value} {Q:Value->Shared->Prop} (S:St w.params b g L l fp h)
  (k:∀e tA dx u0 u1 h' t',St w.params b g L l ((dx,.cell (isN (mX u0 u1 u)))::(e,.cell (isX tA dx))::fp) h'->Q (.ref e) (sh z h' t')):wpAny (model pw w) A (call (.ref 422) [u]) Q E (sh z h t):=by
 refine bk5 X GX S λe tA h' S'=>?_
 refine a05 [true] S' (λg' hs T=>aI1 X G GX (room.make (by decide)) T) ?_
 rintro r h2 t2 fp' S2 ⟨rfl,dx,u0,u1,rfl⟩
 dsimp+zetaDelta only[msk,List.cons_append,List.nil_append] at S2
 exact⟨rfl,k e tA dx u0 u1 h2 t2 S2⟩
end
section
variable {B0:Heap} {outer:List Env}
theorem kfn {env:Env} (h:env.scope.kind= .function:=by kernel_rfl):env.scope.kind≠ .module:=by rw[h];intro q;cases q
theorem a58.sub {f:Value} {args:List Value} {g':Bas} {lim:Value} (x:a58 w A z f args h t B0 outer g lim) (s:Sub g' g):a58 w A z f args h t B0 outer g' lim:=by
 refine codeAny_mono x ?_
 rintro r s' ⟨v,h1,e,h',t',h2,h3,ex,kp⟩
 exact⟨v,h1,e,h',t',h2,h3,ex,kp.sub s⟩
theorem a89 (X:a01 w K b) (G:KOk K) (GX:KX K) (room:a04 A 4) (hh:A.handled=none) (hfr:A.frames=some outer) {x dx pl wl:Addr} {iw:Bool} {tab:Value} {r:Nat} {pt rt tk u tkk:Tok} {n0 k:Int} {p:Str} {ps:List Value} (hp:p.length<1000000) (hps:ps.length<1000000) (hf:k<n0+(p.length:Int))
  (hB:Sub (Bas.of B0) g) (hF:Frs B0 g outer)
  (T:Sit w.params b g [(pl,.list ps),(x,.inst 1227 dx (ba5 iw pt r rt (.int k tkk) tab pl n0 tk wl))] h):
  a58 w A z (.ref 1196) [.ref x,.str p u] h t B0 outer g (.int k tkk):=by
 refine enT (binds:=[("self",.ref x),("piece",.str p u)]) G.bB5 X T room hfr (BindsTo.of_eq (by kernel_rfl)) (by kernel_rfl) ?_
 intro cx hH room hfr' esc h t S
 replace hh:=hH.trans hh
 dsimp only[List.reverse,List.reverseAux] at S
 kd_subs
 refine a02 0 S rfl (szE (ltl (by keq_rows))) ?_;kcj_m
 kd_subs
 refine a09 (by lia) ?_;intro tk2
 kd_subs
 refine a32 400 true X G S (by simpa using hf) ?_;clear S;kbo_bools
 kd_subs
 refine be3 GX hh ?_
 kd_subs
 refine m_own 400 X G S GX.keep (by kernel_rfl) ?_;clear S;kbo_bools
 kd_subs
 refine aL2 X G GX (room.deeper (by decide)) S ?_
 clear S;intro e tA dx' u0 u1 h t S
 obtain⟨oe,he,hoe⟩:=S.own.at_ _ (.tail _ (.head _))
 have hoe:oe=_:=hoe
 subst hoe
 exact⟨e,tA,dx',rfl,S.kin X,he,esc ⟨e,h,t,rfl,rfl,.inr (.inr (b95 S hB hF rfl kfn))⟩⟩
end
section
variable {B0:Heap} {outer:List Env}
theorem aT0 (X:a01 w K b) (G:KOk K) (GX:KX K) (room:a04 A 5) (hh:A.handled=none) (hfr:A.frames=some outer) {x dx pl wl p:Addr} {iw:Bool} {c rest:Value} {r:Nat} {pt rt tk tkk:Tok} {n0 k:Int} {vs ps:List Value}
  (hps:ps.length<1000000) (hf:k<n0+((Str.ofString "(").length:Int)) (I:a00 d p 152 [("car",c),("cdr",rest)])
  (hB:Sub (Bas.of B0) (fr.or d)) (hF:Frs B0 (fr.or d) outer)
  (T:Sit w.params b (fr.or d) (ag3 x dx pl wl iw pt r rt (.int k tkk) .none n0 tk vs ps []) h):
  a58 w A z (.ref 1210) [.ref x,.ref p] h t B0 outer (fr.or d) (.int k tkk):=by
 refine enT (binds:=[("self",.ref x),("thing",.ref p)]) G.bs4 X T room hfr (BindsTo.of_eq (by kernel_rfl)) (by kernel_rfl) ?_
 intro cx hH room hfr' esc h t S
 replace hh:=hH.trans hh
 dsimp only[List.reverse,List.reverseAux] at S
 have J1:a00 (fr.or d) p 152 [("car",c),("cdr",rest)]:=I.sub a12
 kd_subs
 exact ab0 (fp₁:=[_,_]) (fp₂:=[_]) esc (S.pick [1,2,0]) hB hF (by kernel_rfl) λfr' hs hF' T=>(a89 X G GX (room.deeper (by decide)) hh hfr' (by decide+kernel) hps hf (hB.trans (hs.trans a29)) (hF'.sub a29) T).sub a29
theorem ay4 (X:a01 w K b) (G:KOk K) (GX:KX K) (room:a04 A 5) (hh:A.handled=none) (hfr:A.frames=some outer) {x dx pl wl p:Addr} {iw:Bool} {c rest:Value} {r:Nat} {pt rt tk tkk:Tok} {n0 k:Int} {vs ps:List Value}
  (hps:ps.length<1000000) (hf:k<n0+((Str.ofString " ").length:Int)) (I:a00 d p 152 [("car",c),("cdr",rest)])
  (hB:Sub (Bas.of B0) (fr.or d)) (hF:Frs B0 (fr.or d) outer)
  (T:Sit w.params b (fr.or d) (ag3 x dx pl wl iw pt r rt (.int k tkk) .none n0 tk vs ps []) h):
  a58 w A z (.ref 1217) [.ref x,.ref p] h t B0 outer (fr.or d) (.int k tkk):=by
 refine enT (binds:=[("self",.ref x),("thing",.ref p)]) G.bu7 X T room hfr (BindsTo.of_eq (by kernel_rfl)) (by kernel_rfl) ?_
 intro cx hH room hfr' esc h t S
 replace hh:=hH.trans hh
 dsimp only[List.reverse,List.reverseAux] at S
 have J1:a00 (fr.or d) p 152 [("car",c),("cdr",rest)]:=I.sub a12
 kd_subs
 refine ar8 (S.binst J1) (a14 G X S) ?_
 kd_subs
 exact ab0 (fp₁:=[_,_]) (fp₂:=[_]) esc (S.pick [1,2,0]) hB hF (by kernel_rfl) λfr' hs hF' T=>(a89 X G GX (room.deeper (by decide)) hh hfr' (by decide+kernel) hps hf (hB.trans (hs.trans a29)) (hF'.sub a29) T).sub a29
theorem aK1 (X:a01 w K b) (G:KOk K) (GX:KX K) (room:a04 A 5) (hh:A.handled=none) (hfr:A.frames=some outer) {x dx pl wl:Addr} {iw:Bool} {r:Nat} {pt rt tk tkk:Tok} {n0 k:Int} {vs ps:List Value}
  (hps:ps.length<1000000) (hf:k<n0+((Str.ofString ")").length:Int))
  (hB:Sub (Bas.of B0) (fr.or d)) (hF:Frs B0 (fr.or d) outer)
  (T:Sit w.params b (fr.or d) (ag3 x dx pl wl iw pt r rt (.int k tkk) .none n0 tk vs ps []) h):
  a58 w A z (.ref 1217) [.ref x,.ref 44] h t B0 outer (fr.or d) (.int k tkk):=by
 refine enT (binds:=[("self",.ref x),("thing",.ref 44)]) G.bu7 X T room hfr (BindsTo.of_eq (by kernel_rfl)) (by kernel_rfl) ?_
 intro cx hH room hfr' esc h t S
 replace hh:=hH.trans hh
 dsimp only[List.reverse,List.reverseAux] at S
 kd_subs
 refine b59 (a14 G X S) (a14 G X S) ?_
 kd_subs
 exact ab0 (fp₁:=[_,_]) (fp₂:=[_]) esc (S.pick [1,2,0]) hB hF (by kernel_rfl) λfr' hs hF' T=>(a89 X G GX (room.deeper (by decide)) hh hfr' (by decide+kernel) hps hf (hB.trans (hs.trans a29)) (hF'.sub a29) T).sub a29
theorem aa8 (X:a01 w K b) (G:KOk K) (GX:KX K) (room:a04 A 7) (hh:A.handled=none) (hfr:A.frames=some outer) {x dx pl wl p:Addr} {iw:Bool} {c rest:Value} {r:Nat} {pt rt tk tkk:Tok} {n0 k:Int} {vs ps:List Value}
  (hps:ps.length<1000000) (hf:k<n0+((Str.ofString "(").length:Int)) (I:a00 d p 152 [("car",c),("cdr",rest)])
  (hB:Sub (Bas.of B0) (fr.or d)) (hF:Frs B0 (fr.or d) outer)
  (T:Sit w.params b (fr.or d) (ag3 x dx pl wl iw pt r rt (.int k tkk) .none n0 tk vs ps []) h):
  a58 w A z (.ref 1203) [.ref x,.ref p] h t B0 outer (fr.or d) (.int k tkk):=by
 refine enT (binds:=[("self",.ref x),("thing",.ref p)]) G.bt1 X T room hfr (BindsTo.of_eq (by kernel_rfl)) (by kernel_rfl) ?_
 intro cx hH room hfr' esc h t S
 replace hh:=hH.trans hh
 dsimp only[List.reverse,List.reverseAux] at S
 have J1:a00 (fr.or d) p 152 [("car",c),("cdr",rest)]:=I.sub a12
 kd_subs
 exact ab0 (fp₁:=[_,_,_]) (fp₂:=[]) esc (S.pick [0,1,2]) hB hF (by kernel_rfl) λfr' hs hF' T=>(aT0 X G GX (room.deeper (by decide)) hh hfr' hps hf I (hB.trans (hs.trans a29)) (hF'.sub a29) T).sub a29
theorem aH3 (X:a01 w K b) (G:KOk K) (GX:KX K) (room:a04 A 7) (hh:A.handled=none) (hfr:A.frames=some outer) {tb:TB} {x dx pl wl:Addr} {iw:Bool} {v:Value} {g1 g2:Dt} {r:Nat} {pt rt tk tkk:Tok} {n0 k:Int} {vs ps:List Value}
  (hps:ps.length<1000000) (hf:k<n0+((Str.ofString "#(").length:Int)) (R:Rep tb d v (.vec g1 g2))
  (hB:Sub (Bas.of B0) (fr.or d)) (hF:Frs B0 (fr.or d) outer)
  (T:Sit w.params b (fr.or d) (ag3 x dx pl wl iw pt r rt (.int k tkk) .none n0 tk vs ps []) h):
  a58 w A z (.ref 1203) [.ref x,v] h t B0 outer (fr.or d) (.int k tkk):=by
 obtain⟨av,lv,v1,v2,rfl,I,Il,R1,R2⟩:=R
 refine enT (binds:=[("self",.ref x),("thing",.ref av)]) G.bt1 X T room hfr (BindsTo.of_eq (by kernel_rfl)) (by kernel_rfl) ?_
 intro cx hH room hfr' esc h t S
 replace hh:=hH.trans hh
 dsimp only[List.reverse,List.reverseAux] at S
 have J:a00 (fr.or d) av 215 [("things",.ref lv)]:=I.sub a12
 kd_subs
 exact ab0 (fp₁:=[_,_]) (fp₂:=[_]) esc (S.pick [1,2,0]) hB hF (by kernel_rfl) λfr' hs hF' T=>(a89 X G GX (room.deeper (by decide)) hh hfr' (by decide+kernel) hps hf (hB.trans (hs.trans a29)) (hF'.sub a29) T).sub a29
theorem aH4 (X:a01 w K b) (G:KOk K) (GX:KX K) (room:a04 A 7) (hh:A.handled=none) (hfr:A.frames=some outer) (hb:Sub (Bas.of b) fr) {tb:TB} {x dx pl wl:Addr} {iw:Bool} {v:Value} {g:Dt} {r:Nat} {pt rt tk tkk:Tok} {n0 k:Int} {vs ps:List Value}
  (hr2:2<=r) (hr:r<=16) (ok:g.ok iw) (ha:g.isAtom=true) (hl:(g.atomT iw r).length<1000000)
  (hps:ps.length<1000000) (hf:k<n0+((g.atomT iw r).length:Int)) (R:Rep tb d v g)
  (hB:Sub (Bas.of B0) (fr.or d)) (hF:Frs B0 (fr.or d) outer)
  (T:Sit w.params b (fr.or d) (ag3 x dx pl wl iw pt r rt (.int k tkk) .none n0 tk vs ps []) h):
  a58 w A z (.ref 1203) [.ref x,v] h t B0 outer (fr.or d) (.int k tkk):=by
 refine enT (binds:=[("self",.ref x),("thing",v)]) G.bt1 X T room hfr (BindsTo.of_eq (by kernel_rfl)) (by kernel_rfl) ?_
 intro cx hH room hfr' esc h t S
 replace hh:=hH.trans hh
 dsimp only[List.reverse,List.reverseAux] at S
 by_cases hi:∃n,g= .int n
 ·obtain ⟨n,rfl⟩:=hi
  obtain⟨u,rfl⟩:=id R
  kd_subs
  refine a05 [false,false,true] S (λg' hs T=>ak0 X G (room.deeper (by decide)) hh (Sub.trans a12 hs) hr2 hr ok ha R T) ?_
  clear S;rintro q h t fp' S ⟨rfl,tk1,rfl⟩
  kcf_m
  kd_subs
  exact ab0 (fp₁:=[_,_]) (fp₂:=[_]) esc (S.pick [2,0,1]) hB hF (by kernel_rfl) λfr' hs hF' T=>(a89 X G GX (room.deeper (by decide)) hh hfr' hl hps hf (hB.trans (hs.trans a29)) (hF'.sub a29) T).sub a29
 ·obtain ⟨a,al,rfl,I⟩:=Rep.inst X G hb R (λn e=>hi ⟨n,e⟩)
  have h1:aJ0.contains g.cls=true:=by induction g using Dt.casesOn<;>first |exact absurd ⟨_,rfl⟩ hi |kernel_rfl!
  have h2:rel g.cls 152=false:=by induction g using Dt.casesOn<;>first |kernel_rfl! |exact absurd ha Bool.false_ne_true
  have h3:rel g.cls 215=false:=by induction g using Dt.casesOn<;>first |kernel_rfl! |exact absurd ha Bool.false_ne_true
  kd_subs
  refine aR2 S X G (S.binst I) h1 (by kernel_rfl!) ?_;intro t
  rw[h2]
  kd_subs
  refine aR2 S X G (S.binst I) h1 (by kernel_rfl!) ?_;intro t
  rw[h3]
  kd_subs
  refine a05 [false,false,true] S (λg' hs T=>ak0 X G (room.deeper (by decide)) hh (Sub.trans a12 hs) hr2 hr ok ha R T) ?_
  clear S;rintro q h t fp' S ⟨rfl,tk1,rfl⟩
  kcf_m
  kd_subs
  exact ab0 (fp₁:=[_,_]) (fp₂:=[_]) esc (S.pick [2,0,1]) hB hF (by kernel_rfl) λfr' hs hF' T=>(a89 X G GX (room.deeper (by decide)) hh hfr' hl hps hf (hB.trans (hs.trans a29)) (hF'.sub a29) T).sub a29
theorem Rep.pair {tb:TB} {d:Bas} {v:Value} {g:Dt} (R:Rep tb d v g) (hc:g.cls=152):X3 λp c rest=>v= .ref p/\a00 d p 152 [("car",c),("cdr",rest)]:=by
 induction g using Dt.casesOn with
 |q1 m g1=>
  obtain⟨ad,vx,⟨p,rest,e,I1,_⟩,_⟩:=R
  exact⟨p,_,rest,e,I1⟩
 |q2 m g1 g2=>
  obtain⟨ad,vx,vy,⟨p,rest,e,I1,_⟩,_⟩:=R
  exact⟨p,_,rest,e,I1⟩
 | _=>cases hc
theorem aM4 (X:a01 w K b) (G:KOk K) (GX:KX K) (room:a04 A 7) (hh:A.handled=none) (hfr:A.frames=some outer) (hb:Sub (Bas.of b) fr) {tb:TB} {x dx pl wl:Addr} {iw:Bool} {v:Value} {g:Dt} {r:Nat} {pt rt tk tkk:Tok} {n0 k:Int} {vs ps:List Value}
  (hr2:2<=r) (hr:r<=16) (ok:g.ok iw) (hl:(g.txt false iw r).length<1000000)
  (hps:ps.length<1000000) (hf:k<n0+((a19.step false iw r (.datum g)).1.length:Int)) (R:Rep tb d v g)
  (hB:Sub (Bas.of B0) (fr.or d)) (hF:Frs B0 (fr.or d) outer)
  (T:Sit w.params b (fr.or d) (ag3 x dx pl wl iw pt r rt (.int k tkk) .none n0 tk vs ps []) h):
  a58 w A z (.ref 1203) [.ref x,v] h t B0 outer (fr.or d) (.int k tkk):=by
 by_cases ha:g.isAtom=true
 ·rw [ah8 ha] at hf
  rw[ag4 ha] at hl
  exact aH4 X G GX room hh hfr hb hr2 hr ok ha hl hps hf R hB hF T
 ·induction g using Dt.casesOn with
  |vec a c=>exact aH3 X G GX room hh hfr hps hf R hB hF T
  |q1 m a=>
   obtain⟨p,c,rest,rfl,I⟩:=R.pair rfl
   exact aa8 X G GX room hh hfr hps hf I hB hF T
  |q2 m a c=>
   obtain⟨p,c,rest,rfl,I⟩:=R.pair rfl
   exact aa8 X G GX room hh hfr hps hf I hB hF T
  | _=>exact absurd rfl ha
end
section
variable {B0:Heap} {outer:List Env}
noncomputable def RawP (d':Bas) (fp':FP) (x dx pl wl:Addr) (iw:Bool) (pt:Tok) (r:Nat) (rt:Tok) (lim:Value) (n0:Int) (vs ps:List Value) (p:Str) (c rest:Value):Prop:=
 X6 λa1 a2 tk' u tk1 tk2=>A3 (aw4 d' a1 [.int 2 tk1,rest]) (aw4 d' a2 [.int 1 tk2,c]) (fp'=ag3 x dx pl wl iw pt r rt lim .none (n0+(p.length:Int)) tk' (vs++[.ref a1,.ref a2]) (ps++[.str p u]) [])
theorem b78 (X:a01 w K b) (G:KOk K) (room:a04 A 2) {x dx pl wl p:Addr} {iw:Bool} {lim c rest:Value} {r:Nat} {pt rt tk:Tok} {n0:Int} {vs ps:List Value}
  (hps:ps.length<1000000) (hvs:vs.length<1000000) (hf:aw5 lim (n0+((Str.ofString "(").length:Int))) (I:a00 d p 152 [("car",c),("cdr",rest)]) (hc:handedIn c=true) (hr:handedIn rest=true)
  (T:Sit w.params b (fr.or d) (ag3 x dx pl wl iw pt r rt lim .none n0 tk vs ps []) h):
  a07 w A z (.ref 1210) [.ref x,.ref p] h t (λq h'=>X2 λd' fp'=>a48 w.params b fr d d' fp' h'/\q= .none/\RawP d' fp' x dx pl wl iw pt r rt lim n0 vs ps (Str.ofString "(") c rest):=by
 refine en (binds:=[("self",.ref x),("thing",.ref p)]) G.bs4 X T room ?_
 kd_all
 dsimp only[List.reverse,List.reverseAux] at S
 have J1:a00 (fr.or d) p 152 [("car",c),("cdr",rest)]:=I.sub a12
 kd_subs
 refine a05 [false,true,true] S (λg' hs T=>aa6 X G (room.deeper (by decide)) (by decide+kernel) hps hf T) ?_
 clear S;rintro q h t fp' S ⟨tk',rfl,rfl⟩
 kcf_m
 kd_subs
 refine a02 3 S rfl (szE (ltl (by keq_rows))) ?_;kcj_m
 obtain⟨d1,G1,I1,S⟩:=a11 S
 rename_i S0;clear S0
 replace J1:=J1.sub (a91 G1.mono)
 kd_subs
 refine a02 3 S rfl (szE (by rw[List.length_append];simp;exact ltl (by keq_rows))) ?_;kcj_m
 obtain⟨d2,G2,I2,S⟩:=a11 S
 rename_i S0;clear S0
 kd_subs
 refine rT.n ⟨d2,_,(G1.trans G2).back (S.perm al4).sit,rfl,_,_,tk',tk,_,_,I1.sub G2.mono,I2,?_⟩
 rw[List.append_assoc]
 rfl
theorem b69 (X:a01 w K b) (G:KOk K) (room:a04 A 2) {x dx pl wl p:Addr} {iw:Bool} {lim c rest:Value} {r:Nat} {pt rt tk:Tok} {n0:Int} {vs ps:List Value}
  (hps:ps.length<1000000) (hvs:vs.length<1000000) (hf:aw5 lim (n0+((Str.ofString " ").length:Int))) (I:a00 d p 152 [("car",c),("cdr",rest)]) (hc:handedIn c=true) (hr:handedIn rest=true)
  (T:Sit w.params b (fr.or d) (ag3 x dx pl wl iw pt r rt lim .none n0 tk vs ps []) h):
  a07 w A z (.ref 1217) [.ref x,.ref p] h t (λq h'=>X2 λd' fp'=>a48 w.params b fr d d' fp' h'/\q= .none/\RawP d' fp' x dx pl wl iw pt r rt lim n0 vs ps (Str.ofString " ") c rest):=by
 refine en (binds:=[("self",.ref x),("thing",.ref p)]) G.bu7 X T room ?_
 kd_all
 dsimp only[List.reverse,List.reverseAux] at S
 have J1:a00 (fr.or d) p 152 [("car",c),("cdr",rest)]:=I.sub a12
 kd_subs
 refine ar8 (S.binst J1) (a14 G X S) ?_
 kd_subs
 refine a05 [false,true,true] S (λg' hs T=>aa6 X G (room.deeper (by decide)) (by decide+kernel) hps hf T) ?_
 clear S;rintro q h t fp' S ⟨tk',rfl,rfl⟩
 kcf_m
 kd_subs
 refine a02 3 S rfl (szE (ltl (by keq_rows))) ?_;kcj_m
 obtain⟨d1,G1,I1,S⟩:=a11 S
 rename_i S0;clear S0
 replace J1:=J1.sub (a91 G1.mono)
 kd_subs
 refine a02 3 S rfl (szE (by rw[List.length_append];simp;exact ltl (by keq_rows))) ?_;kcj_m
 obtain⟨d2,G2,I2,S⟩:=a11 S
 rename_i S0;clear S0
 kd_subs
 refine rT.n ⟨d2,_,(G1.trans G2).back (S.perm al4).sit,rfl,_,_,tk',tk,_,_,I1.sub G2.mono,I2,?_⟩
 rw[List.append_assoc]
 rfl
theorem aw0 (X:a01 w K b) (G:KOk K) (room:a04 A 4) (hb:Sub (Bas.of b) fr) {x dx pl wl p:Addr} {iw:Bool} {lim c rest:Value} {r:Nat} {pt rt tk:Tok} {n0:Int} {vs ps:List Value}
  (hps:ps.length<1000000) (hvs:vs.length<1000000) (hf:aw5 lim (n0+((Str.ofString "(").length:Int))) (I:a00 d p 152 [("car",c),("cdr",rest)]) (hc:handedIn c=true) (hr:handedIn rest=true)
  (T:Sit w.params b (fr.or d) (ag3 x dx pl wl iw pt r rt lim .none n0 tk vs ps []) h):
  a07 w A z (.ref 1203) [.ref x,.ref p] h t (λq h'=>X2 λd' fp'=>a48 w.params b fr d d' fp' h'/\q= .none/\RawP d' fp' x dx pl wl iw pt r rt lim n0 vs ps (Str.ofString "(") c rest):=by
 refine en (binds:=[("self",.ref x),("thing",.ref p)]) G.bt1 X T room ?_
 kd_all
 dsimp only[List.reverse,List.reverseAux] at S
 have J1:a00 (fr.or d) p 152 [("car",c),("cdr",rest)]:=I.sub a12
 kd_subs
 refine a03 [true,true,true] S hb (λfr' hs T=>b78 X G (room.deeper (by decide)) hps hvs hf I hc hr T) ?_
 clear S
 rintro q h t d1 fp' G1 S ⟨rfl,P⟩
 kcf_m
 rw[List.append_nil] at S
 kd_subs
 exact rT.n ⟨d1,fp',G1.back S.sit,rfl,P⟩
end
section
variable {B0:Heap} {outer:List Env}
inductive XI |fin (i:a19)|dp |dr |rt |t2
noncomputable def XI.thing (tb:TB) (d:Bas) (pp rg:Addr):XI->Value->Prop
 | .fin (.datum g),v=>Rep tb d v g
 | .fin U,V=>False
 | .dp,v=>v= .ref pp/\(∃u,a00 d pp 152 [("car",.ref rg),("cdr",.int 2 u)])/\∃u,a00 d rg 152 [("car",.int 1 u),("cdr",.ref rg)]
 | .dr,v=>v= .ref rg/\∃u,a00 d rg 152 [("car",.int 1 u),("cdr",.ref rg)]
 |U,V=>False
noncomputable def XI.rep (tb:TB) (d:Bas) (pp rg:Addr) (v:Value):XI->Prop
 | .fin i=>i.rep tb d v
 | .dp=>X3 λa tk v'=>A3 (v= .ref a) (aw4 d a [.int 1 tk,v']) (XI.dp.thing tb d pp rg v')
 | .dr=>X3 λa tk v'=>A3 (v= .ref a) (aw4 d a [.int 1 tk,v']) (XI.dr.thing tb d pp rg v')
 | .rt=>X3 λa tk v'=>A3 (v= .ref a) (aw4 d a [.int 2 tk,v']) (XI.dr.thing tb d pp rg v')
 | .t2=>True
noncomputable def XI.step (iw:Bool) (r:Nat):XI->Str × List XI
 | .fin i=>((i.step false iw r).1,(i.step false iw r).2.map .fin)
 | .dp=>(Str.ofString "(",[.t2,.dr])
 | .dr=>(Str.ofString "(",[.rt,.fin (.datum (.int 1))])
 | .rt=>(Str.ofString " ",[.rt,.fin (.datum (.int 1))])
 | .t2=>(Str.empty,[])
noncomputable def XI.ok (iw:Bool) (r:Nat):XI->Prop
 | .fin i=>i.ok iw/\(i.txt false iw r).length<100000
 | _=>True
theorem XI.thing.mono {tb tb':TB} {d d':Bas} {pp rg:Addr} (e:Ext tb tb') (k:Sub d d'):∀{i:XI} {v:Value},i.thing tb d pp rg v->i.thing tb' d' pp rg v
 | .fin (.datum U),V,h=>Rep.mono e k h
 | .fin (.piece U),V,h=>h.elim
 | .fin (.tail U),V,h=>h.elim
 | .dp,U,⟨h1,⟨u,h2⟩,⟨u',h3⟩⟩=>⟨h1,⟨u,h2.sub k⟩,⟨u',h3.sub k⟩⟩
 | .dr,U,⟨h1,⟨u',h3⟩⟩=>⟨h1,⟨u',h3.sub k⟩⟩
 | .rt,U,h=>h.elim
 | .t2,U,h=>h.elim
theorem XI.rep.mono {tb tb':TB} {d d':Bas} {pp rg:Addr} (e:Ext tb tb') (k:Sub d d'):∀{i:XI} {v:Value},i.rep tb d pp rg v->i.rep tb' d' pp rg v
 | .fin U,V,h=>a19.rep.mono e k h
 | .dp,U,⟨a,tk,v',h1,h2,h3⟩=>⟨a,tk,v',h1,h2.sub k,XI.thing.mono (i:=.dp) e k h3⟩
 | .dr,U,⟨a,tk,v',h1,h2,h3⟩=>⟨a,tk,v',h1,h2.sub k,XI.thing.mono (i:=.dr) e k h3⟩
 | .rt,U,⟨a,tk,v',h1,h2,h3⟩=>⟨a,tk,v',h1,h2.sub k,XI.thing.mono (i:=.dr) e k h3⟩
 | .t2,U,V=>trivial
inductive ar7 (tb:TB) (d:Bas) (pp rg:Addr):List Value->List XI->Prop
 |nil:ar7 tb d pp rg [] []
 |snoc {vs v i is}:ar7 tb d pp rg vs is->i.rep tb d pp rg v->ar7 tb d pp rg (vs++[v]) (i::is)
theorem ar7.mono {tb tb':TB} {d d':Bas} {pp rg:Addr} (e:Ext tb tb') (k:Sub d d') {vs:List Value} {is:List XI} (x:ar7 tb d pp rg vs is):ar7 tb' d' pp rg vs is:=by
 induction x with
 |nil=>exact .nil
 |snoc U h ih=>exact .snoc ih (h.mono e k)
theorem ar7.len {tb:TB} {d:Bas} {pp rg:Addr} {vs:List Value} {is:List XI} (x:ar7 tb d pp rg vs is):vs.length=is.length:=by
 induction x with
 |nil=>rfl
 |snoc U h ih=>simp [ih]
theorem ar7.inv {tb:TB} {d:Bas} {pp rg:Addr} {vs:List Value} {i:XI} {is:List XI} (x:ar7 tb d pp rg vs (i::is)):X2 λus v=>A3 (vs=us++[v]) (ar7 tb d pp rg us is) (i.rep tb d pp rg v):=by
 generalize e:i::is=js at x
 cases x with
 |nil=>cases e
 |snoc h1 h2=>cases e;exact⟨_,_,rfl,h1,h2⟩
theorem ar7.items {tb:TB} {d:Bas} {pp rg:Addr}:∀{us:List Value} {js:List a19} {vs:List Value} {is:List XI},ar7 tb d pp rg vs is->items tb d us js->ar7 tb d pp rg (vs++us) ((js.map .fin).reverse++is)
 |[],[],vs,is,h,U=>by simpa using h
 |u::us,j::js,vs,is,h,⟨h1,h2⟩=>by
  have:=ar7.items (ar7.snoc (i:=.fin j) h h1) h2
  simpa using this
 |[],U::V,U1,V1,U2,h=>h.elim
 |U::V,[],U1,V1,U2,h=>h.elim
noncomputable def aR6 (iw:Bool) (r:Nat) (k:Int):Nat->Nat->List XI->Bool
 |0,U,V=>false
 |U,V,[]=>false
 |U,V,.t2::U1=>false
 |n+1,len,i::is=>if k<(len:Int)+((i.step iw r).1.length:Int) then true else aR6 iw r k n (len+(i.step iw r).1.length) ((i.step iw r).2.reverse++is)
theorem az1 {tab iw:Bool} {r:Nat}:∀{is:List a19} {j:a19},j∈is->(j.txt tab iw r).length<=(a25 tab iw r is).length
 |i::is,j,h=>by
  rw[a25,Str.length_append]
  rcases List.mem_cons.mp h with rfl |h
  ·lia
  ·have:=az1 (tab:=tab) (iw:=iw) (r:=r) h
   lia
theorem ay3 (n:Int) (r:Nat):(a28 n r).length<=11:=by
 unfold a28
 rw[Str.length_append]
 have:=aP9 n.natAbs r
 have h1:(Str.ofString "-").length=1:=by kernel_rfl
 have h2:(Str.ofString "").length=0:=rfl
 split<;>lia
theorem XI.step_ok {iw:Bool} {r:Nat} (i:XI) (h:i.ok iw r):∀j∈(i.step iw r).2,j.ok iw r:=by
 have h1:XI.ok iw r (.fin (.datum (.int 1))):=⟨(by decide:(1:Int).natAbs<1024),Nat.lt_of_le_of_lt (ay3 1 r) (by decide)⟩
 induction i using XI.casesOn with
 |fin i=>
  intro j hj
  obtain⟨j',hj',rfl⟩:=List.mem_map.mp hj
  refine⟨aO0 false iw r i h.1 j' hj',?_⟩
  have e:=congrArg Str.length (ag5 false iw r i)
  rw[Str.length_append] at e
  have:=az1 (tab:=false) (iw:=iw) (r:=r) hj'
  have:=h.2
  lia
 |dp=>intro j hj;simp only[XI.step,List.mem_cons,List.not_mem_nil,or_false] at hj;rcases hj with rfl |rfl<;>trivial
 |dr=>
  intro j hj;simp only[XI.step,List.mem_cons,List.not_mem_nil,or_false] at hj
  rcases hj with rfl |rfl
  ·trivial
  ·exact h1
 |rt=>
  intro j hj;simp only[XI.step,List.mem_cons,List.not_mem_nil,or_false] at hj
  rcases hj with rfl |rfl
  ·trivial
  ·exact h1
 |t2=>intro j hj;cases hj
theorem b66 {iw:Bool} {r:Nat} {k:Int}:∀(n:Nat) (js:List a19) (len:Nat),a18 false js.reverse<=n->(len:Int)<=k->k<(len:Int)+((a25 false iw r js.reverse).length:Int)->aR6 iw r k n len (js.map .fin)=true:=by
 intro n
 induction n with
 |zero=>
  intro js len hw h1 h2
  induction js using List.casesOn with
  |nil=>have:(a25 false iw r ([]:List a19).reverse).length=0:=rfl;lia
  |cons i js=>rw[List.reverse_cons,a54] at hw;have:=i.wt_pos false;simp only[a18] at hw;lia
 |succ n ih=>
  intro js len hw h1 h2
  induction js using List.casesOn with
  |nil=>have:(a25 false iw r ([]:List a19).reverse).length=0:=rfl;lia
  |cons i js=>
   rw[List.reverse_cons] at hw h2
   rw[a54] at hw
   rw[a55,Str.length_append] at h2
   simp only[a18] at hw
   have e1:(a25 false iw r [i]).length=(i.txt false iw r).length:=by simp only[a25,a30]
   have e2:=congrArg Str.length (ag5 false iw r i)
   rw[Str.length_append] at e2
   have e3:=aK5 false iw r i
   show (if k<(len:Int)+((i.step false iw r).1.length:Int) then true else aR6 iw r k n (len+(i.step false iw r).1.length) (((i.step false iw r).2.map XI.fin).reverse++js.map XI.fin))=true
   split
   ·rfl
   ·rename_i hk
    rw[<-List.map_reverse,<-List.map_append]
    refine ih _ _ ?_ (by lia) ?_
    ·rw [List.reverse_append,List.reverse_reverse,a54];lia
    ·rw [List.reverse_append,List.reverse_reverse,a55,Str.length_append];lia
theorem aW8:aR6 true 10 30 40 0 [.dp]=true:=by decide+kernel
end
section
variable {B0:Heap} {outer:List Env}
theorem aQ9.sub {l:List Env} {g':Bas} {lim v:Value} {s':Shared} (x:aQ9 z B0 l L g' lim v s') (s:Sub g g'):aQ9 z B0 l L g lim v s':=by
 obtain⟨e,h',t',h1,h2,h3⟩:=x
 refine⟨e,h',t',h1,h2,?_⟩
 rcases h3 with⟨a,c⟩|⟨a,c⟩|⟨a,c⟩
 ·exact .inl ⟨a,c.sub s⟩
 ·exact .inr (.inl ⟨a,c.sub s⟩)
 ·exact .inr (.inr ⟨a,c.sub s⟩)
noncomputable def XI.word:XI->Int
 | .fin (.piece U)=>0 | .fin (.datum _)=>1 | .fin (.tail _)=>2 | .dp=>1 | .dr=>1 | .rt=>2 | .t2=>2
noncomputable def XI.fn:XI->Nat
 | .fin (.piece U)=>1196 | .fin (.datum _)=>1203 | .fin (.tail _)=>1217 | .dp=>1203 | .dr=>1203 | .rt=>1217 | .t2=>1217
noncomputable def XI.inn (tb:TB) (d:Bas) (pp rg:Addr) (v:Value):XI->Prop
 | .fin (.piece p)=>∃tk,v= .str p tk
 | .fin (.datum g)=>Rep tb d v g
 | .fin (.tail gs)=>am9 tb d v gs
 | .dp=>XI.dp.thing tb d pp rg v
 | .dr=>XI.dr.thing tb d pp rg v
 | .rt=>XI.dr.thing tb d pp rg v
 | .t2=>False
theorem XI.split {tb:TB} {pp rg:Addr} {i:XI} {v:Value} (h2:i≠ .t2) (h:i.rep tb d pp rg v):X3 λa tk v'=>A3 (v= .ref a) (aw4 d a [.int i.word tk,v']) (i.inn tb d pp rg v'):=by
 induction i using XI.casesOn with
 |fin i=>
  induction i using a19.casesOn with
  |piece p=>obtain⟨a,tk,tk',h1,h2⟩:=h;exact⟨a,tk,_,h1,h2,tk',rfl⟩
  |datum g=>exact h
  |tail gs=>exact h
 |dp=>exact h
 |dr=>exact h
 |rt=>exact h
 |t2=>exact absurd rfl h2
noncomputable def bj2 (w:World) (tb:TB) (nf:Nat) (pp rg x dx pl wl:Addr) (iw:Bool) (pt:Tok) (r:Nat) (rt:Tok) (lim:Value) (n0:Int) (vs ps:List Value) (i:XI) (d':Bas) (fp':FP):Prop:=
 X4 λtb' tk' us u=>A5 (Ext tb tb') (ad0 w d' .none tb' nf []) ((∀ws is,ar7 tb' d' pp rg ws is->ar7 tb' d' pp rg (ws++us) ((i.step iw r).2.reverse++is))) (us.length<=4) (fp'=ag3 x dx pl wl iw pt r rt lim .none (n0+((i.step iw r).1.length:Int)) tk' (vs++us) (ps++[.str (i.step iw r).1 u]) [])
theorem aS3 (tab iw:Bool) (r:Nat) (i:a19):(i.step tab iw r).2.length<=4:=by
 induction i using a19.casesOn with
 |piece p=>exact Nat.zero_le _
 |tail gs=>induction gs using List.casesOn<;>simp [ipP,ipV,ipQ,ipR,ipN,ipT]
 |datum g=>induction g using Dt.casesOn<;>first |exact Nat.zero_le _ |(simp only[ipV,ipQ,ipR];first |(split<;>simp)|simp)
theorem aO1 {tb:TB} {nf:Nat} {pp rg x dx pl wl:Addr} {iw:Bool} {pt:Tok} {r:Nat} {rt:Tok} {lim:Value} {n0:Int} {vs ps:List Value} {i:a19} {d':Bas} {fp':FP}
  (P:b51 w tb nf x dx pl wl iw pt r rt lim .none n0 vs ps (i.step false iw r).1 (i.step false iw r).2 d' fp'):bj2 w tb nf pp rg x dx pl wl iw pt r rt lim n0 vs ps (.fin i) d' fp':=by
 obtain⟨tb2,tf2,tk2,us2,u2,e1,e2,e3,e4⟩:=P
 have e5:tf2=[]:=by
  rcases e2 with⟨_,e,_⟩|⟨_,_,_,_,_,e2,_⟩
  ·exact e
  ·cases e2
 subst e5
 exact⟨tb2,tk2,us2,u2,e1,e2,λws is q=>q.items e3,by rw[e3.len];exact aS3 _ _ _ _,e4⟩
theorem at8 {tb:TB} {nf:Nat} {pp rg x dx pl wl:Addr} {iw:Bool} {pt:Tok} {r:Nat} {rt:Tok} {lim:Value} {n0:Int} {vs ps:List Value} {i:XI} {c rest:Value} {p:Str} {i1 i2:XI} {d':Bas} {fp':FP} (TP:ad0 w d' .none tb nf [])
  (P:RawP d' fp' x dx pl wl iw pt r rt lim n0 vs ps p c rest) (hi:i.step iw r=(p,[i1,i2])) (h1:∀a tk,aw4 d' a [.int 2 tk,rest]->i1.rep tb d' pp rg (.ref a)) (h2:∀a tk,aw4 d' a [.int 1 tk,c]->i2.rep tb d' pp rg (.ref a)):
  bj2 w tb nf pp rg x dx pl wl iw pt r rt lim n0 vs ps i d' fp':=by
 obtain⟨a1,a2,tk',u,tk1,tk2,I1,I2,rfl⟩:=P
 refine⟨tb,tk',[_,_],u,Ext.refl,TP,λws is q=>?_,by simp,by rw[hi]⟩
 rw[hi]
 have:=(q.snoc (h1 _ _ I1)).snoc (h2 _ _ I2)
 simpa using this
theorem aN4 (X:a01 w K b) (G:KOk K) (room:a04 A 7) (hh:A.handled=none) (hb:Sub (Bas.of b) fr) {tb:TB} {nf:Nat} (hnf:nf<900) {x dx pl wl pp rg:Addr} {iw:Bool} {v lim:Value} {i:XI} {r:Nat} {pt rt tk:Tok} {n0:Int} {vs ps:List Value}
  (hne:i.word≠0) (hr2:2<=r) (hr:r<=16) (ok:i.ok iw r) (hps:ps.length<1000000) (hvs:vs.length<1000000) (hf:aw5 lim (n0+((i.step iw r).1.length:Int))) (TP:ad0 w d .none tb nf []) (R:i.inn tb d pp rg v)
  (T:Sit w.params b (fr.or d) (ag3 x dx pl wl iw pt r rt lim .none n0 tk vs ps []) h):
  a07 w A z (.ref i.fn) [.ref x,v] h t (λq h'=>X2 λd' fp'=>a48 w.params b fr d d' fp' h'/\(q= .none/\bj2 w tb nf pp rg x dx pl wl iw pt r rt lim n0 vs ps i d' fp')):=by
 induction i using XI.casesOn with
 |fin i=>
  induction i using a19.casesOn with
  |piece p=>exact absurd rfl hne
  |datum g=>
   refine codeAny_mono (ag6 (aQ2 (tab:=.none) X G room hh hb hnf hr2 hr ok.1 (Nat.lt_of_lt_of_le ok.2 (by decide)) hps hvs hf TP R T)) ?_
   rintro q s' ⟨v,h',t',e1,e2,d',fp',B,e3,P⟩
   exact⟨v,h',t',e1,e2,d',fp',B,e3,aO1 P⟩
  |tail gs=>
   refine codeAny_mono (ag6 (aX7 (tab:=.none) X G (room.less (by decide)) hps hvs hf TP R T)) ?_
   rintro q s' ⟨v,h',t',e1,e2,d',fp',B,e3,P⟩
   exact⟨v,h',t',e1,e2,d',fp',B,e3,aO1 P⟩
 |dp=>
  obtain⟨rfl,⟨u1,I1⟩,⟨u2,I2⟩⟩:=R
  refine codeAny_mono (aw0 X G (room.less (by decide)) hb hps hvs hf I1 rfl rfl T) ?_
  rintro q s' ⟨v,h',t',e1,e2,d',fp',B,e3,P⟩
  exact⟨v,h',t',e1,e2,d',fp',B,e3,at8 (TP.mono B.mono) P rfl (λU V U1=>trivial) λa tk I=>⟨a,tk,_,rfl,I,rfl,u2,I2.sub B.mono⟩⟩
 |dr=>
  obtain⟨rfl,⟨u2,I2⟩⟩:=R
  refine codeAny_mono (aw0 X G (room.less (by decide)) hb hps hvs hf I2 rfl rfl T) ?_
  rintro q s' ⟨v,h',t',e1,e2,d',fp',B,e3,P⟩
  exact⟨v,h',t',e1,e2,d',fp',B,e3,at8 (TP.mono B.mono) P rfl (λa tk I=>⟨a,tk,_,rfl,I,rfl,u2,I2.sub B.mono⟩) λa tk I=>⟨a,tk,_,rfl,I,u2,rfl⟩⟩
 |rt=>
  obtain⟨rfl,⟨u2,I2⟩⟩:=R
  refine codeAny_mono (b69 X G (room.less (by decide)) hps hvs hf I2 rfl rfl T) ?_
  rintro q s' ⟨v,h',t',e1,e2,d',fp',B,e3,P⟩
  exact⟨v,h',t',e1,e2,d',fp',B,e3,at8 (TP.mono B.mono) P rfl (λa tk I=>⟨a,tk,_,rfl,I,rfl,u2,I2.sub B.mono⟩) λa tk I=>⟨a,tk,_,rfl,I,u2,rfl⟩⟩
 |t2=>exact R.elim
theorem aJ2 (X:a01 w K b) (G:KOk K) (GX:KX K) (room:a04 A 7) (hh:A.handled=none) (hfr:A.frames=some outer) (hb:Sub (Bas.of b) fr) {tb:TB} {x dx pl wl pp rg:Addr} {iw:Bool} {v:Value} {i:XI} {r:Nat} {pt rt tk tkk:Tok} {n0 k:Int} {vs ps:List Value}
  (hne:i.word≠0) (hr2:2<=r) (hr:r<=16) (ok:i.ok iw r) (hps:ps.length<1000000) (hf:k<n0+((i.step iw r).1.length:Int)) (R:i.inn tb d pp rg v)
  (hB:Sub (Bas.of B0) (fr.or d)) (hF:Frs B0 (fr.or d) outer)
  (T:Sit w.params b (fr.or d) (ag3 x dx pl wl iw pt r rt (.int k tkk) .none n0 tk vs ps []) h):
  a58 w A z (.ref i.fn) [.ref x,v] h t B0 outer (fr.or d) (.int k tkk):=by
 induction i using XI.casesOn with
 |fin i=>
  induction i using a19.casesOn with
  |piece p=>exact absurd rfl hne
  |datum g=>exact aM4 X G GX room hh hfr hb hr2 hr ok.1 (Nat.lt_of_lt_of_le ok.2 (by decide)) hps hf R hB hF T
  |tail gs=>
   induction gs using List.casesOn with
   |nil=>
    have R:v= .ref 44:=R
    subst R
    exact aK1 X G GX (room.less (by decide)) hh hfr hps hf hB hF T
   |cons g gs=>
    obtain⟨p,c,rest,rfl,I,_⟩:=R
    exact ay4 X G GX (room.less (by decide)) hh hfr hps hf I hB hF T
 |dp=>
  obtain⟨rfl,⟨u1,I1⟩,_⟩:=R
  exact aa8 X G GX room hh hfr hps hf I1 hB hF T
 |dr=>
  obtain⟨rfl,⟨u1,I1⟩⟩:=R
  exact aa8 X G GX room hh hfr hps hf I1 hB hF T
 |rt=>
  obtain⟨rfl,⟨u1,I1⟩⟩:=R
  exact ay4 X G GX (room.less (by decide)) hh hfr hps hf I1 hB hF T
 |t2=>exact R.elim
theorem XI.three {tb:TB} {pp rg:Addr} {i:XI} {v:Value} (h:i.inn tb d pp rg v):(X2 λp tk=>i= .fin (.piece p)/\v= .str p tk)∨(i.word=1/\i.fn=1203)∨(i.word=2/\i.fn=1217):=by
 induction i using XI.casesOn with
 |fin i=>
  induction i using a19.casesOn with
  |piece p=>obtain⟨tk,rfl⟩:=h;exact .inl ⟨p,tk,rfl,rfl⟩
  |datum g=>exact .inr (.inl ⟨rfl,rfl⟩)
  |tail gs=>exact .inr (.inr ⟨rfl,rfl⟩)
 |t2=>exact h.elim
 |rt=>exact .inr (.inr ⟨rfl,rfl⟩)
 | _=>exact .inr (.inl ⟨rfl,rfl⟩)
theorem aE1 {iw:Bool} {r:Nat} {k:Int} {m len:Nat} {i:XI} {is:List XI} (h2:i≠ .t2) (h:aR6 iw r k (m+1) len (i::is)=true) (hk:¬ k<(len:Int)+((i.step iw r).1.length:Int)):
  aR6 iw r k m (len+(i.step iw r).1.length) ((i.step iw r).2.reverse++is)=true:=by
 have:aR6 iw r k (m+1) len (i::is)=(if k<(len:Int)+((i.step iw r).1.length:Int) then true else aR6 iw r k m (len+(i.step iw r).1.length) ((i.step iw r).2.reverse++is)):=by
  induction i using XI.casesOn with
  |t2=>exact absurd rfl h2
  | _=>rfl
 rw[this,if_neg hk] at h
 exact h
theorem aR7 (X:a01 w K b) (G:KOk K) (GX:KX K) (room:a04 A 8) (hh:A.handled=none) (hfr:A.frames=some outer) (hb:Sub (Bas.of b) fr) {tb:TB} {nf:Nat} (hnf:nf<900) {x dx pl wl pp rg:Addr} {iw:Bool} {v:Value} {i0:XI} {r n:Nat} {pt rt tk tkk:Tok} {k:Int}
  (hr2:2<=r) (hr:r<=16) (TP:ad0 w d .none tb nf []) (ok:i0.ok iw r) (hn:n<100000) (hw:aR6 iw r k n 0 [i0]=true) (R:i0.thing tb d pp rg v)
  (hB:Sub (Bas.of B0) (fr.or d)) (hF:Frs B0 (fr.or d) outer)
  (T:Sit w.params b (fr.or d) (ag3 x dx pl wl iw pt r rt (.int k tkk) .none 0 tk [] [] []) h):
  a58 w A z (.ref 1189) [.ref x,v] h t B0 outer (fr.or d) (.int k tkk):=by
 have hv:handedIn v=true:=by
  induction i0 using XI.casesOn with
  |fin i=>
   induction i using a19.casesOn with
   |datum gd=>exact Rep.handed R
   | _=>exact R.elim
  |dp=>obtain⟨rfl,_⟩:=R;rfl
  |dr=>obtain⟨rfl,_⟩:=R;rfl
  | _=>exact R.elim
 refine enT (binds:=[("self",.ref x),("datum",v)]) G.bA7 X T room hfr (BindsTo.of_eq (by kernel_rfl)) (by kernel_rfl) ?_
 intro cx hH room hfr' esc h t S
 replace hh:=hH.trans hh
 dsimp only[List.reverse,List.reverseAux] at S
 kd_subs
 refine a02 1 S rfl (szE (by decide)) ?_;clear S;intro h S;dsimp+zetaDelta only[List.set,List.nil_append] at S
 obtain⟨d1,G1,I1,S⟩:=a11 S
 rename_i S0;clear S0
 kd_subs
 have I0:∀{a:Addr} {tk0:Tok},aw4 d1 a [.int 1 tk0,v]->i0.rep tb d1 pp rg (.ref a):=λ{a tk0} I=>by
  induction i0 using XI.casesOn with
  |fin i=>
   induction i using a19.casesOn with
   |datum gd=>exact⟨a,tk0,v,rfl,I,Rep.mono Ext.refl G1.mono R⟩
   | _=>exact R.elim
  |dp=>exact⟨a,tk0,v,rfl,I,XI.thing.mono (i:=.dp) Ext.refl G1.mono R⟩
  |dr=>exact⟨a,tk0,v,rfl,I,XI.thing.mono (i:=.dr) Ext.refl G1.mono R⟩
  | _=>exact R.elim
 refine a56 (λm h U=>X8 λ(d':Bas) (tb':TB) (ps vs:List Value) (len:Nat) (is:List XI) (tk':Tok) (qs:List (Str × Value))=>A8
   (aa2 fr d d') (ad0 w d' .none tb' nf []) (ar7 tb' d' pp rg vs is) ((∀i∈is,i.ok iw r)) (aR6 iw r k m len is=true) (ps.length+m<200000) (vs.length+5*m<900000)
   (St w.params b (fr.or d') cx.L (("self",.ref x)::qs) (ag3 x dx pl wl iw pt r rt (.int k tkk) .none (len:Int) tk' vs ps []) h)) ?_ n h _
  ⟨d1,tb,[],[_],0,[i0],tk,_,G1,TP.mono G1.mono,.snoc .nil (I0 I1),λi hi=>by rw[List.mem_singleton] at hi;subst hi;exact ok,hw,by simp;exact ltT (by keq_rows),by simp;lia,S.front (by kernel_rfl)⟩
 clear S I1 G1 I0 R hv TP
 rintro m h t ⟨d',tb',ps,vs,len,is,tk',qs,Gr,TP',hi,hok,hwl,hpl,hvl,S⟩ Jn nx
 have hB':Sub (Bas.of B0) (fr.or d'):=hB.trans (a91 Gr.mono)
 have hF':Frs B0 (fr.or d') outer:=hF.sub (a91 Gr.mono)
 kd_subs
 refine ad8 (S.isList 1 rfl) (S.isList 0 rfl) (by have:=(room.of 0 (by decide)).2;lia) ?_
 replace S:=S.drop (List.sublist_cons_self _ _)
 induction m using Nat.casesAuxOn with
 |zero=>cases hwl
 |succ m=>
 induction is using List.casesOn with
 |nil=>cases hwl
 |cons i is=>
 have h2:i≠ .t2:=λe=>by subst e;cases hwl
 obtain⟨us,u,rfl,hi1,hi2⟩:=hi.inv
 have hne:(us++[u]).isEmpty=false:=by induction us using List.casesOn<;>rfl
 rw[hne]
 have hul1:us.length+1+5*(m+1)<900000:=by
  have h1:(us++[u]).length=us.length+1:=by simp
  lia
 have hul:us.length<900000:=by lia
 have hoks:=XI.step_ok i (hok i (.head _))
 have hok1:∀j∈(i.step iw r).2.reverse++is,j.ok iw r:=λj hj=>(List.mem_append.mp hj).elim (λq=>hoks j (List.mem_reverse.mp q)) (λq=>hok j (.tail _ q))
 have hlim:¬ k<(len:Int)+((i.step iw r).1.length:Int)->aw5 (.int k tkk) ((len:Int)+((i.step iw r).1.length:Int)):=λq=>.inr ⟨k,tkk,rfl,by lia⟩
 have hok0:=hok i (.head _)
 obtain⟨a2,tk1,v2,rfl,I2,R2⟩:=XI.split h2 hi2
 kd_subs
 refine aF3 0 S rfl (szE (ltT (by keq_rows))) ?_;kcj_m
 rcases XI.three R2 with⟨p,tkp,rfl,rfl⟩|⟨hiw,hfn⟩|⟨hiw,hfn⟩
 ·rw [show XI.word (.fin (.piece p))=0 from rfl] at I2
  refine ad6 0 X G S hh (I2.isTup (a12.keeps S.keep)) (by kernel_rfl) ?_;keq_hits
  have hok0:p.length<100000:=hok0.2
  have hlim:¬ k<(len:Int)+(p.length:Int)->aw5 (.int k tkk) ((len:Int)+(p.length:Int)):=hlim
  kd_subs
  by_cases hk:k<(len:Int)+(p.length:Int)
  ·refine ab0 (fp₁:=[_,_]) (fp₂:=[_]) (bc0 (J:=Jn) hfr' ?_) (S.pick [1,2,0]) hB' hF' (by kernel_rfl) λfr' hs hF' T=>(a89 X G GX (room.deeper (by decide)) hh hfr' (Nat.lt_of_lt_of_le hok0 (by decide)) (by lia) hk (hB'.trans (hs.trans a29)) (hF'.sub a29) T).sub a29
   exact λq=>esc (q.sub (a91 Gr.mono))
  ·have hwl:=aE1 h2 hwl hk
   refine a05 [false,true,true] S (λg' hs T=>aa6 X G (room.deeper (by decide)) (Nat.lt_of_lt_of_le hok0 (by decide)) (by lia) (hlim hk) T) ?_
   clear S;rintro q h t fp' S ⟨tkn,rfl,rfl⟩
   kcf_m
   replace S:=S.perm al4
   kd_subs
   exact nx (m:=m) (by exact Nat.lt_succ_self _) ⟨d',tb',_,us,len+p.length,is,tkn,_,Gr,TP',hi1,hok1,hwl,by simp;lia,by lia,S.front (by kernel_rfl)⟩
 all_goals
  rw[hiw] at I2
  refine ad6 0 X G S hh (I2.isTup (a12.keeps S.keep)) (by kernel_rfl) ?_;keq_hits
  have hne0:i.word≠0:=by rw[hiw];decide
  kd_subs
  rw[<-hfn]
  by_cases hk:k<(len:Int)+((i.step iw r).1.length:Int)
  ·refine ab0 (fp₁:=[_,_,_]) (fp₂:=[]) (bc0 (J:=Jn) hfr' ?_) (S.pick [0,1,2]) hB' hF' (by kernel_rfl) λfr' hs hF' T=>(aJ2 X G GX (room.deeper (by decide)) hh hfr' (hb.trans (a29.trans hs)) hne0 hr2 hr hok0 (by lia) hk R2 (hB'.trans (hs.trans a29)) (hF'.sub a29) T).sub a29
   exact λq=>esc (q.sub (a91 Gr.mono))
  ·have hwl:=aE1 h2 hwl hk
   refine a03 [true,true,true] S hb (λfr' hs T=>aN4 X G (room.deeper (by decide)) hh (hb.trans (a29.trans hs)) hnf hne0 hr2 hr hok0 (by lia) (by exact ltT (by keq_rows)) (hlim hk) TP' R2 T) ?_
   clear S
   rintro q h t d2 fp' G2 S ⟨rfl,tb2,tk2,us2,u2,e1,e2,e3,e4,rfl⟩
   kcf_m
   kd_subs
   exact nx (m:=m) (by exact Nat.lt_succ_self _) ⟨d2,tb2,_,us++us2,len+(i.step iw r).1.length,_,tk2,_,Gr.trans G2,e2,e3 _ _ (hi1.mono e1 G2.mono),hok1,hwl,by simp;lia,by simp;lia,S.front (by kernel_rfl)⟩
end
section
variable {B0:Heap} {outer:List Env}
theorem ar9 (X:a01 w K b) (G:KOk K) (GX:KX K) (room:a04 A 10) (hh:A.handled=none) (hfr:A.frames=some outer) (hb:Sub (Bas.of b) fr) {tb:TB} {nf:Nat} (hnf:nf<900) {pp rg:Addr} {v:Value} {i0:XI} {n r:Nat} {pt rt tkk:Tok} {k:Int}
  (hr2:2<=r) (hr:r<=16) (TP:ad0 w d .none tb nf []) (ok:i0.ok true r) (hn:n<100000) (hw:aR6 true r k n 0 [i0]=true) (R:i0.thing tb d pp rg v)
  (hB:Sub (Bas.of B0) (fr.or d)) (hF:Frs B0 (fr.or d) outer)
  (T:Sit w.params b (fr.or d) [] h):
  a58 w A z (.ref 1239) [v,.int 53 pt,.int (r:Int) rt,.int k tkk,.none] h t B0 outer (fr.or d) (.int k tkk):=by
 have hv:handedIn v=true:=by
  induction i0 using XI.casesOn with
  |fin i=>
   induction i using a19.casesOn with
   |datum gd=>exact Rep.handed R
   | _=>exact R.elim
  |dp=>obtain⟨rfl,_⟩:=R;rfl
  |dr=>obtain⟨rfl,_⟩:=R;rfl
  | _=>exact R.elim
 refine enT (binds:=[("datum",v),("precision",.int 53 pt),("radix",.int (r:Int) rt),("limit",.int k tkk),("table",.none)]) G.bz2 X T room hfr (ag1 X T G.t_1232 (by kernel_rfl) rfl (by kernel_rfl)) (by kernel_rfl) ?_
 intro cx hH room hfr' esc h t S
 replace hh:=hH.trans hh
 dsimp only[List.reverse,List.reverseAux] at S
 kd_subs
 refine al5 X G (room.deeper (by decide)) S ?_;clear S;intro x dx pl wl tk h t S
 kd_subs
 exact ab0 (fp₁:=[_,_,_]) (fp₂:=[]) esc (S.pick [0,1,2]) hB hF (by kernel_rfl) λfr' hs hF' T=>(aR7 X G GX (room.deeper (by decide)) hh hfr' (hb.trans (a29.trans hs)) hnf hr2 hr TP ok hn hw R (hB.trans (hs.trans a29)) (hF'.sub a29) T).sub a29
end
section
variable {B0:Heap} {outer:List Env}
theorem aV3 (X:a01 w K b) (G:KOk K) (room:a04 A 11) (hh:A.handled=none) (hb:Sub (Bas.of b) fr) {tb:TB} {nf:Nat} (hnf:nf<900) {lim v:Value} {g:Dt}
  (ok:g.ok true) (hl:(g.txt false true 10).length<100000) (hw:g.wt false<100000) (hf:aw5 lim ((g.txt false true 10).length:Int)) (TP:ad0 w d .none tb nf []) (R:Rep tb d v g)
  (T:Sit w.params b (fr.or d) [] h):
  a07 w A z (.ref 1287) [v,lim,.none] h t (λq h'=>X2 λd' fp'=>a48 w.params b fr d d' fp' h'/\(fp'=[]/\∃tk',q= .str (g.txt false true 10) tk')):=by
 refine en (binds:=[("thing",v),("limit",lim),("table",.none)]) G.by4 X T room ?_
 kd_in
 refine wpAny_Try_except ?_
 kd_subs
 refine a03 [] S hb (λfr' hs T=>at4 (tab:=.none) (r:=10) X G (room.deeper (by decide)) hh (hb.trans (a29.trans hs)) hnf (by decide) (by decide) ok hl hw hf TP R T) ?_
 clear S
 rintro q h t d2 fp' G2 S ⟨tb',tk',_,TP',rfl⟩
 have e5:fp'=[]:=by
  rcases TP' with⟨_,e,_⟩|⟨_,_,_,_,_,e2,_⟩
  ·exact e
  ·cases e2
 subst e5
 kd_subs
 exact rT.s ⟨_,_,G2.back S.sit,rfl,tk',rfl⟩
structure bj8 (B0:Heap) (l':List Env) (g:Bas) (lim fl:Value) (L:Addr) (l:List (Str × Value)) (e D:Addr) (B h:Heap):Prop where
 stays:B0.StaysIn B
 fly:Fl B l' e D fl h
 dict:X2 λm o=>A3 (B.get? D=some o) (isN m o) (m (Str.ofString "limit")=some lim)
 kept:ah9 g h
 ns:h.Ns L (λx=>l.lookup x)
noncomputable def bd3 (z:Z) (B0:Heap) (l':List Env) (g:Bas) (lim:Value) (L:Addr) (l:List (Str × Value)) (v:Value) (s':Shared):Prop:=X5 λe D B h' t'=>A3 (v= .ref e) (s'=sh z h' t') (bj8 B0 l' g lim .none L l e D B h')
theorem Heap.Ns.up {h h':Heap} {a:Addr} {m:Str->Option Value} (x:h.Ns a m) (k:∀o,h.get? a=some o->(∀vs,o.data≠ .fields vs)->∃sl,h'.get? a=some {o with slots:=sl}):h'.Ns a m:=by
 obtain⟨o,es,ep,e,hd,r⟩:=x
 obtain⟨sl,e'⟩:=k o e (λvs q=>by rw[hd] at q;cases q)
 exact⟨_,es,ep,e',hd,r⟩
theorem be9 {env:Env} {f:Value} {args:List Value} {lim:Value} {Q:Value->Shared->Prop} (S:St w.params b (fr.or d) L l [] h) (hB:Sub (Bas.of B0) (fr.or d)) (hF:Frs B0 (fr.or d) outer) (hf:env.frame=some L) (hk:env.scope.kind≠ .module)
  (sp:∀fr',Sub (fr.or d) fr'->Frs B0 fr' (env::outer)->Sit w.params b (fr'.or d) [] h->a58 w A z f args h t B0 (env::outer) fr' lim):
  wpAny (model pw w) A (call f args) Q (bd3 z B0 (env::outer) (fr.or d) lim L l) (sh z h t):=by
 have b0L:B0.get? L=none:=by
  cases q:B0.get? L with
  |none=>rfl
  |some o=>exact absurd (hB _ _ q) (S.out o)
 have a:Sub (fr.or d) (Bas.of h):=S.keep
 have T:Sit w.params b ((Bas.of h).or d) [] h:=⟨λU V e=>.inl (a _ _ (S.base _ _ e)),λc o e=>e.elim id λe=>a _ _ (.inr e),⟨(λU q=>nomatch q),(λU q=>nomatch q),List.nodup_nil⟩,S.sit.sz⟩
 have hF':Frs B0 (Bas.of h) (env::outer):=λenv' he'=>by
  rcases List.mem_cons.mp he' with rfl |he'
  ·obtain ⟨oL,es,ep,eL,hd,_⟩:=S.ns
   exact⟨hk,L,oL,hf,eL,(λvs q=>by rw[hd] at q;cases q),b0L⟩
  ·exact hF.sub a env' he'
 refine wpAny_call (codeAny_mono (sp _ a hF' T) ?_)
 rintro r s' ⟨v,rfl,e,h',t',rfl,rfl,⟨B,D,m,o,e1,e2,e3,e4,e5⟩,kp⟩
 exact⟨e,D,B,h',t',rfl,rfl,e1,e2,⟨m,o,e3,e4,e5⟩,kp.sub a,Heap.Ns.up S.ns λo ho hd=>kp _ _ ho hd⟩
theorem bj8.step {l':List Env} {lim fl fl':Value} {e D:Addr} {B h':Heap} (C:bj8 B0 l' g lim fl L l e D B h) (F:Fl B l' e D fl' h') (u:h.UpToSlots h'):bj8 B0 l' g lim fl' L l e D B h':=
 ⟨C.stays,F,C.dict,C.kept.trans u,Heap.Ns.up C.ns λo ho hd=>u _ o ho hd⟩
noncomputable def isE (D:Addr) (o:Obj):Prop:=o.cls= .ref 422/\o.dict=some D/\∃vs,o.data= .fields vs
theorem bj8.st {P:Params} {env:Env} {lim fl:Value} {e D:Addr} {B:Heap} (C:bj8 B0 (env::outer) g lim fl L l e D B h) (hf:env.frame=some L) (hb:Sub (Bas.of b) (Bas.of B0)) (ha:b.objs.size<=L):
  St P b (rest h [L,e]) L l [(e,.cell (isE D))] h/\B.get? L=none/\L≠e:=by
 have bL:B.get? L=none:=by
  obtain⟨_,⟨L',_,hf',hn',_⟩,_⟩:=C.fly.frames
  obtain rfl:L'=L:=Option.some.inj (hf'.symm.trans hf)
  exact hn'
 obtain⟨vs,T,oT,ts,⟨sl,he⟩,_⟩:=C.fly.obj
 have hLe:L≠e:=λq=>by
  subst q
  obtain⟨o,es,ep,e1,hd,_⟩:=C.ns
  rw[he] at e1;cases e1;cases hd
 refine⟨⟨C.ns,λa o q=>q.1,λa o q=>?_,ha,λo q=>q.2 (.head _),⟨λp hp=>?_,λc hc o q=>?_,?_⟩,λq=>?_⟩,bL,hLe⟩
 ·have q:=C.stays _ _ (hb _ _ q)
  refine⟨C.fly.stays _ _ q,λhm=>?_⟩
  rcases List.mem_cons.mp hm with rfl |hm
  ·rw [bL] at q;cases q
  ·rw [List.mem_singleton] at hm;subst hm
   rw[C.fly.enew] at q;cases q
 ·rw [List.mem_singleton] at hp;subst hp
  exact⟨_,he,rfl,rfl,vs,rfl⟩
 ·exact q.2 (.tail _ hc)
 ·show [e].Nodup
  simp
 ·have q:L∈[e]:=q
  rw[List.mem_singleton] at q
  exact hLe q
theorem bg2 {o:Obj} {m:Str->Option Value} {name:Str} {v:Value} (x:isN m o) (h:m name=some v):lookIn name o=some (some v):=by
 obtain⟨es,ep,hd,hk,hu,hm⟩:=x
 have h1:=hm name
 rw[h] at h1
 unfold lookIn
 rw[hd]
 dsimp only
 unfold nsFind findBy at h1
 obtain⟨en,he,rfl⟩:=Option.map_eq_some_iff.mp h1
 rw[Array.find?_toList,he]
theorem aW2 {h:Heap} {e:Addr} {oe:Obj} {Q:Bool->Shared->Prop} {M:Model} (hC:h.get? 422=some aR9) (he:h.get? e=some oe) (hc:oe.cls= .ref 422) (hq:Q true (sh z h t)):wpAny M A (excMatches (.ref e) (.ref 422)) Q E (sh z h t):=
 wpAny_excMatches_sub_self hC he hc (by decide+kernel) hq
theorem aD1 (X:a01 w K b) (G:KOk K) (GX:KX K) (room:a04 A 11) (hh:A.handled=none) (hfr:A.frames=some outer) (hb:Sub (Bas.of b) fr) {tb:TB} {nf:Nat} (hnf:nf<900) {pp rg:Addr} {v:Value} {i0:XI} {n:Nat} {tkk:Tok} {k:Int}
  (TP:ad0 w d .none tb nf []) (ok:i0.ok true 10) (hn:n<100000) (hw:aR6 true 10 k n 0 [i0]=true) (R:i0.thing tb d pp rg v)
  (hbB:Sub (Bas.of b) (Bas.of B0)) (hB:Sub (Bas.of B0) (fr.or d)) (hF:Frs B0 (fr.or d) outer)
  (T:Sit w.params b (fr.or d) [] h):
  a07 w A z (.ref 1287) [v,.int k tkk,.none] h t (λq h'=>q= .int k tkk/\B0.StaysIn h'/\ah9 (fr.or d) h'):=by
 refine enF (binds:=[("thing",v),("limit",.int k tkk),("table",.none)]) G.by4 X T room hfr (BindsTo.of_eq (by kernel_rfl)) (by kernel_rfl) ?_
 intro cx hH room hfr' P₀ rT h t S
 replace hh:=hH.trans hh
 dsimp only[List.reverse,List.reverseAux] at S
 kd_subs
 refine wpAny_Try_except ?_
 have hLg:=S.out
 have haL:=S.above
 refine wpAny_mono (E:=bd3 z B0 (cx.env a82::outer) (fr.or d) (.int k tkk) cx.L [("table",.none),("limit",.int k tkk),("thing",v)]) ?_ (λU V q=>q) ?_
 ·kd_subs
  exact be9 S hB hF rfl kfn λfr' hs hF' T=>(ar9 (r:=10) X G GX (room.deeper (by decide)) hh hfr' (hb.trans (a29.trans hs)) hnf (by decide) (by decide) TP ok hn hw R (hB.trans (hs.trans a29)) (hF'.sub a29) T).sub a29
 clear S
 rintro q s' ⟨e,D,B,h,t,rfl,rfl,C⟩
 refine aM3 (s:=sh z h t) hfr' rfl C.fly λh1 F1 u1=>?_
 replace C:=C.step F1 u1
 refine az2 (s:=sh z h1 t) (x:=none) F1 λh2 F2 u2=>?_
 replace C:=C.step F2 u2
 clear F1 u1 u2 h
 obtain⟨S,bL,hLe⟩:=C.st (P:=w.params) rfl hbB haL
 refine wpAny_handleBy_cons (codeAny_handlers_test ?_) (by intro q;cases q)
 refine b14 S X G.bz7 ?_
 obtain⟨vs,T',oT,ts,⟨sl,he⟩,_⟩:=C.fly.obj
 refine aW2 ((S.kin X) _ _ GX.tl) he rfl ?_
 refine codeAny_handlers_suite_as ?_
 refine az2 (s:=sh z h2 t) (x:=none) C.fly λh3 F3 u3=>?_
 replace C:=C.step F3 u3
 clear F3 u3 S he
 obtain⟨S,bL,hLe⟩:=C.st (P:=w.params) rfl hbB haL
 obtain⟨vs,T',oT,ts,⟨sl,he⟩,_⟩:=C.fly.obj
 obtain⟨m,oD,hD,hm,hml⟩:=C.dict
 have hDr:rest h3 [cx.L,e] D oD:=⟨C.fly.stays _ _ hD,λhm=>by
  rcases List.mem_cons.mp hm with rfl |hm
  ·rw [bL] at hD;cases hD
  ·rw [List.mem_singleton] at hm;subst hm
   rw[C.fly.enew] at hD;cases hD⟩
 refine aB5 S ?_
 clear S;intro h4 S
 refine wpAny_execs_cons ?_
 refine wpAny_Return_some ?_
 refine bq1 ?_
 refine bb7 S (.head _) rfl ?_
 obtain⟨oe,he,hc,hdc,ws,hws⟩:=S.own.at_ _ (.head _)
 refine aW5 (od:=oD) (S.kin X) GX ⟨he,hc,(by unfold notCls;rw[hws]),(by rw[hdc];exact S.keep _ _ hDr)⟩ (by decide) (bg2 hm hml) rfl ?_
 refine wpAny_nameGoes_keeps (by kernel_rfl) S.ns (by kernel_rfl) λh5 v5 hn5 hs5=>?_
 refine rT.s ⟨rfl,λc o hc=>?_,λc o hc hd=>?_⟩
 ·have hcB:=C.stays _ _ hc
  have n1:c≠cx.L:=λq=>by subst q;rw[bL] at hcB;cases hcB
  have n2:c≠e:=λq=>by subst q;rw[C.fly.enew] at hcB;cases hcB
  refine (hs5.2 c n1).trans (S.keep _ _ ⟨C.fly.stays _ _ hcB,λhm=>?_⟩)
  rcases List.mem_cons.mp hm with q |hm
  ·exact n1 q
  ·exact n2 (List.mem_singleton.mp hm)
 ·obtain ⟨sl',e1⟩:=C.kept c o hc hd
  have n1:c≠cx.L:=λq=>by subst q;exact hLg o hc
  have n2:c≠e:=λq=>by
   subst q
   obtain⟨vs,T',oT,ts,⟨sl,he⟩,_⟩:=C.fly.obj
   rw[he] at e1
   have:=congrArg Obj.data (Option.some.inj e1)
   exact hd vs this.symm
  refine⟨sl',(hs5.2 c n1).trans (S.keep _ _ ⟨e1,λhm=>?_⟩)⟩
  rcases List.mem_cons.mp hm with q |hm
  ·exact n1 q
  ·exact n2 (List.mem_singleton.mp hm)
end
section
variable {B0:Heap} {outer:List Env}
theorem aV4 {k:Nat} (h:k<1010):Builtin.Int.intBits (k:Int)<=64:=by
 have:((List.range 1010).all λk=>decide (Builtin.Int.intBits (k:Int)<=64))=true:=by decide+kernel
 exact of_decide_eq_true (List.all_eq_true.mp this k (List.mem_range.mpr h))
theorem aU5 (a:Int):Builtin.divisionGoesByPylong a 5=false:=by
 unfold Builtin.divisionGoesByPylong
 have e:(decide ((if ((5:Int)==0)=true then 0 else (5:Int).natAbs.log2/30+1)>300))=false:=by decide
 simp only[e,Bool.false_and]
theorem a68 (X:a01 w K b) (G:KOk K) (room:a04 A 1) {dk lx:Addr} {vs:List Value} {k m:Nat} {u v:Tok} (hcs:∀v∈vs,X2 λ(n:Nat) (t:Tok)=>v= .int n t) (Il:ab2 g lx vs) (hlen:vs.length<=63) (hk:k<1000) (hm:0<m) (hm2:m<1000)
  (T:Sit w.params b g [(dk,.list [.ref lx,.int (k:Int) u])] h):
  a07 w A z (.ref 1268) [.ref dk,.int (m:Int) v] h t (λq h'=>∃fp',Sit w.params b g fp' h'/\X3 λ(n:Nat) (tk tk':Tok)=>A3 (n<m) (q= .int (n:Int) tk) (fp'=[(dk,.list [.ref lx,.int ((k+1:Nat):Int) tk'])])):=by
 refine en (binds:=[("deck",.ref dk),("many",.int (m:Int) v)]) G.bw4 X T room ?_
 kd_in
 refine a27 (S.isList 0 rfl) (by decide) (by decide) rfl ?_
 kd_subs
 refine aZ6 0 S rfl (by decide) (by simp) (by decide) ?_;clear S;intro h S
 dsimp+zetaDelta only[List.set,show (1:Int).toNat=1 from rfl] at S
 rw[show (k:Int)+1=((k+1:Nat):Int) from by exact rfl] at S
 kd_subs
 refine a27 (S.isList 0 rfl) (by decide) (by decide) rfl ?_
 kd_subs
 refine a27 (S.isList 0 rfl) (by decide) (by decide) rfl ?_
 kd_subs
 have hl:=Il.isList S.keep
 refine a34 hl (by exact lel (by keq_rows)) ?_;intro tk1
 kd_subs
 by_cases hle:k+1<=vs.length
 ·refine a32 400 true X G S (by simp;exact Int.ofNat_le.mpr (by keq_rows)) ?_;clear S;kbo_bools
  kd_subs
  refine a27 (S.isList 0 rfl) (by decide) (by decide) rfl ?_
  kd_subs
  refine a27 (S.isList 0 rfl) (by decide) (by decide) rfl ?_
  kd_subs
  obtain⟨n,tn,hn⟩:=hcs (vs[k]'(by lia)) (List.getElem_mem _)
  refine a27 (v:=.int n tn) (Il.isList S.keep) (by lia) (by lia) ?_ ?_
  ·rw [show (((k+1:Nat):Int) -1).toNat=k from by lia,List.getElem?_eq_getElem (by lia),hn]
  kd_subs
  refine aw8 (by lia) ?_;intro tk2
  kd_subs
  refine rT.s ⟨_,S.sit,n %m,tk2,_,Nat.mod_lt _ hm,?_,rfl⟩
  rw[Int.fmod_eq_emod_of_nonneg _ (by exact Int.natCast_nonneg _)]
  rfl
 ·refine a32 400 false X G S (by simp;lia) ?_;clear S;kbo_bools
  kd_subs
  refine a27 (S.isList 0 rfl) (by decide) (by decide) rfl ?_
  kd_subs
  refine a27 (S.isList 0 rfl) (by decide) (by decide) rfl ?_
  kd_subs
  refine aD9 (IntMulOk.of_right (aV4 (by lia))) ?_;intro tk2
  kd_subs
  refine aD9 (IntMulOk.of_right (by decide+kernel)) ?_;intro tk3
  kd_subs
  refine a27 (S.isList 0 rfl) (by decide) (by decide) rfl ?_
  kd_subs
  refine aD9 (IntMulOk.of_left (by decide+kernel)) ?_;intro tk4
  kd_subs
  refine a27 (S.isList 0 rfl) (by decide) (by decide) rfl ?_
  kd_subs
  have hl:=Il.isList S.keep
  refine a34 hl (by exact lel (by keq_rows)) ?_;intro tk5
  kd_subs
  refine aD9 (IntMulOk.of_left (by decide+kernel)) ?_;intro tk6
  kd_subs
  refine aW7 (by decide) (aU5 _) ?_;intro tk7
  kd_subs
  refine aw8 (by lia) ?_;intro tk8
  kd_subs
  have h0:0<=((((k+1:Nat):Int)*((k+1:Nat):Int)*37+23*((k+1:Nat):Int)+7*(vs.length:Int)).fdiv 5).fmod (m:Int):=Int.fmod_nonneg_of_pos _ (by exact Int.ofNat_lt.mpr (by keq_rows))
  obtain⟨n,hn⟩:=Int.eq_ofNat_of_zero_le h0
  have h1:((((k+1:Nat):Int)*((k+1:Nat):Int)*37+23*((k+1:Nat):Int)+7*(vs.length:Int)).fdiv 5).fmod (m:Int)<m:=Int.fmod_lt_of_pos _ (by exact Int.ofNat_lt.mpr (by keq_rows))
  refine rT.s ⟨_,S.sit,n,tk8,_,by lia,?_,rfl⟩
  exact congrArg (Value.int · tk8) hn
end
section
variable {B0:Heap} {outer:List Env}
noncomputable def mkN:Nat->Mk
 |0=>.quote |1=>.quasi |2=>.unq | _=>.splice
theorem aT5 (X:a01 w K b) (G:KOk K) (room:a04 A 1) (T:Sit w.params b (fr.or d) [] h):
  a07 w A z (.ref 1261) [] h t (λq h'=>X2 λd' fp'=>a48 w.params b fr d d' fp' h'/\(fp'=[]/\X2 λlv vs=>A3 (q= .ref lv) (ab2 d' lv vs) (∀i,i<4->X3 λa t1 t2=>vs[i]?=some (.ref a)/\aw4 d' a [.str (mkN i).sign t1,.str (mkN i).name t2]))):=by
 refine en (binds:=[]) G.bv8 X T room ?_
 kd_in
 obtain⟨d1,G1,I1,S⟩:=ao3 S
 obtain⟨d2,G2,I2,S⟩:=a11 S
 obtain⟨d3,G3,I3,S⟩:=a11 S
 obtain⟨d4,G4,I4,S⟩:=a11 S
 obtain⟨d5,G5,I5,S⟩:=a11 S
 refine rT.s ⟨d5,_,((((G1.trans G2).trans G3).trans G4).trans G5).back S.sit,rfl,_,_,rfl,I1.sub (((G2.trans G3).trans G4).trans G5).mono,λi hi=>?_⟩
 rcases(by lia:i=0∨i=1∨i=2∨i=3) with rfl |rfl |rfl |rfl
 ·exact ⟨_,_,_,rfl,I5⟩
 ·exact ⟨_,_,_,rfl,I4.sub G5.mono⟩
 ·exact ⟨_,_,_,rfl,I3.sub (G4.trans G5).mono⟩
 ·exact ⟨_,_,_,rfl,I2.sub ((G3.trans G4).trans G5).mono⟩
noncomputable abbrev ak2 (w:World) (dk lx:Addr) (k:Nat) (tk:Tok) (tb:TB) (tA dT rl bd:Addr) (rows:List Value):FP:=(dk,.list [.ref lx,.int (k:Int) tk])::Tab w tb tA dT rl bd rows
noncomputable def GenP (w:World) (dk lx tA dT rl bd:Addr) (tb:TB) (nf k kk:Nat) (d':Bas) (fp':FP) (P:TB->Bas->Prop):Prop:=
 X5 λtb' rows' nf' k' tk'=>A6 (Ext tb tb') (a17 d' tb' bd rows' nf') (nf'<=nf+1) (k'<=k+kk) (fp'=ak2 w dk lx k' tk' tb' tA dT rl bd rows') (P tb' d')
noncomputable def ak3:Dt->Prop
 | .int n=>-20<=n/\n<20
 | .sym s=>s∈(["quote","x","unquote","...","q?","A","a b","","1x","(","a.B"]:List Str)
 | .raw s=>∃n,n<1000/\s=aG7 n
 | .text cs=>cs=[]∨cs=[97]∨cs=[97,34]
 | .char c=>97<=c/\c<106
 | .port n=>0<=n/\n<40
 | .vec U V=>False | .q1 _ _=>False | .q2 _ _ _=>False
 | _=>True
theorem bd8 {n:Int} (h1: -20<=n) (h2:n<20):Str.ofString (toString n)=a28 n 10:=by
 have:((List.range 40).all λm=>Str.ofString (toString ((m:Int) -20))==a28 ((m:Int) -20) 10)=true:=by decide+kernel
 have:=List.all_eq_true.mp this (n+20).toNat (List.mem_range.mpr (by lia))
 have e:((n+20).toNat:Int) -20=n:=by lia
 rw[e] at this
 simpa using this
end
section
variable {B0:Heap} {outer:List Env}
noncomputable def br9 (tb':TB) (d':Bas) (q:Value):Prop:=X4 λa thing g t=>A4 (q= .ref a) (aw4 d' a [thing,.str (Dt.txt false true 10 g) t,.bool g.good]) (Rep tb' d' thing g) (ak3 g)
theorem b25 {n:Nat} (h:n<1000):aG7 n∉names:=by
 have:((List.range 1000).all λn=>!(names.contains (aG7 n)))=true:=by decide+kernel
 have:=List.all_eq_true.mp this n (List.mem_range.mpr h)
 simpa using this
theorem aD2 {ns ms:List Str} {x:Str} (h:(ns.all λy=>ms.contains y)=true) (hx:x∈ns):x∈ms:=by
 have:=List.all_eq_true.mp h x hx
 simpa using this
theorem aQ6 {ns:List Str} {x:Str} {c:Bool} (h:(ns.all λy=>aa9 y==c)=true) (hx:x∈ns):aa9 x=c:=by
 have:=List.all_eq_true.mp h x hx
 simpa using this
theorem aG3 {a:Addr} {vs:List Value} {ns:List Str} {n m:Nat} {u:Tok} {value slice:Expr} {Q:Value->Shared->Prop} (ha:h.IsList a vs.toArray) (hs:StrsAre vs ns) (hn:n<m) (hm:m<=ns.length/\m<1000000)
  (k:∀nm tk,nm∈ns->Q (.str nm tk) (sh z h t)) (hsub:subscripted slice false (.ref a) (.int (n:Int) u)=operate [.ref a,.int (n:Int) u] (getItem (.ref a) (.int (n:Int) u)):=by kernel_rfl):
  wpAny (model pw w) A (subscriptTail value slice (.ref a) (.int (n:Int) u)) Q E (sh z h t):=by
 have key:∀{vs:List Value} {ns:List Str},StrsAre vs ns->∀n,n<ns.length->X2 λnm tk=>vs[n]?=some (.str nm tk)/\nm∈ns:=by
  intro vs ns hs
  induction hs with
  |nil=>intro n h;exact absurd h (Nat.not_lt_zero _)
  |cons x t r ih=>
   intro n hn
   induction n using Nat.casesAuxOn with
   |zero=>exact⟨x,t,rfl,.head _⟩
   |succ n=>
    obtain⟨nm,tk,e,hm⟩:=ih n (Nat.lt_of_succ_lt_succ hn)
    exact⟨nm,tk,e,.tail _ hm⟩
 obtain⟨nm,tk,e,hmem⟩:=key hs n (by lia)
 exact a27 ha (by exact Int.natCast_nonneg _) (by lia) e (k nm tk hmem) hsub
set_option maxHeartbeats 2000000 in
theorem aU0 (X:a01 w K b) (G:KOk K) (room:a04 A 4) (hh:A.handled=none) (hb:Sub (Bas.of b) fr) {dk lx tA dT rl bd:Addr} {tb:TB} {rows vs:List Value} {nf k:Nat} {tk:Tok} (hcs:∀v∈vs,X2 λ(n:Nat) (t:Tok)=>v= .int n t) (Il:ab2 d lx vs) (hlen:vs.length<=63) (hk:k<900) (hnf:nf<890) (Tb:a17 d tb bd rows nf)
  (T:Sit w.params b (fr.or d) (ak2 w dk lx k tk tb tA dT rl bd rows) h):
  a07 w A z (.ref 1275) [.ref dk,.ref tA] h t (λq h'=>X2 λd' fp'=>a48 w.params b fr d d' fp' h'/\GenP w dk lx tA dT rl bd tb nf k 2 d' fp' λtb' d'=>br9 tb' d' q):=by
 refine en (binds:=[("deck",.ref dk),("table",.ref tA)]) G.bA0 X T room ?_
 kd_in
 refine a05 [true] S (λg' hs T=>a68 (m:=12) X G (room.deeper (by decide)) hcs (Il.sub (a12.trans hs)) hlen (by exact ltT (by keq_rows)) (by decide) (by decide) T) ?_
 clear S;rintro q h t fp' S ⟨way,tk1,tk2,hway,rfl,rfl⟩
 kcf_m
 kd_subs
 refine a05 [true] S (λg' hs T=>a68 (m:=40) X G (room.deeper (by decide)) hcs (Il.sub (a12.trans hs)) hlen (by lia) (by decide) (by decide) T) ?_
 clear S;rintro q h t fp' S ⟨num,tk3,tk4,hnum,rfl,rfl⟩
 kcf_m
 kd_subs
 refine b86 0 X G S hh (S.isTup 0 rfl) (by kernel_rfl) ?_;keq_hits
 replace S:=S.drop (List.sublist_cons_self _ _)
 kd_subs
 have fin:∀{h:Heap} {t:Nat} {d1:Bas} {tb1:TB} {rows1:List Value} {nf1:Nat} {tk5:Tok} {a:Addr} {thing:Value} {told:Str} {gd:Bool} {g:Dt} {t5:Tok} {l1:List (Str × Value)},aa2 fr d d1->Ext tb tb1->a17 d1 tb1 bd rows1 nf1->nf1<=nf+1->Rep tb1 d1 thing g->ak3 g->told=g.txt false true 10->gd=g.good->
   St w.params b (fr.or d1) cx.L l1 ((a,.tup [thing,.str told t5,.bool gd])::ak2 w dk lx (k+1+1) tk5 tb1 tA dT rl bd rows1) h->cx.R (.ret (.ref a)) (sh z h t):=by
  rintro h t d1 tb1 rows1 nf1 tk5 a thing told gd g t5 l1 G1 e1 e2 e3 e4 e5 rfl rfl S
  obtain⟨d2,G2,I2,S⟩:=a11 S
  exact rT.s ⟨d2,_,(G1.trans G2).back S.sit,tb1,rows1,nf1,k+1+1,tk5,e1,e2.sub G2.mono,e3,by exact Nat.lt_succ_self _,rfl,a,thing,g,t5,rfl,I2,e4.mono Ext.refl G2.mono,e5⟩
 by_cases h1:way<3
 ·refine a32 400 true X G S (by simp;exact Int.ofNat_lt.mpr (by keq_rows)) ?_;clear S;kbo_bools
  kd_subs
  refine aD8 (by lia) ?_;intro tk5
  kd_subs
  exact fin (g:=.int ((num:Int) -20)) (aa2.refl) Ext.refl Tb (by exact Nat.le_succ _) ⟨_,rfl⟩ ⟨by lia,by lia⟩ (bd8 (by lia) (by lia)) rfl S
 refine a32 400 false X G S (by simp;lia) ?_;clear S;kbo_bools
 kd_subs
 have m5:∀c:Nat,0<c->((num:Int).fmod (c:Int))=((num %c:Nat):Int):=λc hc=>by rw[Int.fmod_eq_emod_of_nonneg _ (by exact Int.natCast_nonneg _)];rfl
 by_cases h2:way<5
 ·refine a32 400 true X G S (by simp;exact Int.ofNat_lt.mpr (by keq_rows)) ?_;clear S;kbo_bools
  kd_subs
  refine aw8 (by decide) ?_;intro tk5
  rw[show ((num:Int).fmod 5)=((num %5:Nat):Int) from m5 5 (by decide)]
  have hlt:num %5<5:=Nat.mod_lt _ (by decide)
  generalize num %5=n5 at hlt ⊢
  refine aG3 (ns:=["quote","x","unquote","...","q?"]) (S.isList 0 rfl) (.cons _ _ (.cons _ _ (.cons _ _ (.cons _ _ (.cons _ _ .nil))))) hlt (by decide) ?_
  intro nm tkn hnm
  replace S:=S.drop (List.sublist_cons_self _ _)
  kd_subs
  refine a03 [false,true,true,true] S hb (λfr' hs T=>a64 X G (room.deeper (by decide)) (by exact ltT (by keq_rows)) (aD2 (by decide) hnm) Tb T) ?_
  clear S;rintro q h t d1 fp' G1 S ⟨tb1,rows1,a1,rfl,hl1,htb,Tb1,rfl⟩
  kcf_m
  have hx:Ext tb tb1:=htb.elim (λe=>e▸Ext.refl) (λe=>e▸Ext.app)
  replace S:=S.pick (fp':=[_,_,_,_]) [3,0,1,2]
  kd_subs
  exact fin (g:=.sym nm) G1 hx Tb1 (by exact Nat.le_succ _) (Tb1.rep hl1) (aD2 (ms:=["quote","x","unquote","...","q?","A","a b","","1x","(","a.B"]) (by decide) hnm) rfl (aQ6 (c:=true) (by decide+kernel) hnm).symm S
 refine a32 400 false X G S (by simp;lia) ?_;clear S;kbo_bools
 kd_subs
 by_cases h3:way=5
 ·refine a32 400 true X G S (by simp;lia) ?_;clear S;kbo_bools
  kd_subs
  refine aw8 (by decide) ?_;intro tk5
  rw[show ((num:Int).fmod 3)=((num %3:Nat):Int) from m5 3 (by decide)]
  have hlt:num %3<3:=Nat.mod_lt _ (by decide)
  refine at3 S (S.isList 0 rfl) (szE (Nat.le_of_ble_eq_true rfl)) ?_
  clear S;intro lc h S
  replace S:=S.pick (fp':=[_,_,_,_,_]) [0,2,3,4,5]
  kd_subs
  refine aB1 X G (room.deeper (by decide)) S ?_;clear S;intro xa dxa h t S
  obtain⟨d1,G1,I1,S⟩:=a33 S
  obtain⟨d2,G2,I2,S⟩:=ao3 S
  kd_subs
  refine aw8 (by decide) ?_;intro tk6
  rw[show ((num:Int).fmod 3)=((num %3:Nat):Int) from m5 3 (by decide)]
  rcases(by lia:num %3=0∨num %3=1∨num %3=2) with e |e |e
  all_goals
   rw[e] at I2 ⊢
   refine a27 (S.isList 0 rfl) (by decide) (by decide) rfl ?_
   replace S:=S.drop (List.sublist_cons_self _ _)
   kd_subs
  ·exact fin (g:=.text []) (G1.trans G2) Ext.refl (Tb.sub (G1.trans G2).mono) (by exact Nat.le_succ _) ⟨_,_,_,rfl,I1.sub G2.mono,I2,trivial⟩ (.inl rfl) (by kernel_rfl) rfl S
  ·exact fin (g:=.text [97]) (G1.trans G2) Ext.refl (Tb.sub (G1.trans G2).mono) (by exact Nat.le_succ _) ⟨_,_,_,rfl,I1.sub G2.mono,I2,⟨_,rfl⟩,trivial⟩ (.inr (.inl rfl)) (by kernel_rfl) rfl S
  ·exact fin (g:=.text [97,34]) (G1.trans G2) Ext.refl (Tb.sub (G1.trans G2).mono) (by exact Nat.le_succ _) ⟨_,_,_,rfl,I1.sub G2.mono,I2,⟨_,rfl⟩,⟨_,rfl⟩,trivial⟩ (.inr (.inr rfl)) (by kernel_rfl) rfl S
 refine a32 400 false X G S (by simp;lia) ?_;clear S;kbo_bools
 kd_subs
 by_cases h4:way=6
 ·refine a32 400 true X G S (by simp;lia) ?_;clear S;kbo_bools
  kd_subs
  refine aw8 (by decide) ?_;intro tk5
  rw[show ((num:Int).fmod 9)=((num %9:Nat):Int) from m5 9 (by decide)]
  have hlt:num %9<9:=Nat.mod_lt _ (by decide)
  kd_subs
  refine aB4 X G (room.deeper (by decide)) S ?_;clear S;intro xa dxa h t S
  obtain⟨d1,G1,I1,S⟩:=a33 S
  kd_subs
  refine aw8 (by decide) ?_;intro tk6
  rw[show ((num:Int).fmod 9)=((num %9:Nat):Int) from m5 9 (by decide)]
  kd_subs
  refine b63 (by exact Int.natCast_nonneg _) (by lia) ?_;intro tk7
  kd_subs
  rw[show ((97:Int)+((num %9:Nat):Int)).toNat=97+num %9 from by exact rfl]
  refine a42 (szE (Nat.le_of_ble_eq_true rfl)) ?_;intro tk8 t
  kd_subs
  exact fin (g:=.char (97+num %9)) G1 Ext.refl (Tb.sub G1.mono) (by exact Nat.le_succ _) ⟨xa,_,rfl,by rw[show ((97+num %9:Nat):Int)=(97:Int)+((num %9:Nat):Int) from by exact rfl];exact I1⟩ ⟨by lia,by lia⟩ rfl rfl S
 refine a32 400 false X G S (by simp;lia) ?_;clear S;kbo_bools
 kd_subs
 by_cases h5:way=7
 ·refine a32 400 true X G S (by simp;lia) ?_;clear S;kbo_bools
  kd_subs
  refine aw8 (by decide) ?_;intro tk5
  rw[show ((num:Int).fmod 6)=((num %6:Nat):Int) from m5 6 (by decide)]
  have hlt:num %6<6:=Nat.mod_lt _ (by decide)
  generalize num %6=n5 at hlt ⊢
  refine aG3 (ns:=["A","a b","","1x","(","a.B"]) (S.isList 0 rfl) (.cons _ _ (.cons _ _ (.cons _ _ (.cons _ _ (.cons _ _ (.cons _ _ .nil)))))) hlt (by decide) ?_
  intro nm tkn hnm
  replace S:=S.drop (List.sublist_cons_self _ _)
  kd_subs
  refine a03 [false,true,true,true] S hb (λfr' hs T=>a64 X G (room.deeper (by decide)) (by exact ltT (by keq_rows)) (aD2 (by decide) hnm) Tb T) ?_
  clear S;rintro q h t d1 fp' G1 S ⟨tb1,rows1,a1,rfl,hl1,htb,Tb1,rfl⟩
  kcf_m
  have hx:Ext tb tb1:=htb.elim (λe=>e▸Ext.refl) (λe=>e▸Ext.app)
  replace S:=S.pick (fp':=[_,_,_,_]) [3,0,1,2]
  kd_subs
  exact fin (g:=.sym nm) G1 hx Tb1 (by exact Nat.le_succ _) (Tb1.rep hl1) (aD2 (ms:=["quote","x","unquote","...","q?","A","a b","","1x","(","a.B"]) (by decide) hnm) rfl (aQ6 (c:=false) (by decide+kernel) hnm).symm S
 refine a32 400 false X G S (by simp;lia) ?_;clear S;kbo_bools
 kd_subs
 by_cases h6:way=8
 ·refine a32 400 true X G S (by simp;lia) ?_;clear S;kbo_bools
  kd_subs
  refine a03 [false,true,true,true] S hb (λfr' hs T=>aU1 X G (room.deeper (by decide)) (by exact ltT (by keq_rows)) Tb T) ?_
  clear S;rintro q h t d1 fp' G1 S ⟨a1,n1,u1,v1,rfl,I1,Tb1,rfl⟩
  kcf_m
  replace S:=S.pick (fp':=[_,_,_,_]) [3,0,1,2]
  have J1:a00 (fr.or d1) a1 68 (a21 (.int n1 u1) (.str (aG7 rows.length) v1)):=I1.sub a12
  unfold a21 at J1
  kd_subs
  have hr:=(Tb.small (by exact ltT (by keq_rows))).1
  exact fin (g:=.raw (aG7 rows.length)) G1 Ext.refl Tb1 (by exact Nat.lt_succ_self _) ⟨a1,n1,u1,v1,rfl,b25 (by assumption),I1⟩ ⟨_,by assumption,rfl⟩ rfl rfl S
 refine a32 400 false X G S (by simp;lia) ?_;clear S;kbo_bools
 kd_subs
 refine bf3 X G (room.deeper (by decide)) S ?_;clear S;intro xb dxb h t S
 obtain⟨d1,G1,I1,S⟩:=a33 S
 obtain⟨d2,G2,I2,S⟩:=a11 S
 obtain⟨d3,G3,I3,S⟩:=a11 S
 kd_subs
 refine aL4 X G (room.deeper (by decide)) S ?_;clear S;intro xp dxp h t S
 obtain⟨d4,G4,I4,S⟩:=a33 S
 obtain⟨d5,G5,I5,S⟩:=a11 S
 kd_subs
 refine aL5 X G (room.deeper (by decide)) S ?_;clear S;intro xr dxr h t S
 obtain⟨d6,G6,I6,S⟩:=a33 S
 kd_subs
 refine aD8 (by lia) ?_;intro tk5
 kd_subs
 have hsl:=av4 (n:=num) (by exact ltT (by keq_rows))
 refine a42 (by rw[sizeLine_eq,show (Str.ofString "#<port ").length=7 from rfl];lia) ?_;intro tk6 t
 kd_subs
 refine a42 (by rw[sizeLine_eq,Str.length_append,show (Str.ofString "#<port ").length=7 from rfl,show (Str.ofString ">").length=1 from rfl];lia) ?_;intro tk7 t
 kd_subs
 refine aB2 X G (room.deeper (by decide)) S ?_;clear S;intro xq dxq h t S
 obtain⟨d7,G7,I7,S⟩:=a33 S
 kd_subs
 refine bk3 3 0 S rfl rfl (szE (Nat.le_of_ble_eq_true rfl)) ?_;clear S;intro lst3 h S
 replace S:=S.pick (fp':=[_,_,_,_,_,_,_,_]) [2,3,5,0,6,7,8,9]
 obtain⟨d8,G8,I8,S⟩:=a11 S
 obtain⟨d9,G9,I9,S⟩:=a11 S
 obtain⟨d10,G10,I10,S⟩:=a11 S
 kd_subs
 refine aw8 (by decide) ?_;intro tk8
 rw[show ((num:Int).fmod 6)=((num %6:Nat):Int) from m5 6 (by decide)]
 have hlt:num %6<6:=Nat.mod_lt _ (by decide)
 have Ga:=(((((((((G1.trans G2).trans G3).trans G4).trans G5).trans G6).trans G7).trans G8).trans G9).trans G10)
 have Gb:=((((((G4.trans G5).trans G6).trans G7).trans G8).trans G9).trans G10)
 have J1:=I1.sub (((((((((G2.trans G3).trans G4).trans G5).trans G6).trans G7).trans G8).trans G9).trans G10)).mono
 have J2:=I2.sub (G3.trans Gb).mono
 have J3:=I3.sub Gb.mono
 have J4:=I4.sub (((((G5.trans G6).trans G7).trans G8).trans G9).trans G10).mono
 have J5:=I5.sub ((((G6.trans G7).trans G8).trans G9).trans G10).mono
 have J6:=I6.sub (((G7.trans G8).trans G9).trans G10).mono
 have J7:=I7.sub ((G8.trans G9).trans G10).mono
 have J8:=I8.sub (G9.trans G10).mono
 have J9:=I9.sub G10.mono
 have fin2:∀{h:Heap} {t:Nat} {a:Addr} {t5:Tok} {l1:List (Str × Value)},St w.params b (fr.or d10) cx.L l1 ((a,.tup [.ref 44,.str (Str.ofString "()") t5,.bool true])::ak2 w dk lx (k+1+1) tk4 tb tA dT rl bd rows) h->cx.R (.ret (.ref a)) (sh z h t):=
  λS=>fin (g:=.nil) Ga Ext.refl (Tb.sub Ga.mono) (by exact Nat.le_succ _) rfl trivial rfl rfl S
 rcases(by lia:num %6=0∨num %6=1∨num %6=2∨num %6=3∨num %6=4∨num %6=5) with e |e |e |e |e |e
 all_goals
  rw[e]
  refine a27 (S.isList 0 rfl) (by decide) (by decide) rfl ?_
  replace S:=S.drop (List.sublist_cons_self _ _)
  first
   |(refine ad6 0 X G S hh (J3.isTup (a12.keeps S.keep)) (by kernel_rfl) ?_;keq_hits)
   |(refine ad6 0 X G S hh (J2.isTup (a12.keeps S.keep)) (by kernel_rfl) ?_;keq_hits)
   |(refine ad6 0 X G S hh (J5.isTup (a12.keeps S.keep)) (by kernel_rfl) ?_;keq_hits)
   |(refine ad6 0 X G S hh (I10.isTup (a12.keeps S.keep)) (by kernel_rfl) ?_;keq_hits)
   |(refine ad6 0 X G S hh (J9.isTup (a12.keeps S.keep)) (by kernel_rfl) ?_;keq_hits)
   |(refine ad6 0 X G S hh (J8.isTup (a12.keeps S.keep)) (by kernel_rfl) ?_;keq_hits)
  kd_subs
  by_cases h9:way=9
  case neg=>
   refine a32 400 false X G S (by simp;lia) ?_;clear S;kbo_bools
   kd_subs
   exact fin2 S
  refine a32 400 true X G S (by simp;lia) ?_;clear S;kbo_bools
  kd_subs
 ·exact fin (g:=.eof) Ga Ext.refl (Tb.sub Ga.mono) (by exact Nat.le_succ _) rfl trivial (by kernel_rfl) rfl S
 ·exact fin (g:=.unspec) Ga Ext.refl (Tb.sub Ga.mono) (by exact Nat.le_succ _) rfl trivial (by kernel_rfl) rfl S
 ·exact fin (g:=.box) Ga Ext.refl (Tb.sub Ga.mono) (by exact Nat.le_succ _) ⟨_,_,rfl,J1⟩ trivial rfl rfl S
 ·exact fin (g:=.promise) Ga Ext.refl (Tb.sub Ga.mono) (by exact Nat.le_succ _) ⟨_,_,rfl,J4⟩ trivial rfl rfl S
 ·exact fin (g:=.port num) Ga Ext.refl (Tb.sub Ga.mono) (by exact Nat.le_succ _) ⟨_,_,rfl,J6⟩ ⟨by exact Int.natCast_nonneg _,by exact Int.ofNat_lt.mpr (by keq_rows)⟩ (by rw[show (Dt.port num).txt false true 10=Str.empty++Str.ofString "#<port "++Str.ofString (toString (num:Int))++Str.ofString ">" from rfl,a30]) rfl S
 ·exact fin (g:=.prim) Ga Ext.refl (Tb.sub Ga.mono) (by exact Nat.le_succ _) ⟨_,_,_,rfl,J7⟩ trivial (by kernel_rfl) rfl S
end
section
variable {B0:Heap} {outer:List Env}
theorem ak3.atom {g:Dt} (h:ak3 g):g.isAtom=true:=by
 induction g using Dt.casesOn<;>first |rfl |exact h.elim
theorem ak3.len {g:Dt} (h:ak3 g):(g.txt false true 10).length<=30:=by
 induction g using Dt.casesOn with
 |int n=>exact Nat.le_trans (ay3 n 10) (by decide)
 |sym s=>
  have:((["quote","x","unquote","...","q?","A","a b","","1x","(","a.B"]:List Str).all λs=>decide (s.length<=30))=true:=by decide+kernel
  exact of_decide_eq_true (List.all_eq_true.mp this s h)
 |raw s=>
  obtain⟨n,hn,rfl⟩:=h
  have:((List.range 1000).all λn=>decide ((aG7 n).length<=30))=true:=by decide+kernel
  exact of_decide_eq_true (List.all_eq_true.mp this n (List.mem_range.mpr hn))
 |text cs=>rcases h with rfl |rfl |rfl<;>exact Nat.le_of_ble_eq_true (by kernel_rfl!)
 |char c=>
  show (Str.ofString "#\\"++(⟨#[c]⟩:Str)).length<=30
  rw[Str.length_append]
  show (Str.ofString "#\\").length+1<=30
  exact Nat.le_of_ble_eq_true (by kernel_rfl!)
 |port n=>
  have:((List.range 40).all λn=>decide (((Dt.port (n:Int)).txt false true 10).length<=30))=true:=by decide+kernel
  obtain⟨m,rfl⟩:=Int.eq_ofNat_of_zero_le h.1
  exact of_decide_eq_true (List.all_eq_true.mp this m (List.mem_range.mpr (by have:=h.2;lia)))
 |vec U V=>exact h.elim
 |q1 U V=>exact h.elim
 |q2 U V U1=>exact h.elim
 |eof=>exact Nat.le_of_ble_eq_true (by kernel_rfl!)
 |unspec=>exact Nat.le_of_ble_eq_true (by kernel_rfl!)
 |nil=>exact Nat.le_of_ble_eq_true (by kernel_rfl!)
 |box=>exact Nat.le_of_ble_eq_true (by kernel_rfl!)
 |promise=>exact Nat.le_of_ble_eq_true (by kernel_rfl!)
 |prim=>exact Nat.le_of_ble_eq_true (by kernel_rfl!)
noncomputable def Gen:Dt->Prop
 | .vec a c=>Gen a/\Gen c
 | .q1 U a=>Gen a
 | .q2 U a c=>Gen a/\Gen c
 | .int n=>ak3 (.int n)| .sym s=>ak3 (.sym s)| .raw s=>ak3 (.raw s)| .text cs=>ak3 (.text cs)| .char c=>ak3 (.char c)| .port n=>ak3 (.port n)
 | _=>True
theorem ak3.gen {g:Dt} (h:ak3 g):Gen g:=by
 induction g using Dt.casesOn<;>first |exact h |trivial |exact h.elim
noncomputable def br4 (tb:TB) (d:Bas) (v:Value):Prop:=X5 λa thing g t1 t2=>A5 (v= .ref a) (aw4 d a [thing,.str (Dt.txt true true 10 g) t1,.str (Dt.txt false true 10 g) t2,.bool g.good]) (Rep tb d thing g) (Gen g) ((g.txt false true 10).length<=80)
theorem br4.mono {tb tb':TB} {d d':Bas} (e:Ext tb tb') (k:Sub d d') {v:Value}:br4 tb d v->br4 tb' d' v:=λ⟨a,thing,g,t1,t2,h1,h2,h3,h4,h5⟩=>⟨a,thing,g,t1,t2,h1,h2.sub k,h3.mono e k,h4,h5⟩
noncomputable def Rws (tb:TB) (d:Bas) (us:List Value):Prop:=∀v∈us,br4 tb d v
theorem Rws.mono {tb tb':TB} {d d':Bas} (e:Ext tb tb') (k:Sub d d') {us:List Value} (h:Rws tb d us):Rws tb' d' us:=λv hv=>(h v hv).mono e k
theorem as9 (iw:Bool) (r:Nat):∀g:Dt,(g.txt true iw r).length<=(g.txt false iw r).length:=by
 intro g
 induction g with
 |vec a c h1 h2=>simp only[txV,txQ,txR,txS,Str.length_append];lia
 |q1 m a h=>
  simp only[txV,txQ,txR,txS,Bool.false_eq_true,ite_false,ite_true,Str.length_append]
  have:m.sign.length<=m.name.length:=by induction m using Mk.casesOn<;>exact Nat.le_of_ble_eq_true (by kernel_rfl!)
  lia
 |q2 m a c h1 h2=>simp only[txV,txQ,txR,txS,Str.length_append];lia
 | _=>exact Nat.le_refl _
theorem Mk.name_len (m:Mk):5<=m.name.length/\m.name.length<=16:=by induction m using Mk.casesOn<;>exact⟨Nat.le_of_ble_eq_true (by kernel_rfl!),Nat.le_of_ble_eq_true (by kernel_rfl!)⟩
theorem bk8 (iw:Bool) (r:Nat):∀g:Dt,g.wt false<=(g.txt false iw r).length+1:=by
 have e1:(Str.ofString "(").length=1:=by kernel_rfl!
 have e2:(Str.ofString " ").length=1:=by kernel_rfl!
 have e3:(Str.ofString ")").length=1:=by kernel_rfl!
 have e4:(Str.ofString "#(").length=2:=by kernel_rfl!
 intro g
 induction g with
 |vec a c h1 h2=>simp only[txV,txQ,txR,txS,wtV,wtQ,wtR,wtS,Str.length_append];lia
 |q1 m a h=>
  have:=m.name_len
  simp only[txV,txQ,txR,txS,wtV,wtQ,wtR,wtS,Bool.false_eq_true,ite_false,Str.length_append];lia
 |q2 m a c h1 h2=>
  have:=m.name_len
  simp only[txV,txQ,txR,txS,wtV,wtQ,wtR,wtS,Str.length_append];lia
 | _=>exact Nat.succ_le_succ (Nat.zero_le _)
theorem bk7:∀g:Dt,g.wt true<=g.wt false:=by
 intro g
 induction g with
 |vec a c h1 h2=>simp only[wtV,wtQ,wtR,wtS];lia
 |q1 m a h=>simp only[wtV,wtQ,wtR,wtS,Bool.false_eq_true,ite_false,ite_true];lia
 |q2 m a c h1 h2=>simp only[wtV,wtQ,wtR,wtS];lia
 | _=>exact Nat.le_refl _
theorem Gen.ok:∀{g:Dt},Gen g->g.ok true:=by
 intro g
 induction g with
 |vec a c h1 h2=>exact λh=>⟨h1 h.1,h2 h.2⟩
 |q1 m a h1=>exact λh=>h1 h
 |q2 m a c h1 h2=>exact λh=>⟨h1 h.1,h2 h.2⟩
 |int n=>
  intro h
  have h: -20<=n/\n<20:=h
  show n.natAbs<1024
  lia
 |sym s=>exact λh=>Nat.le_trans (ak3.len (g:=.sym s) h) (by decide)
 |raw s=>exact λh=>Nat.le_trans (ak3.len (g:=.raw s) h) (by decide)
 |text cs=>
  intro h
  have h:cs=[]∨cs=[97]∨cs=[97,34]:=h
  rcases h with rfl |rfl |rfl<;>exact⟨by decide,by decide⟩
 |char c=>
  intro h
  have h:97<=c/\c<106:=h
  refine⟨by lia,λU i hi=>?_⟩
  have key:((List.range 9).all λk=>(List.range 2).all λi=>!((sgn i).2==(⟨#[97+k]⟩:Str)))=true:=by decide+kernel
  have h1:=List.all_eq_true.mp (List.all_eq_true.mp key (c -97) (List.mem_range.mpr (by lia))) i (List.mem_range.mpr hi)
  rw[show 97+(c -97)=c from by lia] at h1
  simpa using h1
 |port n=>
  intro h
  have h:0<=n/\n<40:=h
  exact⟨h.1,by lia⟩
 | _=>exact λU=>trivial
end
section
set_option hygiene false in
local macro_rules | `(tactic| cell_call) => `(tactic| ((with_reducible first | (refine (?_ : ∀ (h : Heap) (t : Nat), St _ _ _ _ _ _ h -> Dn _ _ _ _ _ (Ct.ev (Expr.Name _ _)) _ _); intro h t S) | show Dn _ _ _ _ _ (Ct.ev (Expr.Name _ _)) _ _); first | refine aL6 S 0 rfl (by kernel_rfl!) ?_ | refine aL6 S 1 rfl (by kernel_rfl!) ?_ | refine aL6 S 2 rfl (by kernel_rfl!) ?_))
variable {B0:Heap} {outer:List Env}
theorem b18 {i:Nat} (h:i<4):(mkN i).name∈names:=by
 rcases(by lia:i=0∨i=1∨i=2∨i=3) with rfl |rfl |rfl |rfl<;>decide
set_option maxHeartbeats 4000000 in
theorem bo6 {i:FI} {c:Cx} {k:List Fr} {f:Fr} {a:Ans} (v0:Value) (S:St w.params b g c.L l fp h) (k1:(∀h t,St w.params b g c.L l fp h->den w z K i c k (.v v0) (sh z h t))->den w z K i c (f::k) a (sh z h t))
  (k2:∀h t,St w.params b g c.L l fp h->den w z K i c k (.v v0) (sh z h t)):den w z K i c (f::k) a (sh z h t):=k1 k2
theorem b09 (X:a01 w K b) (G:KOk K) (room:a04 A 6) (hh:A.handled=none) (hb:Sub (Bas.of b) fr) {rw dk lx tA dT rl bd:Addr} {tb:TB} {rows vs us:List Value} {nf k:Nat} {tk:Tok} (hcs:∀v∈vs,X2 λ(n:Nat) (t:Tok)=>v= .int n t) (Il:ab2 d lx vs) (hlen:vs.length<=63) (hk:k<800) (hnf:nf<880) (Tb:a17 d tb bd rows nf) (hus:Rws tb d us) (hul:us.length<900)
  (T:Sit w.params b (fr.or d) ((rw,.list us)::ak2 w dk lx k tk tb tA dT rl bd rows) h):
  a07 w A z (.ref 1280) [.ref dk,.ref rw,.ref tA] h t (λq h'=>X2 λd' fp'=>a48 w.params b fr d d' fp' h'/\GenP w dk lx tA dT rl bd tb nf k 4 d' (fp'.drop 1) λtb' d'=>fp'.take 1=[(rw,.list us)]/\br4 tb' d' q):=by
 refine enC (binds:=[("deck",.ref dk),("rows",.ref rw),("table",.ref tA)]) G.bA8 X T room (by kernel_rfl) (by kernel_rfl) ?_
 intro cx hH room P₀ rT h t S0
 replace hh:=hH.trans hh
 have S:St w.params b (fr.or d) cx.L [("table",.ref tA),("rows",.ref rw),("deck",.ref dk)] ((cx.L+1+1+1,.cell (aG6 none))::(cx.L+1+1,.cell (aG6 none))::(cx.L+1,.cell (aG6 none))::(rw,.list us)::ak2 w dk lx k tk tb tA dT rl bd rows) h:=S0
 clear S0
 kd_subs
 refine a05 [false,false,false,false,true] S (λg' hs T=>a68 (m:=6) X G (room.deeper (by decide)) hcs (Il.sub (a12.trans hs)) hlen (by exact ltT (by keq_rows)) (by decide) (by decide) T) ?_
 clear S;rintro q h t fp' S ⟨way,tk1,tk2,hway,rfl,rfl⟩
 kcf_m
 replace S:=S.pick (fp':=[_,_,_,_,_,_,_,_]) [1,2,3,4,0,5,6,7]
 kd_subs
 refine as8 (S.isList 4 rfl) (S.isList 0 rfl) (by have:=(room.of 0 (by decide)).2;lia) ?_
 replace S:=S.drop (List.sublist_cons_self _ _)
 have atom:∀{E:Value->Shared->Prop} {h:Heap} {t:Nat} {l1:List (Str × Value)} {tk2:Tok},((("way",Value.int (way:Int) tk1):Str × Value)::[("table",.ref tA),("rows",.ref rw),("deck",.ref dk)])=l1->St w.params b (fr.or d) cx.L l1 ((cx.L+1+1+1,.cell (aG6 none))::(cx.L+1+1,.cell (aG6 none))::(cx.L+1,.cell (aG6 none))::(rw,.list us)::ak2 w dk lx (k+1) tk2 tb tA dT rl bd rows) h->
   wpAny (model pw w) cx.A (call (.ref 1275) [.ref dk,.ref tA]) (λv s'=>X8 λh' t' d' tb' rows' nf' k' tk'=>A8 (aa2 fr d d') (s'=sh z h' t') (Ext tb tb') (a17 d' tb' bd rows' nf') (nf'<=nf+1) (k'<=k+4) (br9 tb' d' v)
    (St w.params b (fr.or d') cx.L l1 ((cx.L+1+1+1,.cell (aG6 none))::(cx.L+1+1,.cell (aG6 none))::(cx.L+1,.cell (aG6 none))::(rw,.list us)::ak2 w dk lx k' tk' tb' tA dT rl bd rows') h')) E (sh z h t):=by
  rintro E h t l1 tk2 rfl S
  refine a03 [false,false,false,false,true,true,true,true] S hb (λfr' hs T=>aU0 X G (room.deeper (by decide)) hh (hb.trans (a29.trans hs)) hcs Il hlen (by lia) (by exact ltT (by keq_rows)) Tb T) ?_
  rintro q h' t' d1 fp' G1 S ⟨tb1,rows1,nf1,k1,tk4,e1,Tb1,e2,e3,rfl,P⟩
  kcf_m
  exact⟨h',t',d1,tb1,rows1,nf1,k1,tk4,G1,rfl,e1,Tb1,e2,by exact Nat.le_succ_of_le (by keq_rows),P,S.pick (fp':=[_,_,_,_,_,_,_,_]) [4,5,6,7,0,1,2,3]⟩
 have fin:∀{h:Heap} {t:Nat} {d1:Bas} {tb1:TB} {rows1:List Value} {nf1 k1:Nat} {tk5:Tok} {a:Addr} {thing:Value} {told1 told2:Str} {gd:Bool} {g:Dt} {t5 t6:Tok} {l1:List (Str × Value)} {c1 c2 c3:Option Value},aa2 fr d d1->Ext tb tb1->a17 d1 tb1 bd rows1 nf1->nf1<=nf+1->k1<=k+4->Rep tb1 d1 thing g->Gen g->(g.txt false true 10).length<=80->told1=g.txt true true 10->told2=g.txt false true 10->gd=g.good->
   St w.params b (fr.or d1) cx.L l1 ((a,.tup [thing,.str told1 t5,.str told2 t6,.bool gd])::(cx.L+1+1+1,.cell (aG6 c1))::(cx.L+1+1,.cell (aG6 c2))::(cx.L+1,.cell (aG6 c3))::(rw,.list us)::ak2 w dk lx k1 tk5 tb1 tA dT rl bd rows1) h->
   cx.R (.ret (.ref a)) (sh z h t):=by
  rintro h t d1 tb1 rows1 nf1 k1 tk5 a thing told1 told2 gd g t5 t6 l1 c1 c2 c3 G1 e1 e2 e3 e3' e4 e5 e6 rfl rfl rfl S
  obtain⟨d2,G2,I2,S⟩:=a11 S
  replace S:=S.drop (.cons _ (.cons _ (.cons _ (.refl _))))
  exact rT.s ⟨d2,_,(G1.trans G2).back S.sit,⟨tb1,rows1,nf1,k1,tk5,e1,e2.sub G2.mono,e3,e3',rfl,rfl,a,thing,g,t5,t6,rfl,I2,e4.mono Ext.refl G2.mono,e5,e6⟩⟩
 by_cases h0:us=[]∨(us≠[]/\way=0)
 ·rcases h0 with rfl |⟨hne,rfl⟩
  case' inr=>rw[show us.isEmpty=false from by induction us using List.casesOn with |nil=>exact absurd rfl hne |cons _ _=>rfl]
  all_goals
   kd_subs
   refine wpAny_mono (atom rfl S) (λv s' hv=>?_) (λU V q=>q)
   clear S
   obtain⟨h,t,d1,tb1,rows1,nf1,k1,tk4,G1,rfl,e1,Tb1,e2,e3,⟨a,thing,g,t5,rfl,I1,R1,HG⟩,S⟩:=hv
   refine bo1 0 X G S hh (I1.isTup (a12.keeps S.keep)) ?_;clear S;kbo_bools
   kd_subs
   exact fin G1 e1 Tb1 e2 e3 R1 HG.gen (Nat.le_trans HG.len (by decide)) (by rw[ag4 HG.atom,ag4 HG.atom]) rfl rfl S
 clear atom
 rw[show us.isEmpty=false from by induction us using List.casesOn with |nil=>exact absurd (.inl rfl) h0 |cons _ _=>rfl]
 kd_subs
 have hpos:0<us.length:=List.length_pos_iff.mpr λq=>h0 (.inl q)
 have hw0:way≠0:=λq=>h0 (.inr ⟨λq=>h0 (.inl q),q⟩)
 refine a32 400 false X G S (by simpa using hw0) ?_;clear S;kbo_bools
 kd_subs
 refine a34 (S.isList 3 rfl) (by exact ltT (by keq_rows)) ?_;intro tk3
 kd_subs
 refine a05 [false,false,false,false,true] S (λg' hs T=>a68 (m:=us.length) X G (room.deeper (by decide)) hcs (Il.sub (a12.trans hs)) hlen (by lia) hpos (by exact ltT (by keq_rows)) T) ?_
 clear S;rintro q h t fp' S ⟨n1,tk4,tk5,hn1,rfl,rfl⟩
 kcf_m
 replace S:=S.pick (fp':=[_,_,_,_,_,_,_,_]) [1,2,3,4,0,5,6,7]
 refine a27 (v:=us[n1]) (S.isList 3 rfl) (by exact Int.natCast_nonneg _) (by lia) (by rw[show ((n1:Int)).toNat=n1 from by exact rfl,List.getElem?_eq_getElem hn1]) ?_
 kd_subs
 refine a34 (S.isList 3 rfl) (by exact ltT (by keq_rows)) ?_;intro tk6
 kd_subs
 refine a05 [false,false,false,false,true] S (λg' hs T=>a68 (m:=us.length) X G (room.deeper (by decide)) hcs (Il.sub (a12.trans hs)) hlen (by lia) hpos (by exact ltT (by keq_rows)) T) ?_
 clear S;rintro q h t fp' S ⟨n2,tk7,tk8,hn2,rfl,rfl⟩
 kcf_m
 replace S:=S.pick (fp':=[_,_,_,_,_,_,_,_]) [1,2,3,4,0,5,6,7]
 refine a27 (v:=us[n2]) (S.isList 3 rfl) (by exact Int.natCast_nonneg _) (by lia) (by rw[show ((n2:Int)).toNat=n2 from by exact rfl,List.getElem?_eq_getElem hn2]) ?_
 have r1:=hus us[n1] (List.getElem_mem _)
 have r2:=hus us[n2] (List.getElem_mem _)
 generalize us[n1]=v1 at r1 ⊢
 generalize us[n2]=v2 at r2 ⊢
 obtain⟨p1,x1,g1,t11,t12,rfl,I1,R1,H1,L1⟩:=r1
 obtain⟨p2,x2,g2,t21,t22,rfl,I2,R2,H2,L2⟩:=r2
 kd_subs
 refine bb8 0 X G S hh (S.isTup 0 rfl) ?_;keq_hits
 replace S:=S.drop (List.sublist_cons_self _ _)
 refine au9 S 2 rfl (by kernel_rfl!) ?_;kcj_m
 refine au9 S 1 rfl (by kernel_rfl!) ?_;kcj_m
 kd_subs
 refine a39 (j:=3) (I1.isTup (a12.keeps S.keep)) (by decide) (by decide) (by kernel_rfl!) rfl ?_
 kd_subs
 have hgd:∃gd,gd=(g1.good&&g2.good):=⟨_,rfl⟩
 obtain⟨gd,hgd⟩:=hgd
 have e1:(Str.ofString "(").length=1:=by kernel_rfl!
 have e2:(Str.ofString " ").length=1:=by kernel_rfl!
 have e3:(Str.ofString ")").length=1:=by kernel_rfl!
 have e4:(Str.ofString "#(").length=2:=by kernel_rfl!
 have s1:=as9 true 10 g1
 have s2:=as9 true 10 g2
 refine bo6 (.bool gd) S (λH=>?_) ?_
 ·cases hb1:g1.good
  ·refine a32 0 false X G S rfl ?_
   rw[show gd=false from by rw[hgd,hb1];rfl] at H
   exact H
  ·refine a32 400 true X G S rfl ?_;clear S;kbo_bools
   kd_subs
   refine a39 (j:=3) (I2.isTup (a12.keeps S.keep)) (by decide) (by decide) (by kernel_rfl!) rfl ?_
   rw[show gd=g2.good from by rw[hgd,hb1];rfl] at H
   exact H _ _ S
 clear S
 kd_subs
 refine a39 (j:=2) (I1.isTup (a12.keeps S.keep)) (by decide) (by decide) (by kernel_rfl!) rfl ?_
 kd_subs
 refine a09 (by lia) ?_;intro tk9
 kd_subs
 refine a39 (j:=2) (I2.isTup (a12.keeps S.keep)) (by decide) (by decide) (by kernel_rfl!) rfl ?_
 kd_subs
 refine a09 (by lia) ?_;intro tk10
 kd_subs
 by_cases h60:60<(g1.txt false true 10).length+(g2.txt false true 10).length
 ·refine a32 400 true X G S (by simp;exact Int.ofNat_lt.mpr (by keq_rows)) ?_;clear S;kbo_bools
  kd_subs
  exact fin (g:=.nil) aa2.refl Ext.refl Tb (by exact Nat.le_succ _) (by exact Nat.le_succ _) rfl trivial (Nat.le_of_ble_eq_true (by kernel_rfl!)) rfl rfl rfl S
 refine a32 400 false X G S (by simp;lia) ?_;clear S;kbo_bools
 kd_subs
 by_cases hw1:way=1
 ·refine a32 400 true X G S (by simp;lia) ?_;clear S;kbo_bools
  kd_subs
  refine a39 (j:=0) (I1.isTup (a12.keeps S.keep)) (by decide) (by decide) (by kernel_rfl!) rfl ?_
  kd_subs
  refine a39 (j:=0) (I2.isTup (a12.keeps S.keep)) (by decide) (by decide) (by kernel_rfl!) rfl ?_
  kd_subs
  refine ay9 X G (room.deeper (by decide)) S ?_;clear S;intro xv dxv h t S
  obtain⟨d1,G1,J1,S⟩:=a33 S
  obtain⟨d2,G2,J2,S⟩:=ao3 S
  have K1:=I1.sub (G1.trans G2).mono
  have K2:=I2.sub (G1.trans G2).mono
  kd_subs
  refine a39 (j:=1) (K1.isTup (a12.keeps S.keep)) (by decide) (by decide) (by kernel_rfl!) rfl ?_
  kd_subs
  refine a42 (szE (by lia)) ?_;intro tk11 t
  kd_subs
  refine a42 (szE (by rw[Str.length_append];lia)) ?_;intro tk12 t
  kd_subs
  refine a39 (j:=1) (K2.isTup (a12.keeps S.keep)) (by decide) (by decide) (by kernel_rfl!) rfl ?_
  kd_subs
  refine a42 (by simp only[sizeLine_eq,Str.length_append];lia) ?_;intro tk13 t
  kd_subs
  refine a42 (by simp only[sizeLine_eq,Str.length_append];lia) ?_;intro tk14 t
  kd_subs
  refine a39 (j:=2) (K1.isTup (a12.keeps S.keep)) (by decide) (by decide) (by kernel_rfl!) rfl ?_
  kd_subs
  refine a42 (szE (by lia)) ?_;intro tk15 t
  kd_subs
  refine a42 (by simp only[sizeLine_eq,Str.length_append];lia) ?_;intro tk16 t
  kd_subs
  refine a39 (j:=2) (K2.isTup (a12.keeps S.keep)) (by decide) (by decide) (by kernel_rfl!) rfl ?_
  kd_subs
  refine a42 (by simp only[sizeLine_eq,Str.length_append];lia) ?_;intro tk17 t
  kd_subs
  refine a42 (by simp only[sizeLine_eq,Str.length_append];lia) ?_;intro tk18 t
  kd_subs
  exact fin (g:=.vec g1 g2) (G1.trans G2) Ext.refl (Tb.sub (G1.trans G2).mono) (by exact Nat.le_succ _) (by exact Nat.le_succ _) ⟨_,_,_,_,rfl,J1.sub G2.mono,J2,R1.mono Ext.refl (G1.trans G2).mono,R2.mono Ext.refl (G1.trans G2).mono⟩ ⟨H1,H2⟩
   (by simp only[txV,txQ,txR,txS,Str.length_append];lia) (by simp only[txV,txQ,txR,txS,a24]) (by simp only[txV,txQ,txR,txS,a24]) hgd S
 refine a32 400 false X G S (by simp;lia) ?_;clear S;kbo_bools
 kd_subs
 refine a03 [] S hb (λfr' hs T=>aT5 X G (room.deeper (by decide)) T) ?_
 clear S;rintro q h t d1 fp' G1 S ⟨rfl,lv,ms,rfl,IL,hms⟩
 kcf_m
 kd_subs
 refine a05 [false,false,false,false,true] S (λg' hs T=>a68 (m:=4) X G (room.deeper (by decide)) hcs (Il.sub (G1.mono.trans (a12.trans hs))) hlen (by lia) (by decide) (by decide) T) ?_
 clear S;rintro q h t fp' S ⟨mi,tk11,tk12,hmi,rfl,rfl⟩
 kcf_m
 replace S:=S.pick (fp':=[_,_,_,_,_,_,_,_]) [1,2,3,4,0,5,6,7]
 obtain⟨ma,t31,t32,hma,IM⟩:=hms mi hmi
 have hmn:=b18 hmi
 generalize mkN mi=m at IM hmn
 refine a27 (v:=.ref ma) ((IL.sub a12).isList S.keep) (by exact Int.natCast_nonneg _) (by lia) (by rw[show ((mi:Int)).toNat=mi from by exact rfl];exact hma) ?_
 refine bb8 0 X G S hh ((IM.sub a12).isTup S.keep) ?_;clear S;kbo_bools
 kd_subs
 refine au9 S 0 rfl (by kernel_rfl!) ?_;kcj_m
 kd_subs
 refine a03 [false,false,false,false,false,true,true,true] S hb (λfr' hs T=>a64 X G (room.deeper (by decide)) (by exact ltT (by keq_rows)) hmn (Tb.sub G1.mono) T) ?_
 clear S;rintro q h t d2 fp' G2 S ⟨tb1,rows1,a1,rfl,hl1,htb,Tb1,rfl⟩
 kcf_m
 have hx:Ext tb tb1:=htb.elim (λe=>e▸Ext.refl) (λe=>e▸Ext.app)
 replace S:=S.pick (fp':=[_,_,_,_,_,_,_,_]) [3,4,5,6,7,0,1,2]
 have K1:=I1.sub (G1.trans G2).mono
 have K2:=I2.sub (G1.trans G2).mono
 have hm1:=m.name_len
 have hm2:=m.sign_len
 kd_subs
 by_cases hw4:way<4
 ·refine a32 400 true X G S (by simp;exact Int.ofNat_lt.mpr (by keq_rows)) ?_;clear S;kbo_bools
  kd_subs
  refine a39 (j:=0) (K1.isTup (a12.keeps S.keep)) (by decide) (by decide) (by kernel_rfl!) rfl ?_
  kd_subs
  refine a03 [true] S hb (λfr' hs T=>a80 X G (room.deeper (by decide)) hh (by exact Nat.le_of_ble_eq_true rfl) T) ?_
  clear S;rintro q h t d3 fp' G3 S ⟨CH,rfl⟩
  kcf_m
  replace S:=S.drop (List.sublist_cons_self _ _)
  have Ga:=(G1.trans G2).trans G3
  have K1:=K1.sub G3.mono
  kd_subs
  refine a39 (j:=1) (K1.isTup (a12.keeps S.keep)) (by decide) (by decide) (by kernel_rfl!) rfl ?_
  kd_subs
  refine a42 (szE (by lia)) ?_;intro tk13 t
  kd_subs
  refine a42 (szE (by lia)) ?_;intro tk14 t
  kd_subs
  refine a42 (by simp only[sizeLine_eq,Str.length_append];lia) ?_;intro tk15 t
  kd_subs
  refine a39 (j:=2) (K1.isTup (a12.keeps S.keep)) (by decide) (by decide) (by kernel_rfl!) rfl ?_
  kd_subs
  refine a42 (by simp only[sizeLine_eq,Str.length_append];lia) ?_;intro tk16 t
  kd_subs
  refine a42 (by simp only[sizeLine_eq,Str.length_append];lia) ?_;intro tk17 t
  kd_subs
  refine a39 (j:=3) (K1.isTup (a12.keeps S.keep)) (by decide) (by decide) (by kernel_rfl!) rfl ?_
  kd_subs
  exact fin (g:=.q1 m g1) Ga hx (Tb1.sub G3.mono) (by exact Nat.le_succ _) (by exact Nat.lt_succ_self _) ⟨a1,_,CH,hl1,R1.mono hx Ga.mono⟩ H1
   (by simp only[txV,txQ,txR,txS,Bool.false_eq_true,ite_false,Str.length_append];lia) (by simp only[txV,txQ,txR,txS,ite_true]) (by simp only[txV,txQ,txR,txS,Bool.false_eq_true,ite_false,a24]) rfl S
 refine a32 400 false X G S (by simp;lia) ?_;keq_hits
 refine be4 [("other",cx.L+1+1),("one",cx.L+1),("name",cx.L+1+1+1)] (λv y=>X3 λ(i:Int) (u tk:Tok)=>v= .int i u/\y= .str (Str.ofString "("++m.name++Str.ofString " "++g1.txt (i==1) true 10++Str.ofString " "++g2.txt (i==1) true 10++Str.ofString ")") tk) ?_
 kd_subs
 have hc1:h.IsCell (cx.L+1+1+1) (some (.str m.name t32)):=S.own.at_ _ (.tail _ (.head _))
 have hc2:h.IsCell (cx.L+1+1) (some (.ref p2)):=S.own.at_ _ (.tail _ (.tail _ (.head _)))
 have hc3:h.IsCell (cx.L+1) (some (.ref p1)):=S.own.at_ _ (.tail _ (.tail _ (.tail _ (.head _))))
 have ht1:=K1.isTup (a12.keeps S.keep)
 have ht2:=K2.isTup (a12.keeps S.keep)
 refine b39 S hh rfl (S.isTup 0 rfl) (szE (Nat.le_of_ble_eq_true rfl)) ?_ ?_
 ·intro C v s₃ m₃ E' hv hns hm' kp
  obtain⟨hp,gs,dr,tk0,os⟩:=s₃
  have kp:a15 _ hp:=kp
  have ht1:hp.IsTuple p1 [x1,.str (g1.txt true true 10) t11,.str (g1.txt false true 10) t12,.bool g1.good].toArray:=by obtain⟨o,e,q⟩:=ht1;exact⟨o,kp _ _ e,q⟩
  have ht2:hp.IsTuple p2 [x2,.str (g2.txt true true 10) t21,.str (g2.txt false true 10) t22,.bool g2.good].toArray:=by obtain⟨o,e,q⟩:=ht2;exact⟨o,kp _ _ e,q⟩
  have key:X2 λ(i:Int) (u:Tok)=>v= .int i u/\(i=1∨i=2):=by
   rcases List.mem_cons.mp hv with rfl |hv
   ·exact ⟨_,_,rfl,.inl rfl⟩
   ·rw [List.mem_singleton] at hv;subst hv;exact⟨_,_,rfl,.inr rfl⟩
  obtain⟨i,u,rfl,hi⟩:=key
  have hg1:(g1.txt (i==1) true 10).length<=(g1.txt false true 10).length:=by rcases hi with rfl |rfl<;>first |exact s1 |exact Nat.le_refl _
  have hg2:(g2.txt (i==1) true 10).length<=(g2.txt false true 10).length:=by rcases hi with rfl |rfl<;>first |exact s2 |exact Nat.le_refl _
  show wpAny (model pw w) _ (eval _ _) _ _ (sh ⟨gs,dr,os⟩ hp tk0)
  refine wpAny_BinOp (wpAny_BinOp (wpAny_BinOp (wpAny_BinOp (wpAny_BinOp (wpAny_BinOp ?_)))))
  refine aZ5 ?_;intro tk1
  refine ldCellK (c:=cx.L+1+1+1) (by kernel_rfl!) (hc1.keeps kp) ?_ (by kernel_rfl) (by kernel_rfl)
  refine a42 (szE (by lia)) ?_;intro tk2 t
  refine aZ5 ?_;intro tk3
  refine a42 (by simp only[sizeLine_eq,Str.length_append];lia) ?_;intro tk4 t
  refine bh7 ?_
  refine ldCellK (c:=cx.L+1) (by kernel_rfl!) (hc3.keeps kp) ?_ (by kernel_rfl) (by kernel_rfl)
  refine aM0 hns hm' ?_
  refine a39 (j:=i.toNat) (v:=.str (g1.txt (i==1) true 10) (if i=1 then t11 else t12)) ht1 (by lia) (by lia) (by rcases hi with rfl |rfl<;>kernel_rfl!) (by rcases hi with rfl |rfl<;>rfl) ?_
  refine a42 (by simp only[sizeLine_eq,Str.length_append];lia) ?_;intro tk5 t
  refine aZ5 ?_;intro tk6
  refine a42 (by simp only[sizeLine_eq,Str.length_append];lia) ?_;intro tk7 t
  refine bh7 ?_
  refine ldCellK (c:=cx.L+1+1) (by kernel_rfl!) (hc2.keeps kp) ?_ (by kernel_rfl) (by kernel_rfl)
  refine aM0 hns hm' ?_
  refine a39 (j:=i.toNat) (v:=.str (g2.txt (i==1) true 10) (if i=1 then t21 else t22)) ht2 (by lia) (by lia) (by rcases hi with rfl |rfl<;>kernel_rfl!) (by rcases hi with rfl |rfl<;>rfl) ?_
  refine a42 (by simp only[sizeLine_eq,Str.length_append];lia) ?_;intro tk8 t
  refine aZ5 ?_;intro tk9
  refine a42 (by simp only[sizeLine_eq,Str.length_append];lia) ?_;intro tk10 t
  exact⟨⟨i,u,tk10,rfl,rfl⟩,_,_,rfl,λU V e=>e⟩
 ·intro D ys h' t' hP S
  cases hP with
  |cons hP1 hP=>
  cases hP with
  |cons hP2 hP=>
  cases hP
  obtain⟨i1,u1,tka,e5,rfl⟩:=hP1
  obtain⟨i2,u2,tkb,e6,rfl⟩:=hP2
  cases e5
  cases e6
  rw[show ((1:Int)==1)=true from rfl,show ((2:Int)==1)=false from rfl] at S
  clear hc1 hc2 hc3 ht1 ht2
  replace S:=S.pick (fp':=[_,_,_,_,_,_,_,_,_]) [2,3,4,0,5,6,7,8,9]
  revert S;generalize h'=h;generalize t'=t;intro S
  kd_subs
  refine a39 (j:=0) (K1.isTup (a12.keeps S.keep)) (by decide) (by decide) (by kernel_rfl!) rfl ?_
  kd_subs
  refine a39 (j:=0) (K2.isTup (a12.keeps S.keep)) (by decide) (by decide) (by kernel_rfl!) rfl ?_
  kd_subs
  refine a03 [true] S hb (λfr' hs T=>a80 X G (room.deeper (by decide)) hh (by exact Nat.le_of_ble_eq_true rfl) T) ?_
  clear S;rintro q h t d3 fp' G3 S ⟨CH,rfl⟩
  kcf_m
  replace S:=S.drop (List.sublist_cons_self _ _)
  have Ga:=(G1.trans G2).trans G3
  kd_subs
  refine a27 (S.isList 3 rfl) (by decide) (by decide) rfl ?_
  kd_subs
  refine a27 (S.isList 3 rfl) (by decide) (by decide) rfl ?_
  kd_subs
  replace S:=S.pick (fp':=[_,_,_,_,_,_,_,_,_]) [0,1,2,3,5,6,7,8,9]
  exact fin (g:=.q2 m g1 g2) Ga hx (Tb1.sub G3.mono) (by exact Nat.le_succ _) (by exact Nat.lt_succ_self _) ⟨a1,_,_,CH,hl1,R1.mono hx Ga.mono,R2.mono hx Ga.mono⟩ ⟨H1,H2⟩
   (by simp only[txV,txQ,txR,txS,Str.length_append];lia) (by simp only[txV,txQ,txR,txS,a24]) (by simp only[txV,txQ,txR,txS,a24]) hgd S
end
section
variable {B0:Heap} {outer:List Env}
theorem aF6 {env:Env} {Q:Value->Shared->Prop} (S:St w.params b (fr.or d) L l fp h) (X:a01 w K b) (G:KOk K) (GX:KX K) (room:a04 A 11) (hh:A.handled=none) (hfr:A.frames=some [env]) (hf:env.frame=some L) (hkd:env.scope.kind≠ .module) {tb:TB} {nf:Nat} (hnf:nf<900) {pp rg:Addr} {v:Value} {i0:XI} {n:Nat} {tkk:Tok} {k:Int}
  (TP:ad0 w d .none tb nf []) (ok:i0.ok true 10) (hn:n<100000) (hw:aR6 true 10 k n 0 [i0]=true) (R:i0.thing tb d pp rg v)
  (kk:∀h' t',St w.params b (fr.or d) L l fp h'->Q (.int k tkk) (sh z h' t')):wpAny (model pw w) A (call (.ref 1287) [v,.int k tkk,.none]) Q E (sh z h t):=by
 have hbh:Sub (Bas.of b) (Bas.of h):=λU V e=>S.keep _ _ (S.base _ _ e)
 have hbL:∀o,¬ Bas.of b L o:=λo e=>absurd (Heap.lt_size e) (Nat.not_lt.mpr S.above)
 have T:Sit w.params b ((Bas.of h).or d) [] h:=⟨λU V e=>.inl (hbh _ _ e),λc o e=>e.elim id λe=>S.keep _ _ (.inr e),⟨(λU q=>nomatch q),(λU q=>nomatch q),List.nodup_nil⟩,S.sit.sz⟩
 obtain⟨oL,es,ep,eL,hd,hns⟩:=id S.ns
 have hF:Frs (hideAll h [L]) ((Bas.of h).or d) [env]:=λenv' he'=>by
  rw[List.mem_singleton] at he';subst he'
  exact⟨hkd,L,oL,hf,.inl eL,(λvs q=>by rw[hd] at q;cases q),hideAll_none _ (.head _)⟩
 refine wpAny_call (codeAny_mono (aD1 (B0:=hideAll h [L]) X G GX room hh hfr hbh hnf TP ok hn hw R (λc o e=>hideAll_get _ (hbh _ _ e) λhm=>?_) (λc o e=>.inl (of_hideAll _ e)) hF T) ?_)
 ·rw [List.mem_singleton] at hm;subst hm
  exact hbL o e
 ·rintro r s' ⟨v',h',t',rfl,rfl,rfl,hst,kp⟩
  refine kk h' t' (S.loc (Heap.Ns.up S.ns λo ho hd=>kp _ _ (.inl ho) hd) λc o e n1=>hst c o (hideAll_get _ e λhm=>?_))
  rw[List.mem_singleton] at hm
  exact n1 hm
end
section
variable {B0:Heap} {outer:List Env}
theorem Gen.rd:∀{g:Dt},Gen g->g.good=true->g.rd:=by
 intro g
 induction g with
 |vec a c h1 h2=>
  intro h hg
  have hg:(a.good&&c.good)=true:=hg
  rw[Bool.and_eq_true] at hg
  exact⟨h1 h.1 hg.1,h2 h.2 hg.2⟩
 |q1 m a h1=>exact λh hg=>h1 h hg
 |q2 m a c h1 h2=>
  intro h hg
  have hg:(a.good&&c.good)=true:=hg
  rw[Bool.and_eq_true] at hg
  exact⟨h1 h.1 hg.1,h2 h.2 hg.2⟩
 |int n=>exact λh U=>h
 |sym s=>
  intro h hg
  refine⟨?_,hg⟩
  have h:s∈(["quote","x","unquote","...","q?","A","a b","","1x","(","a.B"]:List Str):=h
  have key:((["quote","x","unquote","...","q?","A","a b","","1x","(","a.B"]:List Str).all λs=>names.contains s)=true:=by decide+kernel
  have:=List.all_eq_true.mp key s h
  simpa using this
 |raw s=>exact λU hg=>nomatch hg
 |text cs=>
  intro h _
  have h:cs=[]∨cs=[97]∨cs=[97,34]:=h
  show cs.length<=500
  rcases h with rfl |rfl |rfl<;>decide
 |char c=>exact λU V=>trivial
 |nil=>exact λU V=>trivial
 |port n=>exact λU hg=>nomatch hg
 | _=>exact λU hg=>nomatch hg
theorem b68:∀(g:Dt) (k:Nat),(toks k g).length<=2*g.wt false:=by
 intro g
 induction g with
 |vec a c h1 h2=>
  intro k
  have:=h1 0
  have:=h2 1
  simp only[tkV,tkQ,tkR,wtV,wtQ,wtR,wtS,List.length_cons,List.length_append,List.length_nil];lia
 |q1 m a h1=>
  intro k
  have:=h1 0
  simp only[tkV,tkQ,tkR,wtV,wtQ,wtR,wtS,List.length_cons,Bool.false_eq_true,ite_false];lia
 |q2 m a c h1 h2=>
  intro k
  have:=h1 1
  have:=h2 1
  simp only[tkV,tkQ,tkR,wtV,wtQ,wtR,wtS,List.length_cons,List.length_append,List.length_nil];lia
 | _=>intro k;first |exact Nat.le_refl 2 |exact Nat.le_succ 1 |exact Nat.zero_le _
theorem b40 {x y:Str} (h:cod x=cod y):x=y:=by
 obtain⟨x⟩:=x
 obtain⟨y⟩:=y
 have:x=y:=Array.toList_inj.mp h
 rw[this]
theorem bm1 {x:Str} {c:Nat} (h:(cod x).take 1=[c]):Txt.slice x none (some 1)=(⟨#[c]⟩:Str):=b40 (by
 have:=aO3 (x:=x) (j:=1)
 rw[h] at this
 exact this)
noncomputable abbrev bc5 (x:Str):Bool:=((["'","`",","]:List Str).any (·==Txt.slice x none (some 1)))
theorem bg9 {x:Str} {c:Nat} (h:(cod x).take 1=[c]):bc5 x=((["'","`",","]:List Str).any (·==(⟨#[c]⟩:Str))):=by
 unfold bc5
 rw[bm1 h]
theorem ae2 {x y:Str} {c:Nat} (h:(cod x).take 1=[c]):bc5 (x++y)=((["'","`",","]:List Str).any (·==(⟨#[c]⟩:Str))):=by
 refine bg9 ?_
 rw[al7]
 cases hx:cod x with
 |nil=>rw[hx] at h;cases h
 |cons a r=>rw[hx] at h;exact h
theorem at0 {x:Bool} (h:(!x)=true):x=false:=by induction x using Bool.casesOn<;>first |rfl |cases h
theorem aT7 {g:Dt} (h:Gen g):bc5 (g.txt true true 10)=g.lead.isSome:=by
 induction g using Dt.casesOn with
 |vec a c=>exact ae2 (x:=Str.ofString "#(") (c:=35) (by decide+kernel)
 |q1 m a=>
  induction m using Mk.casesOn
  ·exact ae2 (x:=Str.ofString "'") (c:=39) (by decide+kernel)
  ·exact ae2 (x:=Str.ofString "`") (c:=96) (by decide+kernel)
  ·exact ae2 (x:=Str.ofString ",") (c:=44) (by decide+kernel)
  ·exact ae2 (x:=Str.ofString ",@") (c:=44) (by decide+kernel)
 |q2 m a c=>exact ae2 (x:=Str.ofString "(") (c:=40) (by decide+kernel)
 |int n=>
  have h: -20<=n/\n<20:=h
  have key:((List.range 40).all λm=>!(bc5 (a28 ((m:Int) -20) 10)))=true:=by decide+kernel
  have:=List.all_eq_true.mp key (n+20).toNat (List.mem_range.mpr (by lia))
  have e:((n+20).toNat:Int) -20=n:=by lia
  rw[e] at this
  exact at0 this
 |sym s=>
  have h:s∈(["quote","x","unquote","...","q?","A","a b","","1x","(","a.B"]:List Str):=h
  have key:((["quote","x","unquote","...","q?","A","a b","","1x","(","a.B"]:List Str).all λs=>!(bc5 s))=true:=by decide+kernel
  have:=List.all_eq_true.mp key s h
  exact at0 this
 |raw s=>
  obtain⟨n,hn,rfl⟩:=h
  have key:((List.range 1000).all λn=>!(bc5 (aG7 n)))=true:=by decide+kernel
  have:=List.all_eq_true.mp key n (List.mem_range.mpr hn)
  exact at0 this
 |text cs=>
  have h:cs=[]∨cs=[97]∨cs=[97,34]:=h
  rcases h with rfl |rfl |rfl<;>decide+kernel
 |char c=>exact ae2 (x:=Str.ofString "#\\") (c:=35) (by decide+kernel)
 |port n=>
  have h:0<=n/\n<40:=h
  obtain⟨m,rfl⟩:=Int.eq_ofNat_of_zero_le h.1
  have key:((List.range 40).all λm=>!(bc5 ((Dt.port (m:Int)).txt true true 10)))=true:=by decide+kernel
  have:=List.all_eq_true.mp key m (List.mem_range.mpr (by lia))
  exact at0 this
 |eof=>decide+kernel
 |unspec=>decide+kernel
 |nil=>decide+kernel
 |box=>decide+kernel
 |promise=>decide+kernel
 |prim=>decide+kernel
theorem aT8 {g:Dt} {m:Mk} (h:g.lead=some m):Txt.slice (g.txt true true 10) none (some (m.sign.length:Int))=m.sign:=by
 induction g using Dt.casesOn with
 |q1 m' a=>
  cases h
  refine b40 ?_
  rw[aO3]
  show (cod (m.sign++a.txt true true 10)).take _=_
  rw[al7]
  have e:m.sign.length=(cod m.sign).length:=by unfold cod;simp [Str.length]
  rw[e,List.take_left]
 | _=>cases h
end
section
variable {B0:Heap} {outer:List Env}
set_option backward.match.sparseCases false in
noncomputable def aC3:List Stmt->List Stmt
 | .For U V body U1 V1::U2=>body
 |U::r=>aC3 r
 |[]=>[]
noncomputable def ax8 (w:World) (z:Z) (b:Heap) (fr d:Bas) (L rw dk lx tA It:Addr) (ao:AO) (n nf k:Nat):Flow->Shared->Prop:=λf s₃=>f= .next/\X13 λh' t' d' tb' dT' rl' bd' rows' us' nf' k' tk' qs'=>A8 (s₃=sh z h' t') (aa2 fr d d') (a17 d' tb' bd' rows' nf') (Rws tb' d' us') (us'.length=n) (nf'<=nf) (k'<=k)
   (St w.params b (fr.or d') L (("deck",.ref dk)::("table",.ref tA)::("rows",.ref rw)::qs') ((rw,.list us')::(ak2 w dk lx k' tk' tb' tA dT' rl' bd' rows'++[(It,ao)])) h')
theorem ax8.mono {d d1:Bas} {rw dk lx tA It:Addr} {ao:AO} {n nf k n1 nf1 k1:Nat} {f:Flow} {s:Shared} (G:aa2 fr d d1) (hn:n1=n) (h1:nf1<=nf) (h2:k1<=k) (q:ax8 w z b fr d1 L rw dk lx tA It ao n1 nf1 k1 f s):ax8 w z b fr d L rw dk lx tA It ao n nf k f s:=by
 obtain⟨e,h',t',d',tb',dT',rl',bd',rows',us',nf',k',tk',qs',e1,e2,e3,e4,e5,e6,e7,e8⟩:=q
 exact⟨e,h',t',d',tb',dT',rl',bd',rows',us',nf',k',tk',qs',e1,G.trans e2,e3,e4,e5.trans hn,by exact Nat.le_trans (by keq_rows) (by keq_rows),by exact Nat.le_trans (by keq_rows) (by keq_rows),e8⟩
set_option maxHeartbeats 8000000 in
theorem aE5 {cx:Cx} (X:a01 w K b) (G:KOk K) (room:a04 cx.A 16) (hh:cx.A.handled=none) (hb:Sub (Bas.of b) fr) {rw dk lx tA dT rl bd It:Addr} {ao:AO} {tb:TB} {rows us:List Value} {nf k:Nat} {tk t1 t2:Tok} {thing:Value} {g:Dt} {qs:List (Str × Value)} {gv tv lv:Value} (hnf:nf<850) (Tb:a17 d tb bd rows nf) (hus:Rws tb d us)
  (R:Rep tb d thing g) (HG:Gen g) (hl80:(g.txt false true 10).length<=80)
  (S:St w.params b (fr.or d) cx.L (("limit",lv)::("is_good",gv)::("long",.str (g.txt false true 10) t2)::("short",.str (g.txt true true 10) t1)::("thing",thing)::("turn",tv)::("deck",.ref dk)::("table",.ref tA)::("rows",.ref rw)::qs) ((rw,.list us)::(ak2 w dk lx k tk tb tA dT rl bd rows++[(It,ao)])) h):
  wpAny (model pw w) cx.A (execs ((aC3 ao8.body).drop 7) (cx.env ao8)) (ax8 w z b fr d cx.L rw dk lx tA It ao us.length nf k) E (sh z h t):=by
 dsimp only[List.cons_append,List.nil_append] at S
 have hsl:=as9 true 10 g
 have hld:=aT7 HG
 kd_subs
 refine a03 [false,false,true,true,true,false] S hb (λfr' hs T=>al2 X G (room.less (by decide)) hh (nf:=nf) (by exact ltT (by keq_rows)) Tb (hb.trans (a29.trans hs)) R T) ?_
 clear S;rintro q h t d1 fp' G1 S ⟨tb1,rows1,e1,Tb1,rfl,hq⟩
 kcf_m
 replace S:=S.pick (fp':=[_,_,_,_,_,_]) [3,4,0,1,2,5]
 have fin:∀{h:Heap} {t:Nat} {lq:Value},St w.params b (fr.or d1) cx.L (("lead",lq)::("limit",lv)::("is_good",gv)::("long",.str (g.txt false true 10) t2)::("short",.str (g.txt true true 10) t1)::("thing",thing)::("turn",tv)::("deck",.ref dk)::("table",.ref tA)::("rows",.ref rw)::qs) [(rw,.list us),(dk,.list [.ref lx,.int (k:Int) tk]),(tA,.inst 131 dT (aw1 rl bd)),(rl,.list rows1),(bd,.cell (isD w (kvs tb1))),(It,ao)] h->
   ax8 w z b fr d cx.L rw dk lx tA It ao us.length nf k .next (sh z h t):=λS=>
  ⟨rfl,_,_,d1,tb1,dT,rl,bd,rows1,us,nf,k,tk,_,rfl,G1,Tb1,hus.mono e1 G1.mono,rfl,Nat.le_refl _,Nat.le_refl _,((S.front (x:="rows") (by kernel_rfl)).front (x:="table") (by kernel_rfl)).front (x:="deck") (by kernel_rfl)⟩
 cases hl:g.lead with
 |none=>
  rw[hl] at hq hld
  have hq:q= .none:=hq
  subst hq
  kd_subs
  refine ad1 S (szE (by lia)) ?_;clear S;intro h tk5 t S
  kd_subs
  refine as7 (S.isTup 0 rfl) (.cons _ _ (.cons _ _ (.cons _ _ .nil))) ?_
  replace S:=S.drop (List.sublist_cons_self _ _)
  have hld':(([Str.ofString "'",Str.ofString "`",Str.ofString ","]:List Str).any λx=>x==Txt.slice (g.txt true true 10) none (some 1))=false:=hld
  rw[hld']
  refine at2 ?_
  kd_subs
  exact fin S
 |some m=>
  rw[hl] at hq hld
  obtain⟨tkq,rfl⟩:∃tk,q= .str m.sign tk:=hq
  kd_subs
  refine ad1 S (szE (by lia)) ?_;clear S;intro h tk5 t S
  kd_subs
  refine as7 (S.isTup 0 rfl) (.cons _ _ (.cons _ _ (.cons _ _ .nil))) ?_
  replace S:=S.drop (List.sublist_cons_self _ _)
  have hld':(([Str.ofString "'",Str.ofString "`",Str.ofString ","]:List Str).any λx=>x==Txt.slice (g.txt true true 10) none (some 1))=true:=hld
  rw[hld']
  refine at2 ?_
  kd_subs
  have hsg:=m.sign_len
  refine a09 (by lia) ?_;intro tk6
  refine ad1 S (szE (by lia)) ?_;clear S;intro h tk7 t S
  rw[aT8 hl]
  kd_subs
  refine a32 400 false X G S (by simp) ?_;clear S;kbo_bools
  kd_subs
  exact fin S
set_option maxHeartbeats 8000000 in
theorem aE4 {cx:Cx} (X:a01 w K b) (G:KOk K) (GX:KX K) (room:a04 cx.A 16) (hh:cx.A.handled=none) (hfr:cx.A.frames=some [cx.env ao8]) (hb:Sub (Bas.of b) fr) {rw dk lx tA dT rl bd It:Addr} {ao:AO} {tb:TB} {rows vs us:List Value} {nf k:Nat} {tk t1 t2:Tok} {thing:Value} {g:Dt} {qs:List (Str × Value)} {gv tv:Value} (hcs:∀v∈vs,X2 λ(n:Nat) (t:Tok)=>v= .int n t) (Il:ab2 d lx vs) (hlen:vs.length<=63) (hk:k<800) (hnf:nf<850) (Tb:a17 d tb bd rows nf) (hus:Rws tb d us)
  (R:Rep tb d thing g) (HG:Gen g) (hl80:(g.txt false true 10).length<=80)
  (S:St w.params b (fr.or d) cx.L (("is_good",gv)::("long",.str (g.txt false true 10) t2)::("short",.str (g.txt true true 10) t1)::("thing",thing)::("turn",tv)::("deck",.ref dk)::("table",.ref tA)::("rows",.ref rw)::qs) ((rw,.list us)::(ak2 w dk lx k tk tb tA dT rl bd rows++[(It,ao)])) h):
  wpAny (model pw w) cx.A (execs ((aC3 ao8.body).drop 5) (cx.env ao8)) (ax8 w z b fr d cx.L rw dk lx tA It ao us.length nf (k+1)) E (sh z h t):=by
 dsimp only[List.cons_append,List.nil_append] at S
 have hwt:=bk8 true 10 g
 kd_subs
 refine a09 (by lia) ?_;intro tk1
 kd_subs
 refine a05 [false,true,false,false,false,false] S (λg' hs T=>a68 (m:=4) X G (room.less (by decide)) hcs (Il.sub (a12.trans hs)) hlen (by exact ltT (by keq_rows)) (by decide) (by decide) T) ?_
 clear S;rintro q h t fp' S ⟨n,tk2,tk3,hn,rfl,rfl⟩
 kcf_m
 replace S:=S.pick (fp':=[_,_,_,_,_,_]) [1,0,2,3,4,5]
 kd_subs
 refine x_max S hh ?_;clear S;intro h t tk4 S
 have hlim:∃lim:Int,lim=(if ((g.txt false true 10).length:Int) -2+(n:Int)>0 then ((g.txt false true 10).length:Int) -2+(n:Int) else 0)/\0<=lim:=⟨_,rfl,by split<;>lia⟩
 obtain⟨lim,e,h0⟩:=hlim
 rw[<-e]
 clear e
 kd_subs
 have TPn:ad0 w d .none tb nf []:=.inl ⟨rfl,rfl,bd,rows,Tb⟩
 by_cases hfit:((g.txt false true 10).length:Int)<=lim
 ·refine a03 [] S hb (λfr' hs T=>aV3 X G (room.less (by decide)) hh (hb.trans (a29.trans hs)) (nf:=nf) (by exact ltT (by keq_rows)) HG.ok (by exact lel (by keq_rows)) (by lia) (.inr ⟨lim,tk4,rfl,hfit⟩) TPn R T) ?_
  clear S;rintro q h t d1 fp' G1 S ⟨rfl,tk5,rfl⟩
  kcf_m
  kd_subs
  refine a09 (by lia) ?_;intro tk6
  kd_subs
  refine a32 400 true X G S (by simpa using hfit) ?_;clear S;kbo_bools
  kd_subs
  refine a32 2 false X G S (by simp) ?_;keq_hits
  exact wpAny_mono (aE5 X G room hh hb (by assumption) (Tb.sub G1.mono) (hus.mono Ext.refl G1.mono) (R.mono Ext.refl G1.mono) HG hl80 S) (λU V q=>ax8.mono G1 rfl (Nat.le_refl _) (Nat.le_refl _) q) λU V q=>q
 ·refine aF6 S X G GX (room.less (by decide)) hh hfr rfl kfn (nf:=nf) (by exact ltT (by keq_rows)) (pp:=0) (rg:=0) (i0:=.fin (.datum g)) (n:=g.wt false) TPn ⟨HG.ok,by show (g.txt false true 10).length<100000;exact lel (by keq_rows)⟩ (by lia)
   (b66 (g.wt false) [.datum g] 0 (by simp [a18,a19.wt]) (by lia) (by simp only[List.reverse_cons,List.reverse_nil,List.nil_append,a25,a30,a19.txt];lia)) R ?_
  clear S;intro h t S
  kd_subs
  refine a09 (by lia) ?_;intro tk6
  kd_subs
  refine a32 400 false X G S (by simp;lia) ?_;clear S;kbo_bools
  kd_subs
  refine a32 2 false X G S (by simp) ?_;keq_hits
  exact aE5 X G room hh hb (by assumption) Tb hus R HG hl80 S
set_option maxHeartbeats 8000000 in
theorem aX1 {cx:Cx} (X:a01 w K b) (G:KOk K) (GX:KX K) (room:a04 cx.A 16) (hh:cx.A.handled=none) (hfr:cx.A.frames=some [cx.env ao8]) (hb:Sub (Bas.of b) fr) {rw dk lx tA dT rl bd It:Addr} {ao:AO} {tb:TB} {rows vs us:List Value} {nf k:Nat} {tk:Tok} {tv:Value} {qs:List (Str × Value)} (hcs:∀v∈vs,X2 λ(n:Nat) (t:Tok)=>v= .int n t) (Il:ab2 d lx vs) (hlen:vs.length<=63) (hk:k<700) (hnf:nf<800) (Tb:a17 d tb bd rows nf) (hus:Rws tb d us) (hul:us.length<800)
  (S:St w.params b (fr.or d) cx.L (("turn",tv)::("deck",.ref dk)::("table",.ref tA)::("rows",.ref rw)::qs) ((rw,.list us)::(ak2 w dk lx k tk tb tA dT rl bd rows++[(It,ao)])) h):
  wpAny (model pw w) cx.A (execs (aC3 ao8.body) (cx.env ao8)) (ax8 w z b fr d cx.L rw dk lx tA It ao (us.length+1) (nf+1) (k+5)) E (sh z h t):=by
 dsimp only[List.cons_append,List.nil_append] at S
 kd_subs
 refine a03 [true,true,true,true,true] S hb (λfr' hs T=>b09 X G (room.less (by decide)) hh (hb.trans (a29.trans hs)) hcs Il hlen (by exact ltT (by keq_rows)) (by exact ltT (by keq_rows)) Tb hus (by exact ltT (by keq_rows)) T) ?_
 clear S;rintro q h t d1 fp' G1 S ⟨tb1,rows1,nf1,k1,tk1,e1,Tb1,e2,e3,e4,e5,R1⟩
 rw[show fp'=(rw,.list us)::ak2 w dk lx k1 tk1 tb1 tA dT rl bd rows1 from by rw[<-List.take_append_drop 1 fp',e5,e4];rfl] at S
 kcf_m
 kd_subs
 refine a02 0 S rfl (szE (ltl (by keq_rows))) ?_;kcj_m
 kd_subs
 obtain⟨ra,thing,g,ts,tl,rfl,IR,R,HG,hlen80⟩:=id R1
 refine az9 (S.isList 0 rfl) ?_
 refine m_un4 0 X G S hh (IR.isTup (a12.keeps S.keep)) (by kernel_rfl) ?_;clear S;kbo_bools
 kd_subs
 have hwt:=bk8 true 10 g
 have hwt2:=bk7 g
 have hsl:=as9 true 10 g
 have hok:=HG.ok
 refine a03 [false,false,true,true,true,false] S hb (λfr' hs T=>at4 (tab:=.ref tA) (r:=10) X G (room.less (by decide)) hh (hb.trans (a29.trans hs)) (nf:=nf1) (by lia) (by decide) (by decide) hok (by show (g.txt true true 10).length<100000;lia) (by show g.wt true<100000;lia) (.inl rfl) (.inr ⟨tA,dT,rl,bd,rows1,rfl,rfl,Tb1⟩) R T) ?_
 clear S;rintro q h t d2 fp' G2 S ⟨tb2,tk2,e6,TP2,rfl⟩
 rcases TP2 with⟨e,_⟩|⟨tA',dT2,rl2,bd2,rows2,e,rfl,Tb2⟩
 ·cases e
 cases e
 kcf_m
 replace S:=S.pick (fp':=[_,_,_,_,_,_]) [3,4,0,1,2,5]
 kd_subs
 refine a32 400 false X G S (by simp;rfl) ?_;clear S;kbo_bools
 kd_subs
 refine a03 [] S hb (λfr' hs T=>at5 X G (room.less (by decide)) hh (hb.trans (a29.trans hs)) (nf:=nf1) (by lia) hok (by exact lel (by keq_rows)) (by lia) (.inl ⟨rfl,rfl,bd2,rows2,Tb2⟩) (R.mono e6 G2.mono) T) ?_
 clear S;rintro q h t d3 fp' G3 S ⟨tb3,tk3,_,TP3,rfl⟩
 have e7:fp'=[]:=by
  rcases TP3 with⟨_,e,_⟩|⟨_,_,_,_,_,e,_⟩
  ·exact e
  ·cases e
 subst e7
 kcf_m
 have Tb3:=Tb2.sub G3.mono
 have R3:Rep tb2 d3 thing g:=R.mono e6 (G2.trans G3).mono
 kd_subs
 refine a32 400 false X G S (by simp) ?_;clear S;kbo_bools
 kd_subs
 refine a03 [false,false,true,true,true,false] S hb (λfr' hs T=>an5 (as2 X G (room.less (by decide)) hh (hb.trans (a29.trans hs)) Tb3 hok (by lia) R3 T)) ?_
 clear S
 rintro q h t d4 fp' G4 S ⟨rfl,rfl,rfl⟩
 kcf_m
 replace S:=S.pick (fp':=[_,_,_,_,_,_]) [3,4,0,1,2,5]
 kd_subs
 refine at2 ?_
 kd_subs
 refine a32 400 false X G S (by simp) ?_;clear S;kbo_bools
 kd_subs
 have Gd:=(G1.trans G2).trans G3
 have G23:=(G2.trans G3)
 have hus1:Rws tb2 d3 (us++[.ref ra]):=λv hv=>by
  rcases List.mem_append.mp hv with hv |hv
  ·exact (hus v hv).mono (e1.trans e6) Gd.mono
  ·rw [List.mem_singleton] at hv;subst hv;exact R1.mono e6 G23.mono
 have hl1:(us++[Value.ref ra]).length=us.length+1:=by simp
 cases hgd:g.good
 ·refine a32 3 false X G S rfl ?_;keq_hits
  exact wpAny_mono (aE4 X G GX room hh hfr hb hcs (Il.sub Gd.mono) hlen (by lia) (by lia) Tb3 hus1 R3 HG hlen80 S) (λU V q=>ax8.mono Gd hl1 e2 (by exact Nat.lt_succ_of_le (by keq_rows)) q) λU V q=>q
 ·refine a32 400 true X G S rfl ?_;clear S;kbo_bools
  kd_subs
  have htk:=b68 g 0
  refine a03 [false,false,true,true,true,false] S hb (λfr' hs T=>aA7 (g0:=g) (nf:=nf1) X G (room.less (by decide)) hh (hb.trans (a29.trans hs)) (by lia) (by lia) (HG.rd hgd) rfl (by lia) Tb3 T) ?_
  clear S;rintro q h t d5 fp' G5 S ⟨tb5,rows5,e8,Tb5,R5,rfl⟩
  kcf_m
  replace S:=S.pick (fp':=[_,_,_,_,_,_]) [3,4,0,1,2,5]
  kd_subs
  refine a03 [] S hb (λfr' hs T=>at5 X G (room.less (by decide)) hh (hb.trans (a29.trans hs)) (nf:=nf1) (by lia) hok (by exact lel (by keq_rows)) (by lia) (.inl ⟨rfl,rfl,bd2,rows5,Tb5⟩) R5 T) ?_
  clear S;rintro q h t d6 fp' G6 S ⟨tb6,tk6,_,TP6,rfl⟩
  have e9:fp'=[]:=by
   rcases TP6 with⟨_,e,_⟩|⟨_,_,_,_,_,e,_⟩
   ·exact e
   ·cases e
  subst e9
  kcf_m
  kd_subs
  refine a32 3 false X G S (by simp) ?_;keq_hits
  have G56:=G5.trans G6
  exact wpAny_mono (aE4 X G GX room hh hfr hb hcs (Il.sub (Gd.trans G56).mono) hlen (by lia) (by lia) (Tb5.sub G6.mono) (hus1.mono e8 G56.mono) (R3.mono e8 G56.mono) HG hlen80 S) (λU V q=>ax8.mono (Gd.trans G56) hl1 e2 (by exact Nat.lt_succ_of_le (by keq_rows)) q) λU V q=>q
end
section
variable {B0:Heap} {outer:List Env}
theorem aX4 (X:a01 w K b) (G:KOk K) (room:a04 A 8) (hh:A.handled=none) (hb:Sub (Bas.of b) fr) {tb:TB} {nf:Nat} (hnf:nf<900) {x dx pl wl p:Addr} {iw:Bool} {c rest:Value} {g1:Dt} {gs:List Dt} {r n:Nat} {pt rt tk:Tok} {tx:Str}
  (hr2:2<=r) (hr:r<=16) (TP:ad0 w d .none tb nf []) (I:a00 d p 152 [("car",c),("cdr",rest)]) (R1:Rep tb d c g1) (R2:am9 tb d rest gs)
  (ok1:XI.ok iw r (.fin (.datum g1))) (ok2:XI.ok iw r (.fin (.tail gs))) (htx:tx=Str.ofString "("++a25 false iw r [.tail gs,.datum g1]) (hlt:tx.length<100000) (hn:a18 false [.tail gs,.datum g1]=n) (hn2:n<1000)
  (T:Sit w.params b (fr.or d) (ag3 x dx pl wl iw pt r rt .none .none 0 tk [] [] []) h):
  a07 w A z (.ref 1189) [.ref x,.ref p] h t (λq h'=>X2 λd' fp'=>a48 w.params b fr d d' fp' h'/\∃tk',q= .str tx tk'):=by
 refine en (binds:=[("self",.ref x),("datum",.ref p)]) G.bA7 X T room ?_
 kd_in
 refine a02 1 S rfl (szE (by decide)) ?_;clear S;intro h S;dsimp+zetaDelta only[List.set,List.nil_append] at S
 obtain⟨d1,G1,I1,S⟩:=a11 S
 rename_i S0;clear S0
 kd_subs
 refine a56 (λm h U=>(m=n+1/\X2 λ(aa:Addr) (tk0:Tok)=>aw4 d1 aa [.int 1 tk0,.ref p]/\St w.params b (fr.or d1) cx.L [("datum",.ref p),("self",.ref x)] (ag3 x dx pl wl iw pt r rt .none .none 0 tk [.ref aa] [] []) h)∨
   X8 λ(d':Bas) (tb':TB) (ps vs:List Value) (ys:List Str) (js:List a19) (tk':Tok) (qs:List (Str × Value))=>A9
   (m=a18 false js.reverse) (aa2 fr d d') (ad0 w d' .none tb' nf []) (ar7 tb' d' 0 0 vs (js.map .fin)) ((∀j∈js,XI.ok iw r (.fin j))) (StrsAre ps ys) (a94 ys++a25 false iw r js.reverse=tx) (ps.length+m<2000)
   (St w.params b (fr.or d') cx.L (("self",.ref x)::qs) (ag3 x dx pl wl iw pt r rt .none .none ((a94 ys).length:Int) tk' vs ps []) h)) ?_ (n+1) h _
  (.inl ⟨rfl,_,_,I1,S⟩)
 clear S I1
 rintro m h t (⟨rfl,aa,tk0,I1,S⟩|⟨d',tb',ps,vs,ys,js,tk',qs,rfl,Gr,TP',hi,hok,hps,hc,hlen,S⟩) Jn nx
 ·kd_subs
  refine ad8 (S.isList 1 rfl) (S.isList 0 rfl) (by have:=(room.of 0 (by decide)).2;lia) ?_
  replace S:=S.drop (List.sublist_cons_self _ _)
  kd_subs
  refine aF3 (vs:=[]) 0 S rfl (szE (by decide)) ?_;kcj_m
  refine ad6 0 X G S hh (I1.isTup (a12.keeps S.keep)) (by kernel_rfl) ?_;clear S;kbo_bools
  kd_subs
  refine a03 [true,true,true] S hb (λfr' hs T=>aw0 X G (room.deeper (by decide)) (hb.trans (a29.trans hs)) (by decide) (by decide) (.inl rfl) (I.sub G1.mono) R1.handed R2.handed T) ?_
  clear S
  rintro q h t d2 fp' G2 S ⟨rfl,a1,a2,tk2,u,tk3,tk4,J1,J2,rfl⟩
  kcf_m
  have Ga:=G1.trans G2
  kd_subs
  dsimp+zetaDelta only at S
  have S2:=S.front (x:="self") (v:=.ref x) (by kernel_rfl)
  rw[show (0:Int)+((Str.ofString "(").length:Int)=((a94 [Str.ofString "("]).length:Int) from by simp only[a94,a26];exact rfl] at S2
  have hxi:ar7 tb d2 0 0 [.ref a1,.ref a2] (([.datum g1,.tail gs]:List a19).map .fin):=by
   have h0:a19.rep tb d2 (.ref a1) (.tail gs):=⟨_,_,_,rfl,J1,R2.mono Ext.refl Ga.mono⟩
   have h1:a19.rep tb d2 (.ref a2) (.datum g1):=⟨_,_,_,rfl,J2,R1.mono Ext.refl Ga.mono⟩
   exact ar7.snoc (vs:=[.ref a1]) (i:=.fin (.datum g1)) (ar7.snoc (vs:=[]) (i:=.fin (.tail gs)) .nil h0) h1
  refine nx (m:=n) (by exact Nat.lt_succ_self _) (.inr ⟨d2,tb,[.str (Str.ofString "(") u],[.ref a1,.ref a2],[Str.ofString "("],[.datum g1,.tail gs],tk2,_,by rw[<-hn];rfl,Ga,TP.mono Ga.mono,hxi,?_,.cons _ _ .nil,?_,by simp;lia,S2⟩)
  ·intro j hj
   simp only[List.mem_cons,List.not_mem_nil,or_false] at hj
   rcases hj with rfl |rfl
   ·exact ok1
   ·exact ok2
  ·rw [htx];simp only[a94,a26];rfl
 ·kd_subs
  refine ad8 (S.isList 1 rfl) (S.isList 0 rfl) (by have:=(room.of 0 (by decide)).2;lia) ?_
  replace S:=S.drop (List.sublist_cons_self _ _)
  induction js using List.casesOn with
  |nil=>
   have hv:vs=[]:=List.eq_nil_of_length_eq_zero (by simpa using hi.len)
   subst hv
   kd_subs
   refine ay2 (S.isList 1 rfl) hps ?_ ?_
   ·have h1:=congrArg Str.length hc
    rw[Str.length_append,aC9] at h1
    have e0:(Str.ofString "").length=0:=rfl
    rw[e0]
    have hpl:=a87 hps
    lia
   intro tkj t
   rw[an9]
   refine rT.s ⟨d',[],Gr.back (S.drop (.cons _ (.cons _ (.cons _ (.refl _))))).sit,tkj,?_⟩
   rw[<-hc]
   simp only[List.reverse_nil,a25,a26]
  |cons i js=>
   obtain⟨us,u,rfl,hi1,hi2⟩:=hi.inv
   have hne:(us++[u]).isEmpty=false:=by induction us using List.casesOn<;>rfl
   rw[hne]
   have hul:us.length<100000:=by
    have h1:(us++[u]).length=us.length+1:=by simp
    have h2:=hi.len
    have h3:=ap5 false (i::js).reverse
    simp only[List.length_reverse,List.length_cons,List.length_map] at h2 h3
    lia
   have hok0:=hok i (.head _)
   have hoks:=XI.step_ok (.fin i) hok0
   have k0:a18 false (i::js).reverse=a18 false (js.reverse++(i.step false iw r).2)+1:=by
    rw[List.reverse_cons,a54,a54]
    have:=aK5 false iw r i
    simp only[a18]
    lia
   have k2:a94 (ys++[(i.step false iw r).1])++a25 false iw r (js.reverse++(i.step false iw r).2)=tx:=by
    rw[<-hc,ao5,List.reverse_cons,a55,a55]
    simp only[a94,a25,a26,a30]
    rw[ag5 false iw r i]
    simp only[a24]
   have k4:((a94 (ys++[(i.step false iw r).1])).length:Int)=((a94 ys).length:Int)+((i.step false iw r).1.length:Int):=by
    rw[ao5,Str.length_append]
    simp only[a94,a26]
    exact rfl
   have hlim:aw5 .none ((((a94 ys).length:Int))+((i.step false iw r).1.length:Int)):=.inl rfl
   have hok1:∀j∈(i.step false iw r).2.reverse++js,XI.ok iw r (.fin j):=λj hj=>(List.mem_append.mp hj).elim (λq=>hoks (.fin j) (List.mem_map.mpr ⟨j,List.mem_reverse.mp q,rfl⟩)) (λq=>hok j (.tail _ q))
   have hmap:∀ws:List Value,∀{d2:Bas} {tb2:TB},ar7 tb2 d2 0 0 ws (((XI.step iw r (.fin i)).2).reverse++js.map .fin)->ar7 tb2 d2 0 0 ws (((i.step false iw r).2.reverse++js).map .fin):=λws d2 tb2 q=>by
    rw[List.map_append,List.map_reverse]
    exact q
   have k5:((i.step false iw r).2.reverse++js).reverse=js.reverse++(i.step false iw r).2:=by rw[List.reverse_append,List.reverse_reverse]
   obtain⟨a2,tk1,v2,rfl,I2,R2'⟩:=XI.split (i:=.fin i) (by intro q;cases q) hi2
   kd_subs
   refine aF3 0 S rfl (szE (ltT (by keq_rows))) ?_;kcj_m
   rcases XI.three R2' with⟨p',tkp,hip,rfl⟩|⟨hiw,hfn⟩|⟨hiw,hfn⟩
   ·injection hip with hip
    subst hip
    rw[show XI.word (.fin (.piece p'))=0 from rfl] at I2
    refine ad6 0 X G S hh (I2.isTup (a12.keeps S.keep)) (by kernel_rfl) ?_;keq_hits
    have hok0:p'.length<100000:=hok0.2
    kd_subs
    refine a05 [false,true,true] S (λg' hs T=>aa6 X G (room.deeper (by decide)) (Nat.lt_of_lt_of_le hok0 (by decide)) (by lia) (.inl rfl) T) ?_
    clear S;rintro q h t fp' S ⟨tkn,rfl,rfl⟩
    kcf_m
    replace S:=S.perm al4
    kd_subs
    dsimp+zetaDelta only at S
    rw[show ((a94 ys).length:Int)+(p'.length:Int)=((a94 (ys++[p'])).length:Int) from k4.symm] at S
    have S2:=S.front (x:="self") (v:=.ref x) (by kernel_rfl)
    refine nx (m:=a18 false js.reverse) ?_ (.inr ⟨d',tb',_,us,ys++[p'],js,tkn,_,rfl,Gr,TP',hi1,λj hj=>hok j (.tail _ hj),a13 hps (.cons _ _ .nil),?_,?_,S2⟩)
    ·rw [k0];simp [ipP,ipV,ipQ,ipR,ipN,ipT]
    ·simpa [ipP,ipV,ipQ,ipR,ipN,ipT] using k2
    ·rw [k0] at hlen;simp [ipP,ipV,ipQ,ipR,ipN,ipT] at hlen;simp;lia
   all_goals
    rw[hiw] at I2
    refine ad6 0 X G S hh (I2.isTup (a12.keeps S.keep)) (by kernel_rfl) ?_;keq_hits
    have hne0:XI.word (.fin i)≠0:=by rw[hiw];decide
    kd_subs
    rw[<-hfn]
    refine a03 [true,true,true] S hb (λfr' hs T=>aN4 (i:=.fin i) X G (room.deeper (by decide)) hh (hb.trans (a29.trans hs)) hnf hne0 hr2 hr hok0 (by lia) (by exact ltT (by keq_rows)) hlim TP' R2' T) ?_
    clear S
    rintro q h t d2 fp' G2 S ⟨rfl,tb2,tk2,us2,u2,e1,e2,e3,e4,rfl⟩
    kcf_m
    kd_subs
    dsimp+zetaDelta only at S
    rw[show ((a94 ys).length:Int)+(((XI.step iw r (.fin i)).1).length:Int)=((a94 (ys++[(i.step false iw r).1])).length:Int) from k4.symm] at S
    have S2:=S.front (x:="self") (v:=.ref x) (by kernel_rfl)
    refine nx (m:=a18 false ((i.step false iw r).2.reverse++js).reverse) ?_ (.inr ⟨d2,tb2,_,us++us2,ys++[(i.step false iw r).1],(i.step false iw r).2.reverse++js,tk2,_,rfl,Gr.trans G2,e2,hmap _ (e3 _ _ (hi1.mono e1 G2.mono)),hok1,a13 hps (.cons _ u2 .nil),?_,?_,S2⟩)
    ·rw [k0,k5];exact Nat.lt_succ_self _
    ·rw [k5];exact k2
    ·rw [k0] at hlen;rw[k5];simp;lia
end
section
variable {B0:Heap} {outer:List Env}
theorem aH1 (X:a01 w K b) (G:KOk K) (room:a04 A 10) (hh:A.handled=none) (hb:Sub (Bas.of b) fr) {tb:TB} {nf:Nat} (hnf:nf<900) {p:Addr} {c rest:Value} {g1:Dt} {gs:List Dt} {n:Nat} {tx:Str}
  (TP:ad0 w d .none tb nf []) (I:a00 d p 152 [("car",c),("cdr",rest)]) (R1:Rep tb d c g1) (R2:am9 tb d rest gs)
  (ok1:XI.ok false 10 (.fin (.datum g1))) (ok2:XI.ok false 10 (.fin (.tail gs))) (htx:tx=Str.ofString "("++a25 false false 10 [.tail gs,.datum g1]) (hlt:tx.length<100000) (hn:a18 false [.tail gs,.datum g1]=n) (hn2:n<1000)
  (T:Sit w.params b (fr.or d) [] h):
  a07 w A z (.ref 1247) [.ref p] h t (λq h'=>X2 λd' fp'=>a48 w.params b fr d d' fp' h'/\(fp'=[]/\∃tk',q= .str tx tk')):=by
 refine en (binds:=[("datum",.ref p),("precision",.int 53 1981),("radix",.int 10 1982),("limit",.none)]) G.bs8 X T room ?_ (hbind:=ag1 X T G.t_1240 (by kernel_rfl) rfl (by kernel_rfl))
 kd_in
 refine al5 X G (room.deeper (by decide)) S ?_;clear S;intro x dx pl wl tk h t S
 kd_subs
 refine a03 [true,true,true] S hb (λfr' hs T=>aX4 (r:=10) X G (room.deeper (by decide)) hh (hb.trans (Sub.trans a29 hs)) hnf (by decide) (by decide) TP I R1 R2 ok1 ok2 htx hlt hn hn2 T) ?_
 clear S
 rintro q h t d2 fp' G2 S ⟨tk',rfl⟩
 kcf_m
 exact rT.s ⟨d2,[],G2.back (S.drop (by simp)).sit,rfl,tk',rfl⟩
set_option maxHeartbeats 8000000 in
theorem bg5 {cx:Cx} (X:a01 w K b) (G:KOk K) (GX:KX K) (room:a04 cx.A 16) (hh:cx.A.handled=none) (hfr:cx.A.frames=some [cx.env ao8]) (hb:Sub (Bas.of b) fr) {tb:TB} {bd:Addr} {rows:List Value} {nf:Nat} (hnf:nf<850) (Tb:a17 d tb bd rows nf)
  (rts:∀{q:Value} {h:Heap} {t:Nat},q= .bool true/\Sit w.params b fr [] h->cx.R (.ret q) (sh z h t)) (S:St w.params b (fr.or d) cx.L l [] h):
  Dn w z K ao8 cx (.xs (ao8.body.drop 3)) [] (sh z h t):=by
 have TP:ad0 w d .none tb nf []:=.inl ⟨rfl,rfl,bd,rows,Tb⟩
 kd_subs
 refine aB3 X G (room.less (by decide)) S ?_;clear S;intro rg dxr h t S
 unfold aI0 at S
 kd_subs
 obtain⟨d1,G1,I1,S⟩:=a33 S
 kd_subs
 refine aB3 X G (room.less (by decide)) S ?_;clear S;intro pp dxp h t S
 obtain⟨d2,G2,I2,S⟩:=a33 S
 unfold aI0 at I2
 have J1:=I1.sub G2.mono
 kd_subs
 refine aF6 S X G GX (room.less (by decide)) hh hfr rfl kfn (nf:=nf) (by exact ltT (by keq_rows)) (pp:=pp) (rg:=rg) (i0:=.dp) (n:=40) (TP.mono (G1.trans G2).mono) trivial (by decide) aW8 ⟨rfl,⟨_,I2⟩,⟨_,J1⟩⟩ ?_
 clear S;intro h t S
 kd_subs
 refine am4 S (λg' hs T=>a38 X G (room.less (by decide)) hh (Nat.le_of_ble_eq_true (by kernel_rfl!)) (by kernel_rfl!) T) ?_;clear S;intro h t S
 rw[show aa9 (Str.ofString "...")=true from by kernel_rfl!]
 kd_subs
 refine am4 S (λg' hs T=>a38 X G (room.less (by decide)) hh (Nat.le_of_ble_eq_true (by kernel_rfl!)) (by kernel_rfl!) T) ?_;clear S;intro h t S
 rw[show aa9 (Str.ofString "A")=false from by kernel_rfl!]
 kd_subs
 refine aB1 X G (room.less (by decide)) S ?_;clear S;intro xa dxa h t S
 obtain⟨d3,G3,I3,S⟩:=a33 S
 obtain⟨d4,G4,I4,S⟩:=ao3 S
 kd_subs
 refine aB4 X G (room.less (by decide)) S ?_;clear S;intro xc dxc h t S
 obtain⟨d5,G5,I5,S⟩:=a33 S
 kd_subs
 refine a03 [true] S hb (λfr' hs T=>a80 X G (room.less (by decide)) hh (by exact Nat.le_of_ble_eq_true rfl) T) ?_
 clear S;rintro q h t d6 fp' G6 S ⟨CH,rfl⟩
 kcf_m
 replace S:=S.drop (List.sublist_cons_self _ _)
 obtain⟨p1,rest1,rfl,K1,p2,rest2,rfl,K2,C2⟩:=CH
 have C2:rest2= .ref 44:=C2
 subst C2
 have Gb:=((G1.trans G2).trans G3).trans ((G4.trans G5).trans G6)
 have R1:Rep tb d6 (.ref xa) (.text [34]):=⟨_,_,_,rfl,I3.sub ((G4.trans G5).trans G6).mono,I4.sub (G5.trans G6).mono,⟨_,rfl⟩,trivial⟩
 have R2:Rep tb d6 (.ref xc) (.char 32):=⟨_,_,rfl,I5.sub G6.mono⟩
 kd_subs
 refine a03 [] S hb (λfr' hs T=>aH1 (n:=4) (tx:=Str.ofString "(\"  )") X G (room.less (by decide)) hh (hb.trans (a29.trans hs)) (nf:=nf) (by exact ltT (by keq_rows)) (TP.mono Gb.mono) K1 R1 (gs:=[.char 32]) ⟨_,_,_,rfl,K2,R2,rfl⟩
  ⟨⟨by decide,by decide⟩,Nat.le_of_ble_eq_true (by kernel_rfl!)⟩ ⟨?_,Nat.le_of_ble_eq_true (by kernel_rfl!)⟩ (by kernel_rfl!) (Nat.le_of_ble_eq_true (by kernel_rfl!)) (by kernel_rfl!) (by decide) T) ?_
 ·intro g hg;rw[List.mem_singleton] at hg;subst hg;exact⟨by decide,λq=>nomatch q⟩
 clear S;rintro q h t d7 fp' G7 S ⟨rfl,tk7,rfl⟩
 kcf_m
 kd_subs
 refine a03 [] S hb (λfr' hs T=>aJ9 (r:=16) (g:=.int 255) X G (room.less (by decide)) hh (hb.trans (a29.trans hs)) (nf:=nf) (by exact ltT (by keq_rows)) (by decide) (by decide) (show (255:Int).natAbs<1024 by decide) (Nat.le_of_ble_eq_true (by kernel_rfl!)) (by decide) (TP.mono (Gb.trans G7).mono) ⟨_,rfl⟩ T) ?_
 clear S;rintro q h t d8 fp' G8 S ⟨tb8,tk8,_,TP8,rfl⟩
 have e9:fp'=[]:=by
  rcases TP8 with⟨_,e,_⟩|⟨_,_,_,_,_,e,_⟩
  ·exact e
  ·cases e
 subst e9
 kcf_m
 kd_subs
 exact rts ⟨congrArg Value.bool (show ((Dt.int 255).txt false true 16==Str.ofString "ff")=true by kernel_rfl!),(S.sit.anti a29 hb)⟩
end
section
variable {B0:Heap} {outer:List Env}
theorem b75 {n:Int} {u:Tok} {Q:Value->Shared->Prop} (S:St w.params b g L l fp h) (k:∀r h' t' u0 u1,St w.params b g L l ((r,.cell (isR 0 n 1 u0 u u1))::fp) h'->Q (.ref r) (sh z h' t')):wpAny (model pw w) A (call (.type "range") [.int n u]) Q E (sh z h t):=
 PySem.call_range_1 (s:=sh z h t) (k _ _ _ _ _ (S.more a08 ⟨_,Heap.get?_push_size h rfl,rfl⟩ (al1 (Nat.le_refl _)) (nd1 _)))
theorem aY7 (n:Nat):Builtin.Range.rangeSize 0 (n:Int) 1=n:=by
 unfold Builtin.Range.rangeSize
 simp
 lia
theorem b70 (n:Nat) (hn:n<1000000):Builtin.Range.small 0 (n:Int) 1=true:=by
 unfold Builtin.Range.small Builtin.Range.rangeFitsLong
 rw[aY7]
 simp
 lia
theorem nm0 {P:Params} {a:Addr} {o:AO} {C:Prop} (_:St P b g L l ((a,o)::fp) h) (k:∀a',a'=a->C):C:=k a rfl
set_option maxHeartbeats 8000000 in
theorem b87 (X:a01 w K b) (G:KOk K) (GX:KX K) (room:a04 A 17) (hh:A.handled=none) (hfr:A.frames=some []) (hb:Sub (Bas.of b) fr) {sc:Addr} {vs0:List Value} (hv0:∀v∈vs0,X2 λ(n:Int) (t:Tok)=>v= .int n t) (hl0:vs0.length<=63) (I0:X2 λo n=>A3 ((fr.or d) sc o) (o.cls= .type "list") (o.data= .seq vs0.toArray n))
  (T:Sit w.params b (fr.or d) [] h):
  a07 w A z (.ref 1292) [.ref sc] h t (λq h'=>q= .bool true/\Sit w.params b fr [] h'):=by
 refine enF (binds:=[("script",.ref sc)]) G.bv9 X T room hfr (BindsTo.of_eq (by kernel_rfl)) (by kernel_rfl) ?_
 intro cx hH room hfr' P₀ rT h t S
 replace hh:=hH.trans hh
 dsimp only[List.reverse,List.reverseAux] at S
 kd_subs
 refine aQ1 [] (λU=>true) (λv y=>X4 λ(n:Int) (u:Tok) (m:Nat) (tk:Tok)=>v= .int n u/\y= .int (m:Int) tk) ?_
 kd_subs
 have hI0:h.IsList sc vs0.toArray:=by obtain⟨o,n,e,e1,e2⟩:=I0;exact⟨o,S.keep _ _ e,e1,n,e2⟩
 refine at3 (j:=63) S hI0 (szE (leT (by keq_rows))) ?_
 clear S;intro sl h S
 have htk:vs0.take 63=vs0:=List.take_of_length_le hl0
 rw[htk] at S
 refine aH5 S hh (S.isList 0 rfl) (szE (leT (by keq_rows))) (λC v s₃ m₃ E' hv hn hm' kp=>a93 (v:=v)) ?_ ?_
 ·intro C v s₃ m₃ E' hv _ hns hm' kp
  obtain⟨n,u,rfl⟩:=hv0 v hv
  obtain⟨hp,gs,dr,tk0,os⟩:=s₃
  show wpAny (model pw w) _ (eval _ _) _ _ (sh ⟨gs,dr,os⟩ hp tk0)
  refine b36 ?_
  refine bg7 S X G.bA2 br1 kp ?_
  refine b43 ?_
  refine b48 ?_
  refine aM0 hns hm' ?_
  refine bj0 ?_
  refine b64 ?_;intro tk1 t
  exact⟨⟨n,u,n.natAbs,tk1,rfl,rfl⟩,_,_,rfl,λU V e=>e⟩
 intro lx vs h t hP S
 rw[ae3] at hP
 have hvs:∀v∈vs,X2 λ(n:Nat) (t:Tok)=>v= .int n t:=by
  have key:∀{us vs:List Value},Paired (λv y=>X4 λ(n:Int) (u:Tok) (m:Nat) (tk:Tok)=>v= .int n u/\y= .int (m:Int) tk) us vs->∀v∈vs,X2 λ(n:Nat) (t:Tok)=>v= .int n t:=by
   intro us vs hP
   induction hP with
   |nil=>intro v h;cases h
   |cons e r ih=>
    intro v h
    rcases List.mem_cons.mp h with rfl |h
    ·obtain ⟨_,_,m,tk,_,e⟩:=e;exact⟨m,tk,e⟩
    ·exact ih v h
  exact key hP
 have hvl:vs.length<=63:=by
  have key:∀{us vs:List Value},Paired (λv y=>X4 λ(n:Int) (u:Tok) (m:Nat) (tk:Tok)=>v= .int n u/\y= .int (m:Int) tk) us vs->us.length=vs.length:=by
   intro us vs hP
   induction hP with
   |nil=>rfl
   |cons e r ih=>simp [ih]
  have:=key hP
  lia
 obtain⟨d1,G1,I1,S⟩:=ao3 S
 replace S:=S.drop (List.sublist_cons_self _ _)
 kd_subs
 refine au7 X G (room.deeper (by decide)) S ?_;clear S;intro tA dT rl bd h t hm S
 kd_subs
 refine b86 0 X G S hh (S.isTup 0 rfl) (by kernel_rfl) ?_;keq_hits
 replace S:=S.pick (fp':=[_,_,_,_]) [4,3,2,1]
 refine nm0 S λdk hdk=>?_
 subst hdk
 kd_subs
 refine nm0 S λrw hrw=>?_
 subst hrw
 refine a05 [false,true,false,false,false] S (λg' hs T=>a68 (k:=0) (m:=4) X G (room.deeper (by decide)) hvs (I1.sub (a12.trans hs)) hvl (by lia) (by decide) (by decide) T) ?_
 clear S;rintro q h t fp' S ⟨n,tk2,tk3,hn,rfl,rfl⟩
 kcf_m
 replace S:=S.pick (fp':=[_,_,_,_,_]) [1,0,2,3,4]
 kd_subs
 rw[show (2:Int)+(n:Int)=((2+n:Nat):Int) from by exact rfl]
 refine b75 S ?_
 clear S;intro rr h t u0 u1 S
 refine ag9 0 S rfl (b70 _ (by lia)) ?_;clear S;intro It h S
 rw[aY7] at S
 replace S:=S.pick (fp':=[_,_,_,_,_,_]) [2,3,4,5,6,0]
 have Tb:a17 d1 [] bd [] 0:=⟨hm,(λU q=>nomatch q),(λU q=>nomatch q),List.nodup_nil,rfl⟩
 have S1:St w.params b (fr.or d1) cx.L [("rows",.ref rw),("deck",.ref dk),("table",.ref tA),("script",.ref sc)] ((rw,.list [])::(ak2 w dk lx (0+1) tk3 [] tA dT rl bd []++[(It,.cell (bc4 (0+((0:Nat):Int)*1) (((2+n:Nat):Int) -((0:Nat):Int)) 1))])) h:=by
  simpa [kvs] using S
 refine av2 (n:=2+n) (λi h U=>X11 λ(d':Bas) (tb:TB) (dT rl bd:Addr) (rows us:List Value) (nf k:Nat) (tk:Tok) (qs:List (Str × Value))=>A8 (aa2 fr d d') (ab2 d' lx vs) (a17 d' tb bd rows nf) (Rws tb d' us) (us.length=i) (nf<=i) (k<=1+5*i)
   (St w.params b (fr.or d') cx.L (("deck",.ref dk)::("table",.ref tA)::("rows",.ref rw)::qs) ((rw,.list us)::(ak2 w dk lx k tk tb tA dT rl bd rows++[(It,.cell (bc4 (0+(i:Int)*1) (((2+n:Nat):Int) -i) 1))])) h)) ?_ ?_ (2+n) 0 h _ (by lia)
  ⟨d1,[],dT,rl,bd,[],[],0,0+1,tk3,_,G1,I1,Tb,(λU q=>nomatch q),rfl,Nat.le_refl _,by exact Nat.lt_succ_self _,(S1.front (x:="table") (by kernel_rfl)).front (x:="deck") (by kernel_rfl)⟩
 ·clear S S1
  rintro i h t hi ⟨d',tb,dT,rl,bd,rows,us,nf,k,tk,qs,Gr,IL,Tb,hus,hul,hnf,hk,S⟩ Jn nx
  refine ag7 5 S rfl (by lia) ?_;clear S;intro h tki S
  dsimp+zetaDelta only[List.set,List.cons_append,List.nil_append] at S
  rw[show (0:Int)+(i:Int)*1+1=0+((i+1:Nat):Int)*1 from by exact rfl,show ((2+n:Nat):Int) -(i:Int) -1=((2+n:Nat):Int) -((i+1:Nat):Int) from by lia] at S
  refine⟨_,rfl,?_⟩
  refine goI 2 X G S ?_;keq_hits
  refine wpAny_mono (aX1 X G GX (room.deeper (by decide)) hh hfr' hb hvs IL hvl (by lia) (by lia) Tb hus (by lia) S) (λf s₃ q=>?_) (λU V q=>q)
  obtain⟨rfl,h',t',d2,tb2,dT2,rl2,bd2,rows2,us2,nf2,k2,tk4,qs2,rfl,G2,Tb2,hus2,hul2,hnf2,hk2,S⟩:=q
  exact nx ⟨d2,tb2,dT2,rl2,bd2,rows2,us2,nf2,k2,tk4,qs2,Gr.trans G2,IL.sub G2.mono,Tb2,hus2,by lia,by lia,by lia,S⟩
 ·clear S S1
  rintro h t ⟨d',tb,dT,rl,bd,rows,us,nf,k,tk,qs,Gr,IL,Tb,hus,hul,hnf,hk,S⟩
  refine a71 5 S hh rfl (by lia) ?_;clear S;intro h S
  refine⟨rfl,?_⟩
  exact bg5 X G GX (room.deeper (by decide)) hh hfr' hb (nf:=nf) (by lia) Tb rT.s (S.drop (by simp))
end
end
section
theorem an2 {a b:Bool} (e:(a&&b)=true):a=true/\b=true:=Bool.and_eq_true_iff.mp e
theorem at_ {α:Type} {Q:α->Prop} {l:List α} (h:∀p∈l,Q p) (i:Nat) (p:α) (e:l[i]?=some p):Q p:=h p (List.mem_of_getElem? e)
namespace Hd
variable (P:Params)
theorem k_fn:∀p∈ftab,a31 (K P) p.1 p.2:=λp h=>
 have e:=an2 (bi7 (f:=λp:Addr × FI=>codeIn (K P) p.2.cd p.2.qual&&(keepIn (K P) (.ref p.1)&&isFn (K P) (.ref p.1))) (by kernel_rfl) p h)
 ⟨bg0 (f:=λp:Addr × FI=>(K P).lookup p.1) (g:=λp=>some p.2.obj) (by kernel_rfl) p h,e.1,(an2 e.2).1,(an2 e.2).2⟩
theorem k_gl:∀p∈gtab,nsIn (K P) mainGlobals p.1=some p.2:=bg0 (f:=λp:Str × Option Value=>nsIn (K P) mainGlobals p.1) (g:=λp=>some p.2) (by kernel_rfl)
theorem k_cl:∀p∈ctab,ad7 (K P) p.1 p.2.1 p.2.2:=λp h=>
 have e:=an2 (bi7 (f:=λp:Addr × List Str × Addr=>aM7 (K P) p.1 p.2.1&&(makesIn (K P) p.1&&(isFn (K P) (.ref p.2.2)&&(keepIn (K P) (.ref p.1)&&plainGet (K P) p.1 "")))) (by kernel_rfl) p h)
 have e2:=an2 e.2
 have e3:=an2 e2.2
 ⟨e.1,e2.1,bg0 (f:=λp:Addr × List Str × Addr=>findIn (K P) (.ref p.1) "__init__") (g:=λp=>some (some (.ref p.2.2))) (by kernel_rfl) p h,e3.1,(an2 e3.2).1,(an2 e3.2).2⟩
theorem k_me:∀p∈mtab,findIn (K P) (.ref p.1) p.2.1=some (some (.ref p.2.2)):=bg0 (f:=λp:Addr × Str × Addr=>findIn (K P) (.ref p.1) p.2.1) (g:=λp=>some (some (.ref p.2.2))) (by kernel_rfl)
theorem k_tu:∀p∈ttab,∃n,(K P).lookup p.1=some {cls:=.type "tuple",data:=.seq p.2.toArray n}:=λp h=>⟨0,bg0 (f:=λp:Addr × List Value=>(K P).lookup p.1) (g:=λp=>some {cls:=.type "tuple",data:=.seq p.2.toArray 0}) (by kernel_rfl) p h⟩
theorem alC {α:Type} {a:α} {l:List α} {Q:α->Prop} (h:Q a) (r:∀x∈l,Q x):∀x∈a::l,Q x:=List.forall_mem_cons.mpr ⟨h,r⟩
theorem k_sp:∀p∈stab,(K P).lookup p.1=some (instObj 38 p.2.1)/\X2 λes n=>(K P).lookup p.2.1=some (dictOf es n)/\a22 es (a41 p.2.2.1 p.2.2.2):=
 alC ⟨by kernel_rfl,[e P "title" 229 (z "empty" 225)],1,by kernel_rfl,rfl⟩ (alC ⟨by kernel_rfl,[e P "title" 235 (z "unspecified" 231)],1,by kernel_rfl,rfl⟩ (al1 ⟨by kernel_rfl,[e P "title" 241 (z "eof" 237)],1,by kernel_rfl,rfl⟩))
theorem k_cm:∀p∈xtab,specialIn (K P) (.ref p.1) "__getattribute__"=some (some (.builtin "type.__getattribute__"))/\readsIn (K P) p.1 (.type "type")=true/\findCls (K P) (.ref p.1) (.type "type") "__init__"=some (.val (.ref p.2)):=
 alC ⟨by kernel_rfl,by kernel_rfl,by kernel_rfl⟩ (al1 ⟨by kernel_rfl,by kernel_rfl,by kernel_rfl⟩)
theorem k_isa:∀D∈aJ0,∀C∈aV9,if rel D C=true then isIn (K P) (.ref D) C=true else kin_not (K P) D C=true:=λD h C h2=>by
 have q:=bi7 (bi7 (f:=λD=>aV9.all λC=>cond (rel D C) (isIn (K P) (.ref D) C) (kin_not (K P) D C)) (l:=aJ0) (by kernel_rfl) D h) C h2
 cases r:rel D C with
 |true=>rw[r] at q;exact q
 |false=>rw[r] at q;exact q
theorem k_isc:∀D∈aJ0,aQ4 (K P) D=true:=bi7 (by kernel_rfl)
theorem k_isp:∀T∈["int","str","bool"],∀C∈aV9,isNotIn (K P) T C=true:=λT h=>bi7 (bi7 (f:=λT=>aV9.all λC=>isNotIn (K P) T C) (by kernel_rfl) T h)
theorem kok:KOk (K P) where
 tu:=at_ (k_tu P)
 sp:=at_ (k_sp P)
 cl:=at_ (k_cl P)
 me:=at_ (k_me P)
 isa:=k_isa P
 cm:=at_ (k_cm P)
 isc:=k_isc P
 ocg:=⟨by kernel_rfl,by kernel_rfl⟩
 isp:=k_isp P
 fn:=at_ (k_fn P)
 gl:=at_ (k_gl P)
end Hd
end
section
set_option tactic.hygienic false
namespace Hd
theorem kx (P:Params):KX (K P) where
 tl:=by kernel_rfl
 init:=by kernel_rfl
 initF:=by kernel_rfl
 sa:=by kernel_rfl
 tk:=λn hn=>by
  simp only[List.mem_cons,List.not_mem_nil,or_false] at hn
  rcases hn with rfl |rfl |rfl<;>exact⟨by kernel_rfl,by kernel_rfl⟩
 hd:=by kernel_rfl
 ga:=by kernel_rfl
 gt:=by kernel_rfl
 mt:=⟨by kernel_rfl,by kernel_rfl,by kernel_rfl⟩
 keep:=by kernel_rfl
noncomputable def RD (h:Heap) (R:WRecords) (cl:Str->Option Addr) (v:Value):WData->Prop
 | .int n=>∃t,v= .int n t
 | .list xs=>X5 λ(a:Addr) (o:Obj) (vs:Array Value) (n:Nat) (as:List Addr)=>A5 (v= .ref a) (h.get? a=some o) (o.cls= .type "list") (o.data= .seq vs n) (ReadsAllW R cl h vs.toList xs as)
 | _=>True
theorem rd {R:WRecords} {cl:Str->Option Addr} {h:Heap} {v:Value} {d:WData} {as:List Addr} (x:ReadsW R cl h v d as):RD h R cl v d:=by
 cases x<;>first |exact trivial |exact⟨_,rfl⟩|exact⟨_,_,_,_,_,rfl,by assumption,by assumption,by assumption,by assumption⟩
noncomputable def RA (h:Heap) (R:WRecords) (cl:Str->Option Addr) (vs:List Value):List WData->Prop
 |[]=>vs=[]
 |d::ds=>X4 λ(v:Value) (r:List Value) (as bs:List Addr)=>A3 (vs=v::r) (ReadsW R cl h v d as) (ReadsAllW R cl h r ds bs)
theorem ra {R:WRecords} {cl:Str->Option Addr} {h:Heap} {vs:List Value} {ds:List WData} {as:List Addr} (x:ReadsAllW R cl h vs ds as):RA h R cl vs ds:=by
 cases x with
 |nil=>exact rfl
 |cons x1 x2=>exact⟨_,_,_,_,rfl,x1,x2⟩
theorem ay6 {R:WRecords} {cl:Str->Option Addr} {h:Heap}:∀{ns:List Int} {vs:List Value} {as:List Addr},ReadsAllW R cl h vs (ns.map .int) as->vs.length=ns.length/\∀v∈vs,X2 λ(n:Int) (t:Tok)=>v= .int n t
 |[],vs,as,x=>by
  have e:vs=[]:=ra x
  subst e
  exact⟨rfl,λv h=>neE h⟩
 |n::r,vs,as,x=>by
  obtain⟨v,vr,as1,bs,rfl,x1,x2⟩:=ra x
  obtain⟨t,rfl⟩:∃t,v= .int n t:=rd x1
  obtain⟨h1,h2⟩:=ay6 x2
  exact⟨congrArg Nat.succ h1,λv hv=>(List.mem_cons.mp hv).elim (λq=>⟨_,_,q⟩) (h2 v)⟩
theorem bo0 {R:WRecords} {xs:List WData} (x:rw1.row.toRowW.pre.holds R {args:=[.list xs]}=true):xs.length<=63:=by
 have e:rw1.row.toRowW.pre= .and (.not (.lt (.lit (.int ((63:Nat):Int))) (.len (.arg 0)))) (.lit (.bool true)):=rfl
 rw[e] at x
 have h1:∀n:Int,less? (.int ((63:Nat):Int)) (.int n)=some (decide (((63:Nat):Int)<n)):=λn=>rfl
 by_cases hx:xs.length<=63
 ·exact hx
 have hd:decide (((63:Nat):Int)<(xs.length:Int))=true:=decide_eq_true (by omega)
 unfold WTm.holds at x
 simp only[WTm.value,List.getElem?_cons_zero] at x
 rw[h1,hd] at x
 cases x
theorem walk:WalkO q loose (λ_ _=>True) H.says rw1.row.toRowW dk.1 dk.2 λf vs=>PySem.call f vs:=by
 intro w s₀ s₁ mg mb Gd Y a o pm cd doc dV kV ha ho hcr hdf hmg hgens args vals as hpre hlay hrd hwell has
 obtain⟨h1,h2⟩:=pre_splitW hpre
 have KI:(K w.params).In s₁.heap:=kIn_of Y
 have G:=kok w.params
 have hl:=mg_of KI Gd.T.g G.bx4
 have hnm:dk.1.name=Str.ofString "law":=by kernel_rfl
 rw[hnm,hl] at hmg
 cases hmg
 obtain⟨d,r,rfl,hd,hr⟩:=hasAllW_cons h1
 have hr:=hasAllW_nil hr
 subst hr
 obtain⟨xs,rfl,hx⟩:=hasW_list hd
 obtain⟨ns,rfl⟩:=items_int hx
 have h63:=bo0 h2
 obtain⟨v0,vr,as1,bs1,rfl,r1,r2⟩:=ra hrd
 obtain rfl:vr=[]:=ra r2
 obtain⟨sc,osc,vs,n,as',rfl,ho1,ho2,ho3,hra⟩:=rd r1
 obtain⟨hvl,hvi⟩:=ay6 hra
 have X:a01 w (K w.params) s₁.heap:=⟨KI,⟨mg,Gd.T.g⟩,⟨mb,Gd.T.b,Gd.T.builtins⟩,Gd.T.nolimit,Gd.low⟩
 have T:Sit w.params s₁.heap ((Bas.of s₁.heap).or noB) [] s₁.heap:=⟨a29,λc o e=>e.elim id λe=>e.elim,⟨(λ_ q=>nomatch q),(λ_ q=>nomatch q),List.nodup_nil⟩,Nat.le_refl _⟩
 have hroom:a04 callerA 17:=⟨by decide+kernel,by decide+kernel⟩
 have L:=b87 (z:=⟨s₁.gens,s₁.drawn,s₁.os⟩) (t:=s₁.toks) X G (kx w.params) hroom rfl rfl (λ_ _ e=>e) hvi (by rw[hvl];simpa using h63) ⟨osc,n,.inl ho1,ho2,by simpa using ho3⟩ T
 refine wpAny_call (codeAny_mono L ?_)
 rintro r s' ⟨v,h',t',rfl,rfl,rfl,T'⟩
 exact⟨.inl ⟨_,.bool true,[],rfl,λcls=>rfl,.bool true,(by kernel_rfl!),λ_=>⟨List.nodup_nil,λa h=>nomatch h⟩⟩,.of_keep λb o e=>T'.keep _ _ e,rfl,.of_eq hgens⟩
end Hd
end
end Mine

theorem PySem.Challenge.cw_nt0262_01_holds : PySem.Challenge.rw_nt0262_01.Holds :=
 Mine.Hd.holds Mine.Hd.walk

import PyProof.Rows.All
import Wide.All
import OpenK.AllK
import Wide.FinOn
import Lean
import PySem.Challenge.RW_pq0377_01
set_option Elab.async false
set_option maxRecDepth 100000
set_option linter.unusedVariables false
set_option linter.unusedSimpArgs false
set_option genSizeOfSpec false
set_option bootstrap.genMatcherCode false
namespace Mine
section
open PySem PySem.W PyProof.Rows
set_option maxHeartbeats 0
noncomputable def nthP {α : Type} (d : α) : List α → Nat → α
  | [], _ => d
  | a :: _, 0 => a
  | _ :: r, k + 1 => nthP d r k
noncomputable def clsBodyP : Stmt → List Stmt
  | .ClassDef _ _ _ b .. => b
  | _ => []
noncomputable def defBodyP : Stmt → List Stmt
  | .FunctionDef _ _ b .. => b
  | _ => []
noncomputable def defParamsP : Stmt → Arguments
  | .FunctionDef _ p .. => p
  | _ => ⟨[], [], none, [], [], none, []⟩
noncomputable def noScopeP : Scope := { kind := .module, names := [], isGenerator := false, isCoroutine := false }
noncomputable def defScopeP : Stmt → Scope
  | .FunctionDef _ _ _ _ _ _ s .. => s
  | _ => noScopeP
noncomputable def topP (i : Nat) : Stmt := nthP (.Pass ⟨0, 0, 0, 0⟩) PySem.Challenge.pw_pq0377_01.main.body i
noncomputable def meP (i j : Nat) : Stmt := nthP (.Pass ⟨0, 0, 0, 0⟩) (clsBodyP (topP i)) j
noncomputable def lastName : List Nat → List Nat → List Nat
  | [], acc => acc
  | c :: r, acc => if c == 46 then lastName r [] else lastName r (acc ++ [c])
noncomputable def fdO (s : Stmt) (q : Str) (cl : List (Str × Addr)) (dv : Value) (md : Str) (tk cd : Nat) (ct : Value) : Obj :=
  ⟨.type "function", none, .func { name := ⟨(lastName q.cps.toList []).toArray⟩, qualname := q, params := defParamsP s, body := .stmts (defBodyP s), scope := defScopeP s, globals := 3, closure := cl, defaults := dv, kwdefaults := .none, doc := .none, pyModule := .str md tk, annotations := none, code := .ref cd, closureTuple := ct, builtins := 0 }, #[]⟩
noncomputable def kE (P : Params) (x : Str) (t : Nat) (v : Value) : DictEntry := ⟨PyData.keyHash P x, .str x t, v⟩
noncomputable def KK (P : Params) : Frag := [
  (2, ⟨.none, none, .dict #[kE P "type.__subclasses__.Exception.0" 223 (.int 40 0), kE P "type.__subclasses__.Exception.n" 224 (.int 1 0)] 2, #[]⟩),
  (3, ⟨.type "dict", none, .dict #[kE P "__name__" 165 (.str "law_pq0377_01" 905), kE P "__doc__" 166 .none, kE P "__package__" 167 .none, kE P "__loader__" 168 (.builtin "__main__.__loader__#opaque"), kE P "__spec__" 169 .none, kE P "__annotations__" 170 (.ref 6), kE P "__builtins__" 171 (.ref 4), kE P "__file__" 173 (.str "/claim/cut.py" 172), kE P "__cached__" 174 .none, kE P "FdError" 226 (.ref 40), kE P "SpotFault" 261 (.ref 69), kE P "TextFault" 277 (.ref 81), kE P "WORDS" 317 (.ref 84), kE P "SIGNS" 349 (.ref 85), kE P "LEVELS" 431 (.ref 86), kE P "SINGLE_LEVELS" 435 (.ref 88), kE P "RIGHT_LEVEL" 437 (.int 12 436), kE P "BASES" 447 (.ref 89), kE P "ESCAPES" 460 (.ref 90), kE P "BLANKS" 462 (.str " \t\x0d\n" 461), kE P "FIGURES" 464 (.str "0123456789" 463), kE P "LETTERS" 466 (.str "abcdefghijklmnopqrstuvwxyzABCDEFGHIJKLMNOPQRSTUVWXYZ" 465), kE P "MOST_FIGURES" 468 (.int 60 467), kE P "MOST_DEPTH" 470 (.int 40 469), kE P "MOST_HEIGHT" 472 (.int 200 471), kE P "MOST_STRINGS" 474 (.int 4 473), kE P "is_too_high" 480 (.ref 95), kE P "Scanner" 598 (.ref 176), kE P "TokenRow" 681 (.ref 246), kE P "ExprParser" 897 (.ref 400), kE P "expr_of" 904 (.ref 409), kE P "_law_gaps" 912 (.ref 410), kE P "_law_lone" 920 (.ref 411), kE P "_law_escapes" 929 (.ref 416), kE P "_law_words" 933 (.ref 417), kE P "_law_dip" 942 (.ref 424), kE P "_law_put" 951 (.ref 431), kE P "_law_part" 966 (.ref 438), kE P "_law_string" 985 (.ref 445), kE P "_law_heard" 993 (.ref 452), kE P "law" 999 (.ref 457)] 41, #[]⟩),
  (15, ⟨.type "tuple", none, .seq #[.type "Exception"] 0, #[]⟩),
  (18, ⟨.type "cell", none, .cell (some (.ref 40)), #[]⟩),
  (29, ⟨.type "code", none, .fields #[.str "__init__" 201, .str "FdError.__init__" 202, .str "/claim/cut.py" 203, .int 4 0, .int 2 0, .int 0 0, .int 0 0, .int 3 0, .ref 24, .bool true, .int 181 0, .ref 25, .none, .ref 26, .ref 27, .ref 28, .int 207 0, .int 4 0, .str "/claim/cut.py" 208], #[]⟩),
  (30, fdO (meP 1 0) "FdError.__init__" [("__class__", 18)] .none "fdsolve.errors" 187 29 (.ref 23)),
  (39, ⟨.type "dict", none, .dict #[kE P "__module__" 196 (.str "fdsolve.errors" 187), kE P "__firstlineno__" 200 (.int 2 199), kE P "__init__" 209 (.ref 30), kE P "told" 216 (.ref 37), kE P "__static_attributes__" 218 (.ref 38), kE P "__weakref__" 221 (.ref 41), kE P "__doc__" 222 .none] 4, #[]⟩),
  (40, ⟨.type "type", none, .cls ⟨"FdError", [.type "Exception"], [.ref 40, .type "Exception", .type "BaseException", .type "object"], 39, "FdError", true, [], [.ref 69], false, none, false⟩, #[(some (.ref 15)), none, (some (.str "FdError" 189)), (some (.str "FdError" 197)), (some (.builtin "Exception.__new__")), (some (.bool true))]⟩),
  (41, ⟨.type "getset_descriptor", none, .fields #[.str "__weakref__" 220, .ref 40, .builtin "ExceptionGroup.__weakref__", .none], #[]⟩),
  (47, ⟨.type "cell", none, .cell (some (.ref 69)), #[]⟩),
  (58, ⟨.type "code", none, .fields #[.str "__init__" 239, .str "SpotFault.__init__" 240, .str "/claim/cut.py" 241, .int 12 0, .int 3 0, .int 0 0, .int 0 0, .int 3 0, .ref 53, .bool true, .int 181 0, .ref 54, .none, .ref 55, .ref 56, .ref 57, .int 246 0, .int 12 0, .str "/claim/cut.py" 247], #[]⟩),
  (59, fdO (meP 2 0) "SpotFault.__init__" [("__class__", 47)] .none "fdsolve.errors" 187 58 (.ref 52)),
  (68, ⟨.type "dict", none, .dict #[kE P "__module__" 234 (.str "fdsolve.errors" 187), kE P "__firstlineno__" 238 (.int 10 237), kE P "__init__" 248 (.ref 59), kE P "told" 255 (.ref 66), kE P "__static_attributes__" 257 (.ref 67), kE P "__doc__" 259 .none] 3, #[]⟩),
  (69, ⟨.type "type", none, .cls ⟨"SpotFault", [.ref 40], [.ref 69, .ref 40, .type "Exception", .type "BaseException", .type "object"], 68, "SpotFault", true, [], [.ref 81], false, none, false⟩, #[(some (.ref 44)), none, (some (.str "SpotFault" 227)), (some (.str "SpotFault" 235)), (some (.builtin "Exception.__new__")), (some (.bool true))]⟩),
  (80, ⟨.type "dict", none, .dict #[kE P "__module__" 269 (.str "fdsolve.errors" 187), kE P "__firstlineno__" 273 (.int 18 272), kE P "__static_attributes__" 274 (.ref 79), kE P "__doc__" 275 .none] 2, #[]⟩),
  (81, ⟨.type "type", none, .cls ⟨"TextFault", [.ref 69], [.ref 81, .ref 69, .ref 40, .type "Exception", .type "BaseException", .type "object"], 80, "TextFault", true, [], [], false, none, false⟩, #[(some (.ref 72)), none, (some (.str "TextFault" 262)), (some (.str "TextFault" 270)), (some (.builtin "Exception.__new__")), (some (.bool true))]⟩),
  (84, ⟨.type "tuple", none, .seq #[.str "array" 280, .str "bool" 281, .str "constraint" 282, .str "diff" 283, .str "div" 284, .str "else" 285, .str "elseif" 286, .str "endif" 287, .str "false" 288, .str "if" 289, .str "in" 290, .str "include" 291, .str "int" 292, .str "intersect" 293, .str "let" 294, .str "maximize" 295, .str "minimize" 296, .str "mod" 297, .str "not" 298, .str "of" 299, .str "output" 300, .str "par" 301, .str "predicate" 302, .str "satisfy" 303, .str "set" 304, .str "solve" 305, .str "string" 306, .str "subset" 307, .str "superset" 308, .str "symdiff" 309, .str "test" 310, .str "then" 311, .str "true" 312, .str "union" 313, .str "var" 314, .str "where" 315, .str "xor" 316] 0, #[]⟩),
  (85, ⟨.type "tuple", none, .seq #[.str "(" 318, .str ")" 319, .str "," 320, .str ";" 321, .str "]" 322, .str "{" 323, .str "}" 324, .str "<->" 325, .str "->" 326, .str "<-" 327, .str "\\/" 328, .str "/\\" 329, .str "<=" 330, .str ">=" 331, .str "==" 332, .str "!=" 333, .str ".." 334, .str "++" 335, .str "::" 336, .str "[|" 337, .str "|]" 338, .str "[" 339, .str "|" 340, .str "<" 341, .str ">" 342, .str "=" 343, .str "+" 344, .str "-" 345, .str "*" 346, .str "^" 347, .str ":" 348] 0, #[]⟩),
  (86, ⟨.type "dict", none, .dict #[kE P "<->" 350 (.int 1 351), kE P "->" 353 (.int 2 354), kE P "<-" 356 (.int 2 357), kE P "\\/" 359 (.int 3 360), kE P "xor" 362 (.int 3 363), kE P "/\\" 365 (.int 4 366), kE P "<" 368 (.int 5 369), kE P ">" 371 (.int 5 372), kE P "<=" 374 (.int 5 375), kE P ">=" 377 (.int 5 378), kE P "=" 380 (.int 5 381), kE P "!=" 383 (.int 5 384), kE P "in" 386 (.int 6 387), kE P "subset" 389 (.int 6 390), kE P "superset" 392 (.int 6 393), kE P "union" 395 (.int 7 396), kE P "diff" 398 (.int 7 399), kE P "symdiff" 401 (.int 7 402), kE P ".." 403 (.int 8 404), kE P "+" 405 (.int 9 406), kE P "-" 407 (.int 9 408), kE P "*" 409 (.int 10 410), kE P "div" 411 (.int 10 412), kE P "mod" 413 (.int 10 414), kE P "intersect" 415 (.int 10 416), kE P "^" 417 (.int 11 418), kE P "++" 419 (.int 12 420)] 27, #[]⟩),
  (88, ⟨.type "tuple", none, .seq #[.int 5 432, .int 6 433, .int 8 434] 0, #[]⟩),
  (89, ⟨.type "dict", none, .dict #[kE P "int" 438 (.str "int" 439), kE P "bool" 440 (.str "bool" 441), kE P "string" 442 (.str "str" 443)] 3, #[]⟩),
  (90, ⟨.type "dict", none, .dict #[kE P "n" 448 (.str "\n" 449), kE P "t" 450 (.str "\t" 451), kE P "\"" 452 (.str "\"" 453), kE P "\\" 454 (.str "\\" 455)] 4, #[]⟩),
  (94, ⟨.type "code", none, .fields #[.str "is_too_high" 475, .str "is_too_high" 476, .str "/claim/cut.py" 477, .int 35 0, .int 1 0, .int 0 0, .int 0 0, .int 3 0, .ref 91, .bool true, .int 181 0, .ref 92, .none, .none, .none, .ref 93, .int 478 0, .int 35 0, .str "/claim/cut.py" 479], #[]⟩),
  (95, fdO (topP 19) "is_too_high" [] .none "fdsolve.reader" 278 94 .none),
  (103, ⟨.type "tuple", none, .seq #[.int 0 493] 0, #[]⟩),
  (109, ⟨.type "code", none, .fields #[.str "__init__" 494, .str "Scanner.__init__" 495, .str "/claim/cut.py" 496, .int 43 0, .int 5 0, .int 0 0, .int 0 0, .int 3 0, .ref 104, .bool true, .int 181 0, .ref 105, .none, .ref 106, .ref 107, .ref 108, .int 502 0, .int 43 0, .str "/claim/cut.py" 503], #[]⟩),
  (110, fdO (meP 20 0) "Scanner.__init__" [] (.ref 103) "fdsolve.reader" 278 109 .none),
  (116, ⟨.type "code", none, .fields #[.str "sign" 505, .str "Scanner.sign" 506, .str "/claim/cut.py" 507, .int 49 0, .int 1 0, .int 0 0, .int 0 0, .int 3 0, .ref 111, .bool true, .int 181 0, .ref 112, .none, .ref 113, .ref 114, .ref 115, .int 509 0, .int 49 0, .str "/claim/cut.py" 510], #[]⟩),
  (117, fdO (meP 20 1) "Scanner.sign" [] .none "fdsolve.reader" 278 116 .none),
  (123, ⟨.type "code", none, .fields #[.str "skip" 512, .str "Scanner.skip" 513, .str "/claim/cut.py" 514, .int 52 0, .int 1 0, .int 0 0, .int 0 0, .int 3 0, .ref 118, .bool true, .int 181 0, .ref 119, .none, .ref 120, .ref 121, .ref 122, .int 517 0, .int 52 0, .str "/claim/cut.py" 518], #[]⟩),
  (124, fdO (meP 20 2) "Scanner.skip" [] .none "fdsolve.reader" 278 123 .none),
  (130, ⟨.type "code", none, .fields #[.str "run_of" 520, .str "Scanner.run_of" 521, .str "/claim/cut.py" 522, .int 67 0, .int 2 0, .int 0 0, .int 0 0, .int 3 0, .ref 125, .bool true, .int 181 0, .ref 126, .none, .ref 127, .ref 128, .ref 129, .int 526 0, .int 67 0, .str "/claim/cut.py" 527], #[]⟩),
  (131, fdO (meP 20 3) "Scanner.run_of" [] .none "fdsolve.reader" 278 130 .none),
  (137, ⟨.type "code", none, .fields #[.str "number" 529, .str "Scanner.number" 530, .str "/claim/cut.py" 531, .int 73 0, .int 1 0, .int 0 0, .int 0 0, .int 3 0, .ref 132, .bool true, .int 181 0, .ref 133, .none, .ref 134, .ref 135, .ref 136, .int 535 0, .int 73 0, .str "/claim/cut.py" 536], #[]⟩),
  (138, fdO (meP 20 4) "Scanner.number" [] .none "fdsolve.reader" 278 137 .none),
  (144, ⟨.type "code", none, .fields #[.str "word" 538, .str "Scanner.word" 539, .str "/claim/cut.py" 540, .int 82 0, .int 1 0, .int 0 0, .int 0 0, .int 3 0, .ref 139, .bool true, .int 181 0, .ref 140, .none, .ref 141, .ref 142, .ref 143, .int 544 0, .int 82 0, .str "/claim/cut.py" 545], #[]⟩),
  (145, fdO (meP 20 5) "Scanner.word" [] .none "fdsolve.reader" 278 144 .none),
  (151, ⟨.type "code", none, .fields #[.str "inner_end" 547, .str "Scanner.inner_end" 548, .str "/claim/cut.py" 549, .int 87 0, .int 2 0, .int 0 0, .int 0 0, .int 3 0, .ref 146, .bool true, .int 181 0, .ref 147, .none, .ref 148, .ref 149, .ref 150, .int 557 0, .int 87 0, .str "/claim/cut.py" 558], #[]⟩),
  (152, fdO (meP 20 6) "Scanner.inner_end" [] .none "fdsolve.reader" 278 151 .none),
  (158, ⟨.type "code", none, .fields #[.str "string" 560, .str "Scanner.string" 561, .str "/claim/cut.py" 562, .int 109 0, .int 1 0, .int 0 0, .int 0 0, .int 3 0, .ref 153, .bool true, .int 181 0, .ref 154, .none, .ref 155, .ref 156, .ref 157, .int 568 0, .int 109 0, .str "/claim/cut.py" 569], #[]⟩),
  (159, fdO (meP 20 7) "Scanner.string" [] .none "fdsolve.reader" 278 158 .none),
  (165, ⟨.type "code", none, .fields #[.str "mark" 571, .str "Scanner.mark" 572, .str "/claim/cut.py" 573, .int 134 0, .int 1 0, .int 0 0, .int 0 0, .int 3 0, .ref 160, .bool true, .int 181 0, .ref 161, .none, .ref 162, .ref 163, .ref 164, .int 576 0, .int 134 0, .str "/claim/cut.py" 577], #[]⟩),
  (166, fdO (meP 20 8) "Scanner.mark" [] .none "fdsolve.reader" 278 165 .none),
  (172, ⟨.type "code", none, .fields #[.str "tokens" 579, .str "Scanner.tokens" 580, .str "/claim/cut.py" 581, .int 141 0, .int 1 0, .int 0 0, .int 0 0, .int 3 0, .ref 167, .bool true, .int 181 0, .ref 168, .none, .ref 169, .ref 170, .ref 171, .int 584 0, .int 141 0, .str "/claim/cut.py" 585], #[]⟩),
  (173, fdO (meP 20 9) "Scanner.tokens" [] .none "fdsolve.reader" 278 172 .none),
  (175, ⟨.type "dict", none, .dict #[kE P "__module__" 488 (.str "fdsolve.reader" 278), kE P "__firstlineno__" 492 (.int 41 491), kE P "__init__" 504 (.ref 110), kE P "sign" 511 (.ref 117), kE P "skip" 519 (.ref 124), kE P "run_of" 528 (.ref 131), kE P "number" 537 (.ref 138), kE P "word" 546 (.ref 145), kE P "inner_end" 559 (.ref 152), kE P "string" 570 (.ref 159), kE P "mark" 578 (.ref 166), kE P "tokens" 586 (.ref 173), kE P "__static_attributes__" 591 (.ref 174), kE P "__dict__" 593 (.ref 177), kE P "__weakref__" 595 (.ref 178), kE P "__doc__" 596 .none] 4, #[]⟩),
  (176, ⟨.type "type", none, .cls ⟨"Scanner", [.type "object"], [.ref 176, .type "object"], 175, "Scanner", true, [], [], false, none, false⟩, #[none, none, (some (.str "Scanner" 481)), (some (.str "Scanner" 489)), (some (.builtin "object.__new__")), (some (.bool true))]⟩),
  (177, ⟨.type "getset_descriptor", none, .fields #[.str "__dict__" 592, .ref 176, .builtin "function.__dict__", .builtin "function.__dict__#set"], #[]⟩),
  (178, ⟨.type "getset_descriptor", none, .fields #[.str "__weakref__" 594, .ref 176, .builtin "ExceptionGroup.__weakref__", .none], #[]⟩),
  (193, ⟨.type "code", none, .fields #[.str "__init__" 611, .str "TokenRow.__init__" 612, .str "/claim/cut.py" 613, .int 158 0, .int 2 0, .int 0 0, .int 0 0, .int 3 0, .ref 188, .bool true, .int 181 0, .ref 189, .none, .ref 190, .ref 191, .ref 192, .int 616 0, .int 158 0, .str "/claim/cut.py" 617], #[]⟩),
  (194, fdO (meP 21 0) "TokenRow.__init__" [] .none "fdsolve.reader" 278 193 .none),
  (200, ⟨.type "code", none, .fields #[.str "kind" 619, .str "TokenRow.kind" 620, .str "/claim/cut.py" 621, .int 163 0, .int 1 0, .int 0 0, .int 0 0, .int 3 0, .ref 195, .bool true, .int 181 0, .ref 196, .none, .ref 197, .ref 198, .ref 199, .int 623 0, .int 163 0, .str "/claim/cut.py" 624], #[]⟩),
  (201, fdO (meP 21 1) "TokenRow.kind" [] .none "fdsolve.reader" 278 200 .none),
  (207, ⟨.type "code", none, .fields #[.str "spot" 626, .str "TokenRow.spot" 627, .str "/claim/cut.py" 628, .int 166 0, .int 1 0, .int 0 0, .int 0 0, .int 3 0, .ref 202, .bool true, .int 181 0, .ref 203, .none, .ref 204, .ref 205, .ref 206, .int 630 0, .int 166 0, .str "/claim/cut.py" 631], #[]⟩),
  (208, fdO (meP 21 2) "TokenRow.spot" [] .none "fdsolve.reader" 278 207 .none),
  (214, ⟨.type "code", none, .fields #[.str "take" 633, .str "TokenRow.take" 634, .str "/claim/cut.py" 635, .int 169 0, .int 1 0, .int 0 0, .int 0 0, .int 3 0, .ref 209, .bool true, .int 181 0, .ref 210, .none, .ref 211, .ref 212, .ref 213, .int 637 0, .int 169 0, .str "/claim/cut.py" 638], #[]⟩),
  (215, fdO (meP 21 3) "TokenRow.take" [] .none "fdsolve.reader" 278 214 .none),
  (221, ⟨.type "code", none, .fields #[.str "is_next" 640, .str "TokenRow.is_next" 641, .str "/claim/cut.py" 642, .int 173 0, .int 2 0, .int 0 0, .int 0 0, .int 3 0, .ref 216, .bool true, .int 181 0, .ref 217, .none, .ref 218, .ref 219, .ref 220, .int 645 0, .int 173 0, .str "/claim/cut.py" 646], #[]⟩),
  (222, fdO (meP 21 4) "TokenRow.is_next" [] .none "fdsolve.reader" 278 221 .none),
  (228, ⟨.type "code", none, .fields #[.str "took" 648, .str "TokenRow.took" 649, .str "/claim/cut.py" 650, .int 176 0, .int 2 0, .int 0 0, .int 0 0, .int 3 0, .ref 223, .bool true, .int 181 0, .ref 224, .none, .ref 225, .ref 226, .ref 227, .int 653 0, .int 176 0, .str "/claim/cut.py" 654], #[]⟩),
  (229, fdO (meP 21 5) "TokenRow.took" [] .none "fdsolve.reader" 278 228 .none),
  (235, ⟨.type "code", none, .fields #[.str "want" 656, .str "TokenRow.want" 657, .str "/claim/cut.py" 658, .int 182 0, .int 2 0, .int 0 0, .int 0 0, .int 3 0, .ref 230, .bool true, .int 181 0, .ref 231, .none, .ref 232, .ref 233, .ref 234, .int 661 0, .int 182 0, .str "/claim/cut.py" 662], #[]⟩),
  (236, fdO (meP 21 6) "TokenRow.want" [] .none "fdsolve.reader" 278 235 .none),
  (245, ⟨.type "dict", none, .dict #[kE P "__module__" 606 (.str "fdsolve.reader" 278), kE P "__firstlineno__" 610 (.int 156 609), kE P "__init__" 618 (.ref 194), kE P "kind" 625 (.ref 201), kE P "spot" 632 (.ref 208), kE P "take" 639 (.ref 215), kE P "is_next" 647 (.ref 222), kE P "took" 655 (.ref 229), kE P "want" 663 (.ref 236), kE P "want_name" 670 (.ref 243), kE P "__static_attributes__" 674 (.ref 244), kE P "__dict__" 676 (.ref 247), kE P "__weakref__" 678 (.ref 248), kE P "__doc__" 679 .none] 4, #[]⟩),
  (246, ⟨.type "type", none, .cls ⟨"TokenRow", [.type "object"], [.ref 246, .type "object"], 245, "TokenRow", true, [], [.ref 400], false, none, false⟩, #[none, none, (some (.str "TokenRow" 599)), (some (.str "TokenRow" 607)), (some (.builtin "object.__new__")), (some (.bool true))]⟩),
  (247, ⟨.type "getset_descriptor", none, .fields #[.str "__dict__" 675, .ref 246, .builtin "function.__dict__", .builtin "function.__dict__#set"], #[]⟩),
  (248, ⟨.type "getset_descriptor", none, .fields #[.str "__weakref__" 677, .ref 246, .builtin "ExceptionGroup.__weakref__", .none], #[]⟩),
  (251, ⟨.type "tuple", none, .seq #[.ref 246] 0, #[]⟩),
  (263, ⟨.type "code", none, .fields #[.str "level" 694, .str "ExprParser.level" 695, .str "/claim/cut.py" 696, .int 192 0, .int 1 0, .int 0 0, .int 0 0, .int 3 0, .ref 258, .bool true, .int 181 0, .ref 259, .none, .ref 260, .ref 261, .ref 262, .int 698 0, .int 192 0, .str "/claim/cut.py" 699], #[]⟩),
  (264, fdO (meP 22 0) "ExprParser.level" [] .none "fdsolve.reader" 278 263 .none),
  (270, ⟨.type "code", none, .fields #[.str "expr" 701, .str "ExprParser.expr" 702, .str "/claim/cut.py" 703, .int 197 0, .int 1 0, .int 0 0, .int 0 0, .int 3 0, .ref 265, .bool true, .int 181 0, .ref 266, .none, .ref 267, .ref 268, .ref 269, .int 709 0, .int 197 0, .str "/claim/cut.py" 710], #[]⟩),
  (271, fdO (meP 22 1) "ExprParser.expr" [] .none "fdsolve.reader" 278 270 .none),
  (277, ⟨.type "code", none, .fields #[.str "put_together" 712, .str "ExprParser.put_together" 713, .str "/claim/cut.py" 714, .int 215 0, .int 3 0, .int 0 0, .int 0 0, .int 3 0, .ref 272, .bool true, .int 181 0, .ref 273, .none, .ref 274, .ref 275, .ref 276, .int 720 0, .int 215 0, .str "/claim/cut.py" 721], #[]⟩),
  (278, fdO (meP 22 2) "ExprParser.put_together" [] .none "fdsolve.reader" 278 277 .none),
  (284, ⟨.type "code", none, .fields #[.str "operand" 723, .str "ExprParser.operand" 724, .str "/claim/cut.py" 725, .int 222 0, .int 1 0, .int 0 0, .int 0 0, .int 3 0, .ref 279, .bool true, .int 181 0, .ref 280, .none, .ref 281, .ref 282, .ref 283, .int 731 0, .int 222 0, .str "/claim/cut.py" 732], #[]⟩),
  (285, fdO (meP 22 3) "ExprParser.operand" [] .none "fdsolve.reader" 278 284 .none),
  (291, ⟨.type "code", none, .fields #[.str "exprs" 734, .str "ExprParser.exprs" 735, .str "/claim/cut.py" 736, .int 236 0, .int 2 0, .int 0 0, .int 0 0, .int 3 0, .ref 286, .bool true, .int 181 0, .ref 287, .none, .ref 288, .ref 289, .ref 290, .int 740 0, .int 236 0, .str "/claim/cut.py" 741], #[]⟩),
  (292, fdO (meP 22 4) "ExprParser.exprs" [] .none "fdsolve.reader" 278 291 .none),
  (298, ⟨.type "code", none, .fields #[.str "atom" 743, .str "ExprParser.atom" 744, .str "/claim/cut.py" 745, .int 244 0, .int 1 0, .int 0 0, .int 0 0, .int 3 0, .ref 293, .bool true, .int 181 0, .ref 294, .none, .ref 295, .ref 296, .ref 297, .int 751 0, .int 244 0, .str "/claim/cut.py" 752], #[]⟩),
  (299, fdO (meP 22 5) "ExprParser.atom" [] .none "fdsolve.reader" 278 298 .none),
  (305, ⟨.type "code", none, .fields #[.str "string_node" 754, .str "ExprParser.string_node" 755, .str "/claim/cut.py" 756, .int 270 0, .int 3 0, .int 0 0, .int 0 0, .int 3 0, .ref 300, .bool true, .int 181 0, .ref 301, .none, .ref 302, .ref 303, .ref 304, .int 764 0, .int 270 0, .str "/claim/cut.py" 765], #[]⟩),
  (306, fdO (meP 22 6) "ExprParser.string_node" [] .none "fdsolve.reader" 278 305 .none),
  (312, ⟨.type "code", none, .fields #[.str "whole" 767, .str "ExprParser.whole" 768, .str "/claim/cut.py" 769, .int 282 0, .int 1 0, .int 0 0, .int 0 0, .int 3 0, .ref 307, .bool true, .int 181 0, .ref 308, .none, .ref 309, .ref 310, .ref 311, .int 772 0, .int 282 0, .str "/claim/cut.py" 773], #[]⟩),
  (313, fdO (meP 22 7) "ExprParser.whole" [] .none "fdsolve.reader" 278 312 .none),
  (319, ⟨.type "code", none, .fields #[.str "named" 775, .str "ExprParser.named" 776, .str "/claim/cut.py" 777, .int 290 0, .int 3 0, .int 0 0, .int 0 0, .int 3 0, .ref 314, .bool true, .int 181 0, .ref 315, .none, .ref 316, .ref 317, .ref 318, .int 784 0, .int 290 0, .str "/claim/cut.py" 785], #[]⟩),
  (320, fdO (meP 22 8) "ExprParser.named" [] .none "fdsolve.reader" 278 319 .none),
  (333, ⟨.type "code", none, .fields #[.str "begins_generator" 796, .str "ExprParser.begins_generator" 797, .str "/claim/cut.py" 798, .int 311 0, .int 1 0, .int 0 0, .int 0 0, .int 3 0, .ref 328, .bool true, .int 181 0, .ref 329, .none, .ref 330, .ref 331, .ref 332, .int 801 0, .int 311 0, .str "/claim/cut.py" 802], #[]⟩),
  (334, fdO (meP 22 10) "ExprParser.begins_generator" [] .none "fdsolve.reader" 278 333 .none),
  (399, ⟨.type "dict", none, .dict #[kE P "__module__" 689 (.str "fdsolve.reader" 278), kE P "__firstlineno__" 693 (.int 190 692), kE P "level" 700 (.ref 264), kE P "expr" 711 (.ref 271), kE P "put_together" 722 (.ref 278), kE P "operand" 733 (.ref 285), kE P "exprs" 742 (.ref 292), kE P "atom" 753 (.ref 299), kE P "string_node" 766 (.ref 306), kE P "whole" 774 (.ref 313), kE P "named" 786 (.ref 320), kE P "behind_bracket" 795 (.ref 327), kE P "begins_generator" 803 (.ref 334), kE P "generators" 814 (.ref 341), kE P "listed" 827 (.ref 348), kE P "rows" 837 (.ref 355), kE P "choice" 848 (.ref 362), kE P "let" 857 (.ref 369), kE P "inner_item" 866 (.ref 376), kE P "declaration" 877 (.ref 383), kE P "pass_notes" 884 (.ref 390), kE P "type_node" 893 (.ref 397), kE P "__static_attributes__" 894 (.ref 398), kE P "__doc__" 895 .none] 2, #[]⟩),
  (400, ⟨.type "type", none, .cls ⟨"ExprParser", [.ref 246], [.ref 400, .ref 246, .type "object"], 399, "ExprParser", true, [], [], false, none, false⟩, #[(some (.ref 251)), none, (some (.str "ExprParser" 682)), (some (.str "ExprParser" 690)), (some (.builtin "object.__new__")), (some (.bool true))]⟩),
  (408, ⟨.type "code", none, .fields #[.str "expr_of" 898, .str "expr_of" 899, .str "/claim/cut.py" 900, .int 419 0, .int 1 0, .int 0 0, .int 0 0, .int 3 0, .ref 403, .bool true, .int 181 0, .ref 404, .none, .ref 405, .ref 406, .ref 407, .int 902 0, .int 419 0, .str "/claim/cut.py" 903], #[]⟩),
  (409, fdO (topP 23) "expr_of" [] .none "fdsolve.reader" 278 408 .none),
  (410, ⟨.type "tuple", none, .seq #[.str " " 907, .str "\n" 908, .str "%)\"\n" 909, .str "/*(\"*/" 910, .str " /*\\(*/ " 911] 0, #[]⟩),
  (411, ⟨.type "tuple", none, .seq #[.str "a" 913, .str "(" 914, .str ")" 915, .str "%" 916, .str "/*" 917, .str "'" 918, .str "]" 919] 0, #[]⟩),
  (412, ⟨.type "tuple", none, .seq #[.str "\\\"" 921, .str "\"" 922] 0, #[]⟩),
  (413, ⟨.type "tuple", none, .seq #[.str "\\\\" 923, .str "\\" 924] 0, #[]⟩),
  (414, ⟨.type "tuple", none, .seq #[.str "\\n" 925, .str "\n" 926] 0, #[]⟩),
  (415, ⟨.type "tuple", none, .seq #[.str "\\t" 927, .str "\t" 928] 0, #[]⟩),
  (416, ⟨.type "tuple", none, .seq #[.ref 412, .ref 413, .ref 414, .ref 415] 0, #[]⟩),
  (417, ⟨.type "tuple", none, .seq #[.str "x" 930, .str "s2" 931, .str "show" 932] 0, #[]⟩),
  (423, ⟨.type "code", none, .fields #[.str "_law_dip" 934, .str "_law_dip" 935, .str "/claim/cut.py" 936, .int 426 0, .int 2 0, .int 0 0, .int 0 0, .int 3 0, .ref 418, .bool true, .int 181 0, .ref 419, .none, .ref 420, .ref 421, .ref 422, .int 940 0, .int 426 0, .str "/claim/cut.py" 941], #[]⟩),
  (424, fdO (topP 29) "_law_dip" [] .none "law_pq0377_01" 905 423 .none),
  (430, ⟨.type "code", none, .fields #[.str "_law_put" 943, .str "_law_put" 944, .str "/claim/cut.py" 945, .int 432 0, .int 2 0, .int 0 0, .int 0 0, .int 3 0, .ref 425, .bool true, .int 181 0, .ref 426, .none, .ref 427, .ref 428, .ref 429, .int 949 0, .int 432 0, .str "/claim/cut.py" 950], #[]⟩),
  (431, fdO (topP 30) "_law_put" [] .none "law_pq0377_01" 905 430 .none),
  (437, ⟨.type "code", none, .fields #[.str "_law_part" 952, .str "_law_part" 953, .str "/claim/cut.py" 954, .int 437 0, .int 2 0, .int 0 0, .int 0 0, .int 3 0, .ref 432, .bool true, .int 181 0, .ref 433, .none, .ref 434, .ref 435, .ref 436, .int 964 0, .int 437 0, .str "/claim/cut.py" 965], #[]⟩),
  (438, fdO (topP 31) "_law_part" [] .none "law_pq0377_01" 905 437 .none),
  (444, ⟨.type "code", none, .fields #[.str "_law_string" 967, .str "_law_string" 968, .str "/claim/cut.py" 969, .int 462 0, .int 2 0, .int 0 0, .int 0 0, .int 3 0, .ref 439, .bool true, .int 181 0, .ref 440, .none, .ref 441, .ref 442, .ref 443, .int 983 0, .int 462 0, .str "/claim/cut.py" 984], #[]⟩),
  (445, fdO (topP 32) "_law_string" [] .none "law_pq0377_01" 905 444 .none),
  (451, ⟨.type "code", none, .fields #[.str "_law_heard" 986, .str "_law_heard" 987, .str "/claim/cut.py" 988, .int 483 0, .int 1 0, .int 0 0, .int 0 0, .int 3 0, .ref 446, .bool true, .int 181 0, .ref 447, .none, .ref 448, .ref 449, .ref 450, .int 991 0, .int 483 0, .str "/claim/cut.py" 992], #[]⟩),
  (452, fdO (topP 33) "_law_heard" [] .none "law_pq0377_01" 905 451 .none)]
noncomputable def asK : List Addr := [2, 3, 15, 18, 29, 30, 39, 40, 41, 47, 58, 59, 68, 69, 80, 81, 84, 85, 86, 88, 89, 90, 94, 95, 103, 109, 110, 116, 117, 123, 124, 130, 131, 137, 138, 144, 145, 151, 152, 158, 159, 165, 166, 172, 173, 175, 176, 177, 178, 193, 194, 200, 201, 207, 208, 214, 215, 221, 222, 228, 229, 235, 236, 245, 246, 247, 248, 251, 263, 264, 270, 271, 277, 278, 284, 285, 291, 292, 298, 299, 305, 306, 312, 313, 319, 320, 333, 334, 399, 400, 408, 409, 410, 411, 412, 413, 414, 415, 416, 417, 423, 424, 430, 431, 437, 438, 444, 445, 451, 452]
theorem kk_as (P : Params) : asK = (KK P).map (·.1) := by kernel_rfl
noncomputable abbrev KH : Hook := kHook KK asK kk_as
end
section
open PySem PySem.W PyProof.Rows
set_option maxHeartbeats 0
noncomputable abbrev pw : Program := PySem.Challenge.rw_pq0377_01.row.prog
noncomputable def vw : Program := view pw [0, 1, 2, 3, 4, 5, 6, 8, 9, 12, 13, 14, 15, 16, 17, 18, 19, 20, 21, 22, 23, 24, 25, 26, 27, 28, 29, 30, 31, 32, 33, 34]
noncomputable abbrev loo : List Str := ["LEVELS", "BASES", "ESCAPES"]
noncomputable abbrev fol : String := "special-get-raises"
noncomputable abbrev xt (s : Shared) : Bool := xlAt vw [] s && recOk (RowW.records PySem.Challenge.rw_pq0377_01.row.toRowW) s
noncomputable def bt (l : List Obj) : Nat → Nat → Nat → BT
  | 0, _, _ => .nil
  | f + 1, a, b => match l[b]? with
    | some o => .node o (bt l f (2 * a) (a + b)) (bt l f (2 * a) (2 * a + b))
    | none => .nil
noncomputable def sT (P : Params) (os : OsState) : SharedT := ⟨bt (boot_heap P).objs.toList 7 1 0, (boot_heap P).objs.size, (boot_heap P).life, Array.mk [], boot_drawn, boot_toks, os⟩
theorem sT_abs (P : Params) (os : OsState) : (sT P os).abs = ⟨boot_heap P, Array.mk [], boot_drawn, boot_toks, os⟩ := by kernel_rfl
noncomputable def obT (s : SharedT) (a : Addr) : Option Obj := match Nat.blt a s.n with
  | true => alive ((s.tree.get a).getD default)
  | false => none
theorem obT_eq (s : SharedT) : s.abs.heap.get? = obT s := by
  funext a
  unfold obT
  cases e : Nat.blt a s.n with
  | false => exact abs_get_none fun q => by rw [show Nat.blt a s.n = true from Nat.ble_eq_true_of_le q] at e; cases e
  | true =>
    show (match (absHeap s.tree s.n s.life).objs[a]? with | some ⟨_, _, .freed, _⟩ => none | o => o) = _
    rw [absHeap_at, if_pos (show a < s.n from Nat.le_of_ble_eq_true e)]
    obtain ⟨c, d, dt, sl⟩ := (s.tree.get a).getD default
    cases dt <;> rfl
noncomputable abbrev seenT (w : World) (x : SharedT) := (staticsOk (importedModules pw.main.body) (boot_heap w.params) x.abs.heap && namesBound pw x.abs.heap && gensDone x.abs && laidKept (boot_heap w.params) x.abs.heap, openSeen vw loo (importedModules pw.main.body) xt true x.abs, asK.map (obT x))
noncomputable abbrev topSaid (w : World) (os : OsState) :=
  (segRunT treeTable pw w (boot_heap w.params).objs.size ((boot_heap w.params).nsMap mainGlobals "__annotations__") 0 7702 (sT w.params os) (topStub pw)).map fun x => seenT w x.2.1
theorem run_false (w : World) (os : OsState) : topSaid (w.withFollow fol false) os = some (true, openGood vw loo, KH.val (w.withFollow fol false)) := by
  unfold topSaid seenT
  rw [PySem.W.Fast.te10110043849684766642, PySem.W.Fast.te14364793385576792824, PySem.W.Fast.te4187177175401517315, PySem.W.Fast.te5923862056798008813]
  kernel_rfl
theorem run_true (w : World) (os : OsState) : topSaid (w.withFollow fol true) os = some (true, openGood vw loo, KH.val (w.withFollow fol true)) := by
  unfold topSaid seenT
  rw [PySem.W.Fast.te10110043849684766642, PySem.W.Fast.te14364793385576792824, PySem.W.Fast.te4187177175401517315, PySem.W.Fast.te5923862056798008813]
  kernel_rfl
end
section
open PySem PySem.W PyProof.Rows
set_option maxHeartbeats 0
theorem seg0 {p : Program} {w : World} {n₀ : Nat} {ann : Option Value} {f : Flow} {s' : Shared} {c : Code} {q : Pos} (n : Nat) : ∀ (s : Shared) (t : Thread), segRun treeTable p w n₀ ann 0 n s t = some (f, s', c, q) → topRun treeTable p w n₀ ann n s t = some s' := by
  induction n with
  | zero => intro s t h; cases h
  | succ n ih =>
    intro s t h
    have e : (endAt 0 t).isSome = through t := by
      obtain ⟨cur, code, pos, st⟩ := t
      cases st <;> cases cur <;> first | rfl | (rename_i x; cases x <;> rfl)
    unfold segRun at h
    unfold topRun
    rw [← e]
    cases he : endAt 0 t with
    | some g => rw [he] at h; cases h; rfl
    | none =>
      rw [he] at h
      dsimp only [Option.isSome] at h ⊢
      cases hk : stepOk n₀ ann t with
      | false => rw [hk] at h; cases h
      | true =>
        rw [hk] at h
        cases hs : step (denote treeTable) p w s t with
        | halt o s₂ => rw [hs] at h; cases h
        | go s₂ t₂ => rw [hs] at h; exact ih s₂ t₂ h
theorem run_gen {β : Type} {p : Program} {w : World} {n₀ N : Nat} {ann : Option Value} {S : SharedT} {s : Shared} {t : Thread} {F : SharedT → β} {v : β} (hs : S.abs = s) (h : (segRunT treeTable p w n₀ ann 0 N S t).map (fun x => F x.2.1) = some v) : ∃ s₁ : SharedT, topRun treeTable p w n₀ ann N s t = some s₁.abs ∧ F s₁ = v := by
  obtain ⟨⟨f, s', c, q⟩, h1, h2⟩ := Option.map_eq_some_iff.mp h
  exact ⟨s', hs ▸ seg0 _ _ _ (segRun_of h1), h2⟩
theorem left_gen {α : Type} {p : Program} {w : World} {N : Nat} {H : Heap} {gs : Array GenState} {d : Drawn} {k : Nat} {look : Shared → α} {G : α}
    (o : (fencedOpening treeTable p w N).map (fun s => (s.heap, s.gens, s.drawn, s.toks)) = some (H, gs, d, k)) (z : (H.isNs mainGlobals && gs.size == 0) = true)
    (r : ∀ os, ∃ s₁, topRun treeTable p w H.objs.size (H.nsMap mainGlobals "__annotations__") N ⟨H, gs, d, k, os⟩ (topStub p) = some s₁ ∧ (staticsOk (importedModules p.main.body) H s₁.heap && namesBound p s₁.heap && gensDone s₁ && laidKept H s₁.heap) = true ∧ look s₁ = G) :
    (openEnds treeTable p w N).map look = some G := by
  obtain ⟨⟨h, gs', d', k', os⟩, e, e'⟩ := Option.map_eq_some_iff.mp o
  obtain ⟨rfl, rfl, rfl, rfl⟩ : h = H ∧ gs' = gs ∧ d' = d ∧ k' = k := by simpa using e'
  obtain ⟨s₁, h1, h2, h3⟩ := r os
  unfold openEnds
  rw [e]
  show Option.map look (topFrom treeTable p w N ⟨h, gs', d', k', os⟩) = _
  unfold topFrom
  dsimp only
  rw [z, h1]
  show Option.map look (match staticsOk (importedModules p.main.body) h s₁.heap && namesBound p s₁.heap && gensDone s₁ && laidKept h s₁.heap with | true => some s₁ | false => none) = _
  rw [h2, ← h3]
  rfl
theorem boot_z (P : Params) : ((boot_heap P).isNs mainGlobals && (Array.mk [] : Array GenState).size == 0) = true := by kernel_rfl
theorem boot_pw : ∀ w : World, (fencedOpening treeTable pw w 7702).map (fun s => (s.heap, s.gens, s.drawn, s.toks)) = some (boot_heap w.params, Array.mk [], boot_drawn, boot_toks) :=
  boot_open (p := pw) (N := 7702) (by kernel_rfl) (by kernel_rfl) (fun s => by kernel_rfl)
theorem left_b (w : World) (b : Bool) : (openEnds treeTable pw (w.withFollow fol b) 7702).map (fun s => (openSeen vw loo (importedModules pw.main.body) xt true s, KH.obs s)) = some (openGood vw loo, KH.val (w.withFollow fol b)) := by
  have hr : ∀ os, topSaid (w.withFollow fol b) os = some (true, openGood vw loo, KH.val (w.withFollow fol b)) := by cases b; exact run_false w; exact run_true w
  generalize w.withFollow fol b = W at hr ⊢
  refine left_gen (boot_pw W) (boot_z _) fun os => ?_
  obtain ⟨s₁, h1, h2⟩ := run_gen (F := seenT W) (sT_abs W.params os) (hr os)
  obtain ⟨c, h2⟩ := Prod.mk.inj h2
  obtain ⟨g, o⟩ := Prod.mk.inj h2
  exact ⟨s₁.abs, h1, c, Prod.ext g ((congrArg (List.map · asK) (obT_eq s₁)).trans o)⟩
theorem left : LeftO pw vw loo xt KH.obs KH.val 7702 := fun w => by
  have e := left_b w (w.params.followText fol)
  rw [World.withFollow_self w fol] at e
  exact e
noncomputable abbrev lawDef : DefRec := ⟨"law", defParamsP (topP 34), defBodyP (topP 34), defScopeP (topP 34), ⟨488, 0, 500, 59⟩⟩
theorem ws : PySem.Challenge.rw_pq0377_01.wellSaid = true := by
  rw [PySem.W.Fast.te9446332074065402090]
  decide +kernel
theorem tw : pw.tablesWhole = true := by decide +kernel
theorem hd (call : WalkO vw loo (XL vw []) KH.says PySem.Challenge.rw_pq0377_01.row.toRowW lawDef [] fun f vs => PySem.call f vs) : PySem.Challenge.rw_pq0377_01.Holds :=
  holds_law ws fun said => by
    refine holds_open (q := vw) (loose := loo) (Xt := xt) (XP := XL vw []) (Yf := KH.obs) (Ya := KH.val) (YP := KH.says) (d := lawDef) (kwd := []) (N := 7702) left KH.of KH.keeps (fun s e => xl_of s (Bool.and_eq_true_iff.mp e).1) XL.keeps (by kernel_rfl) (by kernel_rfl) (by kernel_rfl) (fun s e => recFacts_of (Bool.and_eq_true_iff.mp e).2) (by kernel_rfl) said (by decide +kernel) ⟨by kernel_rfl, by kernel_rfl, by kernel_rfl, by kernel_rfl, by kernel_rfl, tw⟩ ?_ call
    w_witness2
end
section
open PySem PySem.W PyProof.Rows PySem.Calls PySem.Spec
section
set_option genSizeOf false
set_option genInjectivity false
set_option genCtorIdx false
set_option bootstrap.genMatcherCode false
noncomputable abbrev LX := Nat.Internal.Linear.Expr
inductive LH where
  | n
  | c (k : Nat) (x y : LX) (r : LH)
noncomputable def LH.imp (t : Lean.RArray Nat) (h : LH) : Prop → Prop := h.rec (fun p => p) fun _ x y _ ih p => x.denote t ≤ y.denote t → ih p
noncomputable def LH.up (h : LH) : LX → LX := h.rec (fun e => e) fun k _ y _ ih e => ih (.add e (.mulL k y))
noncomputable def LH.lo (h : LH) : LX → LX := h.rec (fun e => e) fun k x _ _ ih e => ih (.add e (.mulL k x))
theorem LH.imp_mono {t : Lean.RArray Nat} (h : LH) : ∀ p q : Prop, (p → q) → h.imp t p → h.imp t q :=
  h.rec (fun p q f a => f a) fun k x y r ih p q f a b => ih p q f (a b)
theorem lh (t : Lean.RArray Nat) (h : LH) : ∀ (e f : LX), (Nat.Internal.Linear.ExprCnstr.mk false (h.up e) (h.lo f)).toNormPoly.isValid = true → h.imp t (e.denote t ≤ f.denote t) :=
  h.rec (fun e f a => of_eq_true (Nat.Internal.Linear.ExprCnstr.eq_true_of_isValid t _ a)) fun k x y r ih e f a b =>
    LH.imp_mono r _ _ (fun c => Nat.le_of_add_le_add_right (Nat.le_trans c (Nat.add_le_add_left (Nat.mul_le_mul_left k b) _))) (ih _ _ a)
theorem lhS (t : Lean.RArray Nat) (h : LH) (k : Nat) (e f : LX) (a : (Nat.Internal.Linear.ExprCnstr.mk false (h.up (.mulL (k + 1) e)) (h.lo (.mulL (k + 1) f))).toNormPoly.isValid = true) : h.imp t (e.denote t ≤ f.denote t) :=
  LH.imp_mono h _ _ (fun c => Nat.le_of_mul_le_mul_left c (Nat.succ_pos k)) (lh t h _ _ a)
noncomputable abbrev IX := Int.Internal.Linear.Expr
inductive LI where
  | n
  | c (k : Nat) (x y : IX) (r : LI)
noncomputable def LI.imp (t : Lean.RArray Int) (h : LI) : Prop → Prop := h.rec (fun p => p) fun _ x y _ ih p => x.denote t ≤ y.denote t → ih p
noncomputable def LI.up (h : LI) : IX → IX := h.rec (fun e => e) fun k _ y _ ih e => ih (.add e (.mulL k y))
noncomputable def LI.lo (h : LI) : IX → IX := h.rec (fun e => e) fun k x _ _ ih e => ih (.add e (.mulL k x))
theorem LI.imp_mono {t : Lean.RArray Int} (h : LI) : ∀ p q : Prop, (p → q) → h.imp t p → h.imp t q :=
  h.rec (fun p q f a => f a) fun k x y r ih p q f a b => ih p q f (a b)
theorem li (t : Lean.RArray Int) (h : LI) (p : Int.Internal.Linear.Poly) : ∀ (e f : IX), (Int.Internal.Linear.norm_eq_cert (.add (h.lo f) (.num 1)) (h.up e) p && p.isUnsatLe) = true → h.imp t (e.denote t ≤ f.denote t) :=
  h.rec (fun e f a => Int.not_lt.mp fun b => Int.Internal.Linear.le_unsat t p ((Bool.and_eq_true _ _).mp a).2 (Int.Internal.Linear.le_norm_expr t (.add f (.num 1)) e p ((Bool.and_eq_true _ _).mp a).1 b)) fun k x y r ih e f a b =>
    LI.imp_mono r _ _ (fun c => Int.le_of_add_le_add_right (Int.le_trans c (Int.add_le_add_left (Int.mul_le_mul_of_nonneg_left b (Int.natCast_nonneg k)) _))) (ih _ _ a)
theorem liS (t : Lean.RArray Int) (h : LI) (p : Int.Internal.Linear.Poly) (k : Nat) (e f : IX) (a : (Int.Internal.Linear.norm_eq_cert (.add (h.lo (.mulL (k + 1 : Nat) f)) (.num 1)) (h.up (.mulL (k + 1 : Nat) e)) p && p.isUnsatLe) = true) : h.imp t (e.denote t ≤ f.denote t) :=
  LI.imp_mono h _ _ (fun c => Int.le_of_mul_le_mul_left c (Int.natCast_pos.mpr (Nat.succ_pos k))) (li t h p _ _ a)
set_option genCtorIdx true
set_option genInjectivity true
theorem q1 {a b : Nat} (h : a = b) : a ≤ b := Nat.le_of_eq h
theorem q2 {a b : Nat} (h : a = b) : b ≤ a := Nat.le_of_eq h.symm
theorem qa {a b : Nat} (h : a ≤ b) (k : b ≤ a) : a = b := Nat.le_antisymm h k
theorem qz {a b : Nat} (h : a ≤ b) : (a : Int) ≤ b := Int.ofNat_le.mpr h
theorem qn {a b : Nat} (h : (a : Int) ≤ b) : a ≤ b := Int.ofNat_le.mp h
theorem q0 (a : Nat) : 0 ≤ (a : Int) := Int.natCast_nonneg a
noncomputable abbrev r2 {α : Type} (x0 x1 : α) : Lean.RArray α := (.branch 1 (.leaf x0) (.leaf x1))
noncomputable abbrev r3 {α : Type} (x0 x1 x2 : α) : Lean.RArray α := (.branch 1 (.leaf x0) (.branch 2 (.leaf x1) (.leaf x2)))
noncomputable abbrev r4 {α : Type} (x0 x1 x2 x3 : α) : Lean.RArray α := (.branch 2 (.branch 1 (.leaf x0) (.leaf x1)) (.branch 3 (.leaf x2) (.leaf x3)))
noncomputable abbrev r5 {α : Type} (x0 x1 x2 x3 x4 : α) : Lean.RArray α := (.branch 2 (.branch 1 (.leaf x0) (.leaf x1)) (.branch 3 (.leaf x2) (.branch 4 (.leaf x3) (.leaf x4))))
noncomputable abbrev r6 {α : Type} (x0 x1 x2 x3 x4 x5 : α) : Lean.RArray α := (.branch 3 (.branch 1 (.leaf x0) (.branch 2 (.leaf x1) (.leaf x2))) (.branch 4 (.leaf x3) (.branch 5 (.leaf x4) (.leaf x5))))
noncomputable abbrev r7 {α : Type} (x0 x1 x2 x3 x4 x5 x6 : α) : Lean.RArray α := (.branch 3 (.branch 1 (.leaf x0) (.branch 2 (.leaf x1) (.leaf x2))) (.branch 5 (.branch 4 (.leaf x3) (.leaf x4)) (.branch 6 (.leaf x5) (.leaf x6))))
noncomputable abbrev r8 {α : Type} (x0 x1 x2 x3 x4 x5 x6 x7 : α) : Lean.RArray α := (.branch 4 (.branch 2 (.branch 1 (.leaf x0) (.leaf x1)) (.branch 3 (.leaf x2) (.leaf x3))) (.branch 6 (.branch 5 (.leaf x4) (.leaf x5)) (.branch 7 (.leaf x6) (.leaf x7))))
noncomputable abbrev v0 : LX := .var 0
noncomputable abbrev w0 : IX := .var 0
noncomputable abbrev v1 : LX := .var 1
noncomputable abbrev w1 : IX := .var 1
noncomputable abbrev v2 : LX := .var 2
noncomputable abbrev w2 : IX := .var 2
noncomputable abbrev v3 : LX := .var 3
noncomputable abbrev w3 : IX := .var 3
noncomputable abbrev v4 : LX := .var 4
noncomputable abbrev w4 : IX := .var 4
noncomputable abbrev v5 : LX := .var 5
noncomputable abbrev w5 : IX := .var 5
noncomputable abbrev v6 : LX := .var 6
noncomputable abbrev w6 : IX := .var 6
noncomputable abbrev v7 : LX := .var 7
noncomputable abbrev w7 : IX := .var 7
noncomputable abbrev p : LX → LX → LX := .add
noncomputable abbrev z : IX → IX → IX := .add
theorem ar1 {a b : Nat} {c : Int} (h0 : 0 ≤ c) (h1 : c ≤ b) (h2 : a = b) : a - Int.toNat c ≤ Int.toNat (b - c) := (qn (li (r6 c b a ((a - Int.toNat c : Nat) : Int) ((Int.toNat c : Nat) : Int) ((Int.toNat (b - c) : Nat) : Int)) (.c 1 w2 w1 (.c 1 w0 w4 (.c 1 (z w3 w4) w2 (.c 1 (.sub w1 w0) w5 .n)))) (.num 1) w3 w5 rfl (qz (q1 h2)) (Int.le_of_eq (Int.toNat_of_nonneg (li (.leaf c) (.c 1 (.num 0) w0 .n) (.num 1) (.num 0) w0 rfl h0)).symm) (qz (Nat.le_of_eq (Nat.sub_add_cancel (qn (li (r4 c b a ((Int.toNat c : Nat) : Int)) (.c 1 w0 w1 (.c 1 w1 w2 (.c 1 w3 w0 .n))) (.num 1) w3 w2 rfl h1 (qz (q2 h2)) (Int.le_of_eq (Int.toNat_of_nonneg (li (.leaf c) (.c 1 (.num 0) w0 .n) (.num 1) (.num 0) w0 rfl h0)))))))) (Int.le_of_eq (Int.toNat_of_nonneg (li (r2 c b) (.c 1 w0 w1 .n) (.num 1) (.num 0) (.sub w1 w0) rfl h1)).symm)))
theorem ar2 {a b c d e : Nat} {f : Int} (h0 : f = d + a) (h1 : b ≤ c) (h2 : b = d + (a + e)) : 0 ≤ f - a ∧ f - a ≤ f ∧ f ≤ b ∧ (b : Int) ≤ c ∧ Int.toNat (f - a) + a ≤ b := ⟨(li (r3 f d a) (.c 1 (.num 0) w1 (.c 1 (z w1 w2) w0 .n)) (.num 1) (.num 0) (.sub w0 w2) rfl (q0 d) (Int.le_of_eq h0.symm)), ⟨(li (r2 f a) (.c 1 (.num 0) w1 .n) (.num 1) (.sub w0 w1) w0 rfl (q0 a)), ⟨(li (r5 f d a b e) (.c 1 w0 (z w1 w2) (.c 1 (.num 0) w4 (.c 1 (z w1 (z w2 w4)) w3 .n))) (.num 1) w0 w3 rfl (Int.le_of_eq h0) (q0 e) (qz (q2 h2))), ⟨(li (r2 b c) (.c 1 w0 w1 .n) (.num 1) w0 w1 rfl (qz h1)), (qn (li (r6 f d a b e ((Int.toNat (f - a) : Nat) : Int)) (.c 1 w0 (z w1 w2) (.c 1 (.num 0) w4 (.c 1 (z w1 (z w2 w4)) w3 (.c 1 w5 (.sub w0 w2) .n)))) (.num 1) (z w5 w2) w3 rfl (Int.le_of_eq h0) (q0 e) (qz (q2 h2)) (Int.le_of_eq (Int.toNat_of_nonneg (li (r3 f d a) (.c 1 (.num 0) w1 (.c 1 (z w1 w2) w0 .n)) (.num 1) (.num 0) (.sub w0 w2) rfl (q0 d) (Int.le_of_eq h0.symm))))))⟩⟩⟩⟩
theorem ar3 {a : Nat} : max (0 : Int) (min (-(1 : Int) + a) (a : Int)) = ((a - 1 : Nat) : Int) := by (first | lia | omega)
theorem ar4 {a b : Nat} {c d : Int} (h0 : 0 ≤ c) (h1 : c ≤ d) (h2 : c ≤ b) (h3 : ¬ (d ≤ b)) (h4 : a = b) : a - Int.toNat c ≤ Int.toNat (d - c) := (qn (li (r7 c d b a ((a - Int.toNat c : Nat) : Int) ((Int.toNat c : Nat) : Int) ((Int.toNat (d - c) : Nat) : Int)) (.c 1 (z w2 (.num 1)) w1 (.c 1 w3 w2 (.c 1 w0 w5 (.c 1 (z w4 w5) w3 (.c 1 (.sub w1 w0) w6 .n))))) (.num 2) w4 w6 rfl (Int.not_le.mp h3) (qz (q1 h4)) (Int.le_of_eq (Int.toNat_of_nonneg (li (.leaf c) (.c 1 (.num 0) w0 .n) (.num 1) (.num 0) w0 rfl h0)).symm) (qz (Nat.le_of_eq (Nat.sub_add_cancel (qn (li (r4 c b a ((Int.toNat c : Nat) : Int)) (.c 1 w0 w1 (.c 1 w1 w2 (.c 1 w3 w0 .n))) (.num 1) w3 w2 rfl h2 (qz (q2 h4)) (Int.le_of_eq (Int.toNat_of_nonneg (li (.leaf c) (.c 1 (.num 0) w0 .n) (.num 1) (.num 0) w0 rfl h0)))))))) (Int.le_of_eq (Int.toNat_of_nonneg (li (r2 c d) (.c 1 w0 w1 .n) (.num 1) (.num 0) (.sub w1 w0) rfl h1)).symm)))
theorem ar5 {a b : Nat} (h0 : b ≤ a) : a + 1 - (b + 1) < a + 1 - b := (lh (r4 b a (a + 1 - (b + 1)) (a + 1 - b)) (.c 1 (p v2 (p v0 (.num 1))) (p v1 (.num 1)) (.c 1 (p v1 (.num 1)) (p v3 v0) .n)) (p v2 (.num 1)) v3 rfl (Nat.le_of_eq (Nat.sub_add_cancel (lh (r2 b a) (.c 1 v0 v1 .n) (p v0 (.num 1)) (p v1 (.num 1)) rfl h0))) (Nat.le_of_eq (Nat.sub_add_cancel (lh (r2 b a) (.c 1 v0 v1 .n) v0 (p v1 (.num 1)) rfl h0)).symm))
theorem ar6 {a b c d : Nat} (h0 : b ≤ c) (h1 : c + d ≤ a) : a + 1 - b = c - b + (1 + (a - c)) := (qa (lh (r6 b c a (a + 1 - b) (c - b) (a - c)) (.c 1 (p v3 v0) (p v2 (.num 1)) (.c 1 v1 (p v4 v0) (.c 1 v2 (p v5 v1) .n))) v3 (p v4 (p (.num 1) v5)) rfl (Nat.le_of_eq (Nat.sub_add_cancel (lh (r4 b c d a) (.c 1 v0 v1 (.c 1 (p v1 v2) v3 .n)) v0 (p v3 (.num 1)) rfl h0 h1))) (Nat.le_of_eq (Nat.sub_add_cancel (lh (r2 b c) (.c 1 v0 v1 .n) v0 v1 rfl h0)).symm) (Nat.le_of_eq (Nat.sub_add_cancel (lh (r3 c d a) (.c 1 (p v0 v1) v2 .n) v0 v2 rfl h1)).symm)) (lh (r6 b c a (a + 1 - b) (c - b) (a - c)) (.c 1 (p v2 (.num 1)) (p v3 v0) (.c 1 (p v4 v0) v1 (.c 1 (p v5 v1) v2 .n))) (p v4 (p (.num 1) v5)) v3 rfl (Nat.le_of_eq (Nat.sub_add_cancel (lh (r4 b c d a) (.c 1 v0 v1 (.c 1 (p v1 v2) v3 .n)) v0 (p v3 (.num 1)) rfl h0 h1)).symm) (Nat.le_of_eq (Nat.sub_add_cancel (lh (r2 b c) (.c 1 v0 v1 .n) v0 v1 rfl h0))) (Nat.le_of_eq (Nat.sub_add_cancel (lh (r3 c d a) (.c 1 (p v0 v1) v2 .n) v0 v2 rfl h1)))))
theorem ar7 {a b : Nat} {c d : Int} (h0 : 0 ≤ c ∧ c ≤ d ∧ d ≤ a ∧ (a : Int) ≤ 1000000 ∧ Int.toNat c + b ≤ a) : c < 2 ^ 62 := (li (r3 c d a) (.c 1 w0 w1 (.c 1 w1 w2 (.c 1 w2 (.num 1000000) .n))) (.num 4611686018426387904) (z w0 (.num 1)) (.num 4611686018427387904) rfl h0.2.1 h0.2.2.1 h0.2.2.2.1)
theorem ar8 {a b c : Nat} {d e : Int} (h0 : 0 ≤ d ∧ d ≤ e ∧ e ≤ a ∧ (a : Int) ≤ b ∧ Int.toNat d + c ≤ a) : d = ((Int.toNat d : Nat) : Int) := (Int.le_antisymm (li (r2 d ((Int.toNat d : Nat) : Int)) (.c 1 w0 w1 .n) (.num 1) w0 w1 rfl (Int.le_of_eq (Int.toNat_of_nonneg (li (.leaf d) (.c 1 (.num 0) w0 .n) (.num 1) (.num 0) w0 rfl h0.1)).symm)) (li (r2 d ((Int.toNat d : Nat) : Int)) (.c 1 w1 w0 .n) (.num 1) w1 w0 rfl (Int.le_of_eq (Int.toNat_of_nonneg (li (.leaf d) (.c 1 (.num 0) w0 .n) (.num 1) (.num 0) w0 rfl h0.1)))))
theorem ar9 {a b c d : Nat} (h0 : b + c ≤ d) (h1 : d + 1 - a = b - a + (1 + (d - b))) : a + (b - a) = b := (Or.elim (Nat.le_total (d + 1) a) (fun s0 => (absurd (lh (r3 (d + 1 - a) (b - a) (d - b)) (.c 1 (p v1 (p (.num 1) v2)) v0 (.c 1 v0 (.num 0) .n)) (.num 1) (.num 0) rfl (q2 h1) (Nat.le_of_eq (Nat.sub_eq_zero_of_le (lh (r2 d a) (.c 1 (p v0 (.num 1)) v1 .n) (p v0 (.num 1)) v1 rfl s0)))) (Nat.not_succ_le_zero 0))) (fun s0 => (qa (lh (r6 b d (d + 1 - a) a (b - a) (d - b)) (.c 1 (p v4 (p (.num 1) v5)) v2 (.c 1 v1 (p v5 v0) (.c 1 (p v2 v3) (p v1 (.num 1)) .n))) (p v3 v4) v0 rfl (q2 h1) (Nat.le_of_eq (Nat.sub_add_cancel (lh (r3 b c d) (.c 1 (p v0 v1) v2 .n) v0 v2 rfl h0)).symm) (Nat.le_of_eq (Nat.sub_add_cancel (lh (r2 d a) (.c 1 v1 (p v0 (.num 1)) .n) v1 (p v0 (.num 1)) rfl s0)))) (lh (r6 b d (d + 1 - a) a (b - a) (d - b)) (.c 1 v2 (p v4 (p (.num 1) v5)) (.c 1 (p v5 v0) v1 (.c 1 (p v1 (.num 1)) (p v2 v3) .n))) v0 (p v3 v4) rfl (q1 h1) (Nat.le_of_eq (Nat.sub_add_cancel (lh (r3 b c d) (.c 1 (p v0 v1) v2 .n) v0 v2 rfl h0))) (Nat.le_of_eq (Nat.sub_add_cancel (lh (r2 d a) (.c 1 v1 (p v0 (.num 1)) .n) v1 (p v0 (.num 1)) rfl s0)).symm)))))
theorem ar10 {a b : Nat} {c : Int} (h0 : c = b + a) : Int.toNat (c - a) = b := (qa (qn (li (r4 c b a ((Int.toNat (c - a) : Nat) : Int)) (.c 1 w0 (z w1 w2) (.c 1 w3 (.sub w0 w2) .n)) (.num 1) w3 w1 rfl (Int.le_of_eq h0) (Int.le_of_eq (Int.toNat_of_nonneg (li (r3 c b a) (.c 1 (.num 0) w1 (.c 1 (z w1 w2) w0 .n)) (.num 1) (.num 0) (.sub w0 w2) rfl (q0 b) (Int.le_of_eq h0.symm)))))) (qn (li (r4 c b a ((Int.toNat (c - a) : Nat) : Int)) (.c 1 (z w1 w2) w0 (.c 1 (.sub w0 w2) w3 .n)) (.num 1) w1 w3 rfl (Int.le_of_eq h0.symm) (Int.le_of_eq (Int.toNat_of_nonneg (li (r3 c b a) (.c 1 (.num 0) w1 (.c 1 (z w1 w2) w0 .n)) (.num 1) (.num 0) (.sub w0 w2) rfl (q0 b) (Int.le_of_eq h0.symm))).symm))))
theorem ar11 {a b : Nat} (h0 : b + 2 ≤ a) : a = b + 2 + (a - (b + 2)) := (qa (lh (r3 b a (a - (b + 2))) (.c 1 v1 (p v2 (p v0 (.num 2))) .n) v1 (p (p v0 (.num 2)) v2) rfl (Nat.le_of_eq (Nat.sub_add_cancel (lh (r2 b a) (.c 1 (p v0 (.num 2)) v1 .n) (p v0 (.num 2)) v1 rfl h0)).symm)) (lh (r3 b a (a - (b + 2))) (.c 1 (p v2 (p v0 (.num 2))) v1 .n) (p (p v0 (.num 2)) v2) v1 rfl (Nat.le_of_eq (Nat.sub_add_cancel (lh (r2 b a) (.c 1 (p v0 (.num 2)) v1 .n) (p v0 (.num 2)) v1 rfl h0)))))
theorem ar12 {a : Nat} (h0 : ((97 ≤ a ∧ a ≤ 122 ∨ 65 ≤ a ∧ a ≤ 90) ∨ 48 ≤ a ∧ a ≤ 57) ∨ a = 95) : a ≠ 40 ∧ a ≠ 34 ∧ a ≠ 41 ∧ a ≠ 37 ∧ a ≠ 47 := by (first | lia | omega)
theorem ar13 {a b c d e f g : Nat} {h i : Int} (h0 : 0 ≤ h ∧ h ≤ i ∧ i ≤ c ∧ (c : Int) ≤ d ∧ Int.toNat h + e ≤ c) (h1 : i = a + 2 + f + 2 + g) (h2 : a + 2 + b < a + 2 + f) : a + 2 + b + 2 ≤ c := (qn (li (r6 i c a f g b) (.c 1 w0 w1 (.c 1 (.num 0) w4 (.c 1 (z (z (z (z w2 (.num 2)) w3) (.num 2)) w4) w0 (.c 1 (z (z (z w2 (.num 2)) w5) (.num 1)) (z (z w2 (.num 2)) w3) .n)))) (.num 2) (z (z (z w2 (.num 2)) w5) (.num 2)) w1 rfl h0.2.2.1 (q0 g) (Int.le_of_eq h1.symm) (qz h2)))
theorem ar14 {a b c : Nat} {d e : Int} (h0 : 0 ≤ d ∧ d ≤ e ∧ e ≤ a ∧ (a : Int) ≤ b ∧ Int.toNat d + c ≤ a) : a ≤ b := (qn (li (r2 a b) (.c 1 w0 w1 .n) (.num 1) w0 w1 rfl h0.2.2.2.1))
theorem ar15 {a b c d : Nat} (h0 : a + 2 + b + 2 + c ≤ d) : a + 2 + b + 2 ≤ min (a + 2 + b + 2 + c) d := (Nat.le_min.mpr ⟨(lh (r3 a b c) .n (p (p (p v0 (.num 2)) v1) (.num 2)) (p (p (p (p v0 (.num 2)) v1) (.num 2)) v2) rfl ), (lh (r4 a b c d) (.c 1 (p (p (p (p v0 (.num 2)) v1) (.num 2)) v2) v3 .n) (p (p (p v0 (.num 2)) v1) (.num 2)) v3 rfl h0)⟩)
theorem ar16 {a b c d e f : Nat} {g h : Int} (h0 : 0 ≤ g ∧ g ≤ h ∧ h ≤ d ∧ (d : Int) ≤ e ∧ Int.toNat g + f ≤ d) (h1 : h = a + 2 + b + 2 + c) : a + 2 + b + 2 + c ≤ d := (qn (li (r5 h d a b c) (.c 1 w0 w1 (.c 1 (z (z (z (z w2 (.num 2)) w3) (.num 2)) w4) w0 .n)) (.num 1) (z (z (z (z w2 (.num 2)) w3) (.num 2)) w4) w1 rfl h0.2.2.1 (Int.le_of_eq h1.symm)))
theorem ar17 {a b c d : Nat} (h0 : a ≤ b + 1 + 1 + (d + 2) + 1 + c + 2) : a ≤ b + (c + (d + 5)) + 2 := (lh (r4 a b d c) (.c 1 v0 (p (p (p (p (p (p v1 (.num 1)) (.num 1)) (p v2 (.num 2))) (.num 1)) v3) (.num 2)) .n) v0 (p (p v1 (p v3 (p v2 (.num 5)))) (.num 2)) rfl h0)
theorem ar18 {a : Nat} : Int.toNat (-(1 : Int) + a) = a - 1 := by (first | lia | omega)
theorem ar19 {a b c : Nat} (h0 : a ≤ 1 + (b + 2) + 1 + c + 2) (h1 : c ≤ 2 * (b + 5)) : a ≤ 20 + 3 * b := (lh (r3 a b c) (.c 1 v0 (p (p (p (p (.num 1) (p v1 (.num 2))) (.num 1)) v2) (.num 2)) (.c 1 v2 (.mulL 2 (p v1 (.num 5))) .n)) v0 (p (.num 20) (.mulL 3 v1)) rfl h0 h1)
theorem ar20 {a b : Nat} : a + b - a = b := (qa (lh (r3 (a + b - a) b a) (.c 1 (p v0 v2) (p v2 v1) .n) v0 v1 rfl (Nat.le_of_eq (Nat.sub_add_cancel (lh (r2 b a) .n v1 (p v1 v0) rfl )))) (lh (r3 (a + b - a) b a) (.c 1 (p v2 v1) (p v0 v2) .n) v1 v0 rfl (Nat.le_of_eq (Nat.sub_add_cancel (lh (r2 b a) .n v1 (p v1 v0) rfl )).symm)))
theorem ar21 {a b c : Nat} (h0 : b < c) : a + b - a < c := (lh (r4 b c (a + b - a) a) (.c 1 (p v0 (.num 1)) v1 (.c 1 (p v2 v3) (p v3 v0) .n)) (p v2 (.num 1)) v1 rfl h0 (Nat.le_of_eq (Nat.sub_add_cancel (lh (r2 b a) .n v1 (p v1 v0) rfl ))))
theorem ar22 {a b c d : Nat} (h0 : a ≤ c) (h1 : b ≤ d) : max a b ≤ max c d := (Nat.max_le.mpr ⟨(lh (r3 a c (max c d)) (.c 1 v0 v1 (.c 1 v1 v2 .n)) v0 v2 rfl h0 (Nat.le_max_left c d)), (lh (r3 b d (max c d)) (.c 1 v0 v1 (.c 1 v1 v2 .n)) v0 v2 rfl h1 (Nat.le_max_right c d))⟩)
theorem ar23 {a : Nat} (h0 : 97 ≤ a ∧ a ≤ 122 ∨ 65 ≤ a ∧ a ≤ 90) : (((¬ (a = 32) ∧ ¬ (a = 9)) ∧ ¬ (a = 13)) ∧ ¬ (a = 10)) ∧ ¬ (a = 37) ∧ ¬ (a = 47) := ⟨⟨⟨⟨(Or.elim h0 (fun s0 => (Nat.ne_of_gt (lhS (.leaf a) (.c 33 (.num 97) v0 .n) 96 (p (.num 32) (.num 1)) v0 rfl s0.1))) (fun s0 => (Nat.ne_of_gt (lhS (.leaf a) (.c 33 (.num 65) v0 .n) 64 (p (.num 32) (.num 1)) v0 rfl s0.1)))), (Or.elim h0 (fun s0 => (Nat.ne_of_gt (lhS (.leaf a) (.c 10 (.num 97) v0 .n) 96 (p (.num 9) (.num 1)) v0 rfl s0.1))) (fun s0 => (Nat.ne_of_gt (lhS (.leaf a) (.c 2 (.num 65) v0 .n) 12 (p (.num 9) (.num 1)) v0 rfl s0.1))))⟩, (Or.elim h0 (fun s0 => (Nat.ne_of_gt (lhS (.leaf a) (.c 14 (.num 97) v0 .n) 96 (p (.num 13) (.num 1)) v0 rfl s0.1))) (fun s0 => (Nat.ne_of_gt (lhS (.leaf a) (.c 14 (.num 65) v0 .n) 64 (p (.num 13) (.num 1)) v0 rfl s0.1))))⟩, (Or.elim h0 (fun s0 => (Nat.ne_of_gt (lhS (.leaf a) (.c 11 (.num 97) v0 .n) 96 (p (.num 10) (.num 1)) v0 rfl s0.1))) (fun s0 => (Nat.ne_of_gt (lhS (.leaf a) (.c 11 (.num 65) v0 .n) 64 (p (.num 10) (.num 1)) v0 rfl s0.1))))⟩, ⟨(Or.elim h0 (fun s0 => (Nat.ne_of_gt (lhS (.leaf a) (.c 38 (.num 97) v0 .n) 96 (p (.num 37) (.num 1)) v0 rfl s0.1))) (fun s0 => (Nat.ne_of_gt (lhS (.leaf a) (.c 38 (.num 65) v0 .n) 64 (p (.num 37) (.num 1)) v0 rfl s0.1)))), (Or.elim h0 (fun s0 => (Nat.ne_of_gt (lhS (.leaf a) (.c 48 (.num 97) v0 .n) 96 (p (.num 47) (.num 1)) v0 rfl s0.1))) (fun s0 => (Nat.ne_of_gt (lhS (.leaf a) (.c 48 (.num 65) v0 .n) 64 (p (.num 47) (.num 1)) v0 rfl s0.1))))⟩⟩
theorem ar24 {a b c : Nat} {d : Int} (h0 : d = a + 2 + b + 2 + c) : a + 1 + 1 + b + 2 = d - c := by (first | lia | omega)
theorem ar25 {a b c d : Nat} (h0 : a + c ≤ d) (h1 : b = min b c) : a + b ≤ min (a + c) d := (Nat.le_min.mpr ⟨(lh (r4 a c b (min b c)) (.c 1 v3 v1 (.c 1 v2 v3 .n)) (p v0 v2) (p v0 v1) rfl (Nat.min_le_right b c) (q1 h1)), (lh (r5 a c d b (min b c)) (.c 1 (p v0 v1) v2 (.c 1 v4 v1 (.c 1 v3 v4 .n))) (p v0 v3) v2 rfl h0 (Nat.min_le_right b c) (q1 h1))⟩)
theorem ar26 {a : Nat} (h0 : 6 ≤ a) : a = a - 1 + 1 := (qa (lh (r2 a (a - 1)) (.c 1 v0 (p v1 (.num 1)) .n) v0 (p v1 (.num 1)) rfl (Nat.le_of_eq (Nat.sub_add_cancel (lhS (.leaf a) (.c 1 (.num 6) v0 .n) 5 (.num 1) v0 rfl h0)).symm)) (lh (r2 a (a - 1)) (.c 1 (p v1 (.num 1)) v0 .n) (p v1 (.num 1)) v0 rfl (Nat.le_of_eq (Nat.sub_add_cancel (lhS (.leaf a) (.c 1 (.num 6) v0 .n) 5 (.num 1) v0 rfl h0)))))
theorem ar27 {a b c d e f g h : Nat} (h0 : a + g ≤ 800000) (h1 : g = 4 * h) (h2 : b ≤ 8) (h3 : c ≤ h) (h4 : e ≤ 2) (h5 : d ≤ 8) (h6 : f ≤ h) : a + (b + 1 + c + d + e + f) + 1 ≤ 900000 := (lhS (r8 a g h b c e d f) (.c 2 (p v0 v1) (.num 800000) (.c 1 (.mulL 4 v2) v1 (.c 2 v3 (.num 8) (.c 2 v4 v2 (.c 2 v5 (.num 2) (.c 2 v6 (.num 8) (.c 2 v7 v2 .n))))))) 1 (p (p v0 (p (p (p (p (p v3 (.num 1)) v4) v6) v5) v7)) (.num 1)) (.num 900000) rfl h0 (q2 h1) h2 h3 h4 h5 h6)
theorem ar28 {a b c d e f g h : Nat} (h0 : g = 4 * h) (h1 : 100 ≤ h) (h2 : a ≤ 8) (h3 : b ≤ h) (h4 : d ≤ 2) (h5 : c ≤ 8) (h6 : e ≤ h) (h7 : f ≤ 8) : a + (b + (c + (d + (e + (f + (0 + 1))))) + 1) ≤ g := (lhS (r8 g h a b d c e f) (.c 57 (.mulL 4 v1) v0 (.c 28 (.num 100) v1 (.c 100 v2 (.num 8) (.c 100 v3 v1 (.c 100 v4 (.num 2) (.c 100 v5 (.num 8) (.c 100 v6 v1 (.c 100 v7 (.num 8) .n)))))))) 99 (p v2 (p (p v3 (p v5 (p v4 (p v6 (p v7 (p (.num 0) (.num 1))))))) (.num 1))) v0 rfl (q2 h0) h1 h2 h3 h4 h5 h6 h7)
theorem ar29 {a b : Nat} (h0 : a ≤ b) : a ≤ b + 1 := (lh (r2 a b) (.c 1 v0 v1 .n) v0 (p v1 (.num 1)) rfl h0)
theorem ar30 {a : Nat} (h0 : 6 ≤ a) : a = a - 2 + 2 := by (first | lia | omega)
theorem ar31 {a : Nat} : max (0 : Int) (min (1 : Int) (a : Int)) = ((min 1 a : Nat) : Int) := by (first | lia | omega)
theorem ar32 {a b : Nat} (h0 : a + b ≤ 999990) : a ≤ 999990 := (lh (r2 a b) (.c 1 (p v0 v1) (.num 999990) .n) v0 (.num 999990) rfl h0)
theorem ar33 {a : Nat} {b : Int} (h0 : 0 < a) (h1 : b < a) : Int.toNat b < a := by (first | lia | omega)
theorem ar34 {a b c d e f g : Nat} (h0 : a + g ≤ 800000) (h1 : g = 4 * f) (h2 : 100 ≤ f) (h3 : b ≤ 8) (h4 : c ≤ f) (h5 : e ≤ 2) (h6 : d ≤ 8) : a + (b + 1 + c + d + e) + f ≤ 800000 := (lhS (r7 a g f b c e d) (.c 400 (p v0 v1) (.num 800000) (.c 219 (.mulL 4 v2) v1 (.c 76 (.num 100) v2 (.c 400 v3 (.num 8) (.c 400 v4 v2 (.c 400 v5 (.num 2) (.c 400 v6 (.num 8) .n))))))) 399 (p (p v0 (p (p (p (p v3 (.num 1)) v4) v6) v5)) v2) (.num 800000) rfl h0 (q2 h1) h2 h3 h4 h5 h6)
theorem ar35 {a b c d e : Nat} (h0 : c + 9 + 3 * d ≤ 800000) (h1 : e + d ≤ 3 * d) (h2 : a ≤ c + 9 + e) (h3 : b = 2) : a + b ≤ 1000000 := (lh (r5 c d e a b) (.c 1 (p (p v0 (.num 9)) (.mulL 3 v1)) (.num 800000) (.c 1 (p v2 v1) (.mulL 3 v1) (.c 1 v3 (p (p v0 (.num 9)) v2) (.c 1 v4 (.num 2) .n)))) (p v3 v4) (.num 1000000) rfl h0 h1 h2 (q1 h3))
theorem ar36 {a b c d e f g : Nat} (h0 : a + f ≤ 800000) (h1 : f = 4 * g) (h2 : c ≤ 4) (h3 : b ≤ 8) (h4 : d ≤ 8) (h5 : e ≤ g) : a + (b + c + d + 1 + e) + 1 ≤ 900000 := (lhS (r7 a f g c b d e) (.c 4 (p v0 v1) (.num 800000) (.c 1 (.mulL 4 v2) v1 (.c 4 v3 (.num 4) (.c 4 v4 (.num 8) (.c 4 v5 (.num 8) (.c 4 v6 v2 .n)))))) 3 (p (p v0 (p (p (p (p v4 v3) v5) (.num 1)) v6)) (.num 1)) (.num 900000) rfl h0 (q2 h1) h2 h3 h4 h5)
theorem ar37 {a b c d e f g : Nat} (h0 : b ≤ 8) (h1 : a + 9 + 3 * e ≤ 800000) (h2 : c ≤ f) (h3 : f + e ≤ 3 * e) (h4 : g + 12 ≤ e) (h5 : d ≤ g) : a + b + 1 + c + 2 + d + 1 ≤ 900000 := (lh (r7 b a e c f g d) (.c 1 v0 (.num 8) (.c 1 (p (p v1 (.num 9)) (.mulL 3 v2)) (.num 800000) (.c 1 v3 v4 (.c 1 (p v4 v2) (.mulL 3 v2) (.c 1 (p v5 (.num 12)) v2 (.c 1 v6 v5 .n)))))) (p (p (p (p (p (p v1 v0) (.num 1)) v3) (.num 2)) v6) (.num 1)) (.num 900000) rfl h0 h1 h2 h3 h4 h5)
theorem ar38 {a : Int} (h0 : 0 ≤ a) : a = ((Int.toNat a : Nat) : Int) := by (first | lia | omega)
theorem ar39 {a b c d e : Nat} (h0 : c + 9 + 3 * d ≤ 800000) (h1 : e + d ≤ 3 * d) (h2 : a ≤ c + 9 + e) (h3 : b ≤ 2) : a + b ≤ 1000000 := (lh (r5 c d e a b) (.c 1 (p (p v0 (.num 9)) (.mulL 3 v1)) (.num 800000) (.c 1 (p v2 v1) (.mulL 3 v1) (.c 1 v3 (p (p v0 (.num 9)) v2) (.c 1 v4 (.num 2) .n)))) (p v3 v4) (.num 1000000) rfl h0 h1 h2 h3)
theorem ar40 {a b c d e f g : Nat} (h0 : f = 4 * g) (h1 : 100 ≤ g) (h2 : b ≤ 4) (h3 : a ≤ 8) (h4 : c ≤ 8) (h5 : d ≤ g) (h6 : e ≤ 8) : a + (b + (c + (d + (e + (0 + 1)) + 1))) ≤ f := (lhS (r7 f g b a c d e) (.c 13 (.mulL 4 v1) v0 (.c 12 (.num 100) v1 (.c 40 v2 (.num 4) (.c 40 v3 (.num 8) (.c 40 v4 (.num 8) (.c 40 v5 v1 (.c 40 v6 (.num 8) .n))))))) 39 (p v3 (p v2 (p v4 (p (p v5 (p v6 (p (.num 0) (.num 1)))) (.num 1))))) v0 rfl (q2 h0) h1 h2 h3 h4 h5 h6)
theorem ar41 {a b c d : Nat} (h0 : 1 ≤ d) (h1 : c = 4 * d) (h2 : a ≤ 20 * d) (h3 : b ≤ 20 * d) : 1 + (a + b) ≤ 20 * c := (lhS (r4 d c a b) (.c 4 (.num 1) v0 (.c 41 (.mulL 4 v0) v1 (.c 4 v2 (.mulL 20 v0) (.c 4 v3 (.mulL 20 v0) .n)))) 3 (p (.num 1) (p v2 v3)) (.mulL 20 v1) rfl h0 (q2 h1) h2 h3)
theorem ar42 {a b c d e f : Nat} (h0 : e ≤ b + c) (h1 : f + 12 ≤ d) (h2 : a ≤ e + 1 + f) : a + 1 ≤ b + (c + d) := (lh (r6 e b c f d a) (.c 1 v0 (p v1 v2) (.c 1 (p v3 (.num 12)) v4 (.c 1 v5 (p (p v0 (.num 1)) v3) .n))) (p v5 (.num 1)) (p v1 (p v2 v4)) rfl h0 h1 h2)
theorem ar43 {a b c d e f : Nat} (h0 : b ≤ c + d) (h1 : c + 3 * e ≤ 900000) (h2 : d + e ≤ 3 * e) (h3 : f + 12 ≤ e) (h4 : a ≤ b + 1 + f) : a ≤ 1000000 := (lh (r6 b c d e f a) (.c 1 v0 (p v1 v2) (.c 1 (p v1 (.mulL 3 v3)) (.num 900000) (.c 1 (p v2 v3) (.mulL 3 v3) (.c 1 (p v4 (.num 12)) v3 (.c 1 v5 (p (p v0 (.num 1)) v4) .n))))) v5 (.num 1000000) rfl h0 h1 h2 h3 h4)
theorem ar44 {a b c d e f : Nat} (h0 : a ≤ d) (h1 : f + 12 ≤ e) (h2 : b ≤ f) (h3 : c ≤ 8) : a + b + c + 3 ≤ d + e := (lhS (r6 a d f e b c) (.c 8 v0 v1 (.c 8 (p v2 (.num 12)) v3 (.c 8 v4 v2 (.c 9 v5 (.num 8) .n)))) 7 (p (p (p v0 v4) v5) (.num 3)) (p v1 v3) rfl h0 h1 h2 h3)
theorem ar45 {a b c : Nat} (h0 : a + (b + (c + 1) + 1 + 1) ≤ 999990) : a + 2 ≤ 1000000 := (lh (r3 a b c) (.c 1 (p v0 (p (p (p v1 (p v2 (.num 1))) (.num 1)) (.num 1))) (.num 999990) .n) (p v0 (.num 2)) (.num 1000000) rfl h0)
theorem ar46 {a : Nat} {b : Int} : b - (a + 1) < b := (li (r2 b a) (.c 1 (.num 0) w1 .n) (.num 1) (z (.sub w0 (z w1 (.num 1))) (.num 1)) w0 rfl (q0 a))
theorem ar47 {a b c : Nat} (h0 : a + (c + (b + 1) + 1 + 1) ≤ 999990) : a + 2 + b ≤ 999990 := (lh (r3 a c b) (.c 1 (p v0 (p (p (p v1 (p v2 (.num 1))) (.num 1)) (.num 1))) (.num 999990) .n) (p (p v0 (.num 2)) v2) (.num 999990) rfl h0)
theorem ar48 {a b c d e f g : Nat} (h0 : g + 1 + 1 = f - e) : a = b → c = d → e + 2 ≤ f := (fun k0 => (fun k1 => (Or.elim (Nat.le_total f e) (fun s2 => (absurd (lhS (r2 g (f - e)) (.c 1 (p (p v0 (.num 1)) (.num 1)) v1 (.c 1 v1 (.num 0) .n)) 1 (.num 1) (.num 0) rfl (q1 h0) (Nat.le_of_eq (Nat.sub_eq_zero_of_le (lh (r2 f e) (.c 1 v0 v1 .n) v0 v1 rfl s2)))) (Nat.not_succ_le_zero 0))) (fun s2 => (lh (r4 g (f - e) f e) (.c 1 (p (p v0 (.num 1)) (.num 1)) v1 (.c 1 (p v1 v3) v2 .n)) (p v3 (.num 2)) v2 rfl (q1 h0) (Nat.le_of_eq (Nat.sub_add_cancel (lh (r2 f e) (.c 1 v1 v0 .n) v1 v0 rfl s2))))))))
theorem ar49 {a b c d : Nat} (h0 : b + 9 + 3 * c ≤ 800000) (h1 : d + c ≤ 3 * c) (h2 : a ≤ b + 9 + d) : a + 2 ≤ 1000000 := (lh (r4 b c d a) (.c 1 (p (p v0 (.num 9)) (.mulL 3 v1)) (.num 800000) (.c 1 (p v2 v1) (.mulL 3 v1) (.c 1 v3 (p (p v0 (.num 9)) v2) .n))) (p v3 (.num 2)) (.num 1000000) rfl h0 h1 h2)
theorem ar50 {a b c : Nat} (h0 : a + (b + 1) < c) : a + 1 + b < c := (lh (r3 a b c) (.c 1 (p (p v0 (p v1 (.num 1))) (.num 1)) v2 .n) (p (p (p v0 (.num 1)) v1) (.num 1)) v2 rfl h0)
theorem ar51 {a b c d e f : Nat} (h0 : b ≤ 8) (h1 : a + 9 + 3 * e ≤ 800000) (h2 : c ≤ f) (h3 : f + e ≤ 3 * e) (h4 : d + 12 ≤ e) : a + b + 1 + c + 2 + d ≤ 800000 := (lhS (r6 b a e c f d) (.c 9 v0 (.num 8) (.c 4 (p (p v1 (.num 9)) (.mulL 3 v2)) (.num 800000) (.c 4 v3 v4 (.c 4 (p v4 v2) (.mulL 3 v2) (.c 4 (p v5 (.num 12)) v2 .n))))) 3 (p (p (p (p (p v1 v0) (.num 1)) v3) (.num 2)) v5) (.num 800000) rfl h0 h1 h2 h3 h4)
theorem ar52 {a b c d e f : Nat} (h0 : a + f ≤ 800000) (h1 : f = 4 * e) (h2 : 100 ≤ e) (h3 : c ≤ 4) (h4 : b ≤ 8) (h5 : d ≤ 8) : a + (b + c + d + 1) + e ≤ 800000 := (lhS (r6 a f e c b d) (.c 400 (p v0 v1) (.num 800000) (.c 121 (.mulL 4 v2) v1 (.c 84 (.num 100) v2 (.c 400 v3 (.num 4) (.c 400 v4 (.num 8) (.c 400 v5 (.num 8) .n)))))) 399 (p (p v0 (p (p (p v4 v3) v5) (.num 1))) v2) (.num 800000) rfl h0 (q2 h1) h2 h3 h4 h5)
theorem ar53 {a b c : Nat} (h0 : b + (c + (a + 1) + 1 + 1) ≤ 999990) : a ≤ 999990 := (lh (r3 b c a) (.c 1 (p v0 (p (p (p v1 (p v2 (.num 1))) (.num 1)) (.num 1))) (.num 999990) .n) v2 (.num 999990) rfl h0)
theorem ar54 {a : Nat} (h0 : 48 ≤ a ∧ a ≤ 57) : (((¬ (a = 32) ∧ ¬ (a = 9)) ∧ ¬ (a = 13)) ∧ ¬ (a = 10)) ∧ ¬ (a = 37) ∧ ¬ (a = 47) := by (first | lia | omega)
theorem ar55 {a b c d e : Nat} {f g : Int} (h0 : c = a + d) (h1 : 0 ≤ f ∧ f ≤ g ∧ g ≤ e ∧ (e : Int) ≤ b ∧ Int.toNat f + c ≤ e) : a ≤ b := (qn (li (r6 c a d e b ((Int.toNat f : Nat) : Int)) (.c 1 (.num 0) w2 (.c 1 (z w1 w2) w0 (.c 1 w3 w4 (.c 1 (.num 0) w5 (.c 1 (z w5 w0) w3 .n))))) (.num 1) w1 w4 rfl (q0 d) (qz (q2 h0)) h1.2.2.2.1 (q0 (Int.toNat f)) (qz h1.2.2.2.2)))
theorem ar56 {a b c d e f : Nat} (h0 : a + e ≤ 800000) (h1 : e = 4 * f) (h2 : b ≤ 8) (h3 : c ≤ f) (h4 : d ≤ 2) : a + (b + 1 + c) + d ≤ 900000 := (lhS (r6 a e f b c d) (.c 4 (p v0 v1) (.num 800000) (.c 1 (.mulL 4 v2) v1 (.c 4 v3 (.num 8) (.c 4 v4 v2 (.c 4 v5 (.num 2) .n))))) 3 (p (p v0 (p (p v3 (.num 1)) v4)) v5) (.num 900000) rfl h0 (q2 h1) h2 h3 h4)
theorem ar57 {a b c d : Nat} {e f : Int} (h0 : 0 ≤ e ∧ e ≤ f ∧ f ≤ c ∧ (c : Int) ≤ d ∧ Int.toNat e + b ≤ c) (h1 : e = a) : a + b ≤ c := (qn (li (r5 e c ((Int.toNat e : Nat) : Int) b a) (.c 1 (z w2 w3) w1 (.c 1 w4 w0 (.c 1 w0 w2 .n))) (.num 1) (z w4 w3) w1 rfl (qz h0.2.2.2.2) (Int.le_of_eq h1.symm) (Int.le_of_eq (Int.toNat_of_nonneg (li (.leaf e) (.c 1 (.num 0) w0 .n) (.num 1) (.num 0) w0 rfl h0.1)).symm)))
theorem ar58 {a b c d e : Nat} (h0 : a ≤ c + d) (h1 : c + 3 * e ≤ 900000) (h2 : d + e ≤ 3 * e) (h3 : b + 12 ≤ e) : a + 1 + b ≤ 900000 := (lhS (r5 a c d e b) (.c 900011 v0 (p v1 v2) (.c 900011 (p v1 (.mulL 3 v3)) (.num 900000) (.c 900011 (p v2 v3) (.mulL 3 v3) (.c 900000 (p v4 (.num 12)) v3 .n)))) 899999 (p (p v0 (.num 1)) v4) (.num 900000) rfl h0 h1 h2 h3)
theorem ar59 {a b c : Nat} (h0 : 1 ≤ c) (h1 : a ≤ 4 * c) (h2 : b ≤ 4 * c) : a + b + 3 ≤ 4 * (4 * c) := (lh (r3 c a b) (.c 3 (.num 1) v0 (.c 1 v1 (.mulL 4 v0) (.c 1 v2 (.mulL 4 v0) .n))) (p (p v1 v2) (.num 3)) (.mulL 4 (.mulL 4 v0)) rfl h0 h1 h2)
theorem ar60 {a b c d e : Nat} (h0 : b + c ≤ 900000) (h1 : c = 4 * d) (h2 : 100 ≤ d) (h3 : e ≤ b + 1 + 1 + d) (h4 : a ≤ e + 1 + 1 + d) : a ≤ 1000000 := (lh (r5 b c d e a) (.c 1 (p v0 v1) (.num 900000) (.c 1 (.mulL 4 v2) v1 (.c 2 (.num 100) v2 (.c 1 v3 (p (p (p v0 (.num 1)) (.num 1)) v2) (.c 1 v4 (p (p (p v3 (.num 1)) (.num 1)) v2) .n))))) v4 (.num 1000000) rfl h0 (q2 h1) h2 h3 h4)
theorem ar61 {a b : Nat} {c : Int} (h0 : c + (((max b a : Nat) : Int) + 1) ≤ 38) : c + a ≤ 37 := by (first | lia | omega)
theorem ar62 {a b : Nat} {c : Int} (h0 : c + (((max a b : Nat) : Int) + 1) ≤ 38) : c + a ≤ 37 := by (first | lia | omega)
theorem ar63 {a : Nat} (h0 : 48 ≤ a ∧ a ≤ 57) : a - 48 < 10 := (lh (r2 a (a - 48)) (.c 1 v0 (.num 57) (.c 1 (p v1 (.num 48)) v0 .n)) (p v1 (.num 1)) (.num 10) rfl h0.2 (Nat.le_of_eq (Nat.sub_add_cancel (lh (.leaf a) (.c 1 (.num 48) v0 .n) (.num 48) v0 rfl h0.1))))
theorem ar64 {a : Nat} (h0 : 97 ≤ a ∧ a ≤ 122) : a - 97 < 26 := (lh (r2 a (a - 97)) (.c 1 v0 (.num 122) (.c 1 (p v1 (.num 97)) v0 .n)) (p v1 (.num 1)) (.num 26) rfl h0.2 (Nat.le_of_eq (Nat.sub_add_cancel (lh (.leaf a) (.c 1 (.num 97) v0 .n) (.num 97) v0 rfl h0.1))))
theorem ar65 {a : Nat} (h0 : 65 ≤ a ∧ a ≤ 90) : a - 65 < 26 := (lh (r2 a (a - 65)) (.c 1 v0 (.num 90) (.c 1 (p v1 (.num 65)) v0 .n)) (p v1 (.num 1)) (.num 26) rfl h0.2 (Nat.le_of_eq (Nat.sub_add_cancel (lh (.leaf a) (.c 1 (.num 65) v0 .n) (.num 65) v0 rfl h0.1))))
theorem ar66 {a b c d e : Nat} (h0 : c = 4 * d) (h1 : 100 ≤ d) (h2 : e ≤ b + 1 + 1 + d) (h3 : a ≤ e + 1 + 1 + d) : a + 1 ≤ b + c := (lhS (r5 c d e b a) (.c 41 (.mulL 4 v1) v0 (.c 4 (.num 100) v1 (.c 80 v2 (p (p (p v3 (.num 1)) (.num 1)) v1) (.c 80 v4 (p (p (p v2 (.num 1)) (.num 1)) v1) .n)))) 79 (p v4 (.num 1)) (p v3 v0) rfl (q2 h0) h1 h2 h3)
theorem ar67 {a b c d e : Nat} (h0 : c + 9 + 3 * d ≤ 800000) (h1 : a ≤ e) (h2 : e + d ≤ 3 * d) (h3 : b = 1) : a + b ≤ 1000000 := (lhS (r5 c d a e b) (.c 2 (p (p v0 (.num 9)) (.mulL 3 v1)) (.num 800000) (.c 3 v2 v3 (.c 3 (p v3 v1) (.mulL 3 v1) (.c 3 v4 (.num 1) .n)))) 2 (p v2 v4) (.num 1000000) rfl h0 h1 h2 (q1 h3))
theorem ar68 {a : Nat} (h0 : 48 ≤ a ∧ a ≤ 57) : a - 48 + 48 = a := (qa (lh (r2 a (a - 48)) (.c 1 (p v1 (.num 48)) v0 .n) (p v1 (.num 48)) v0 rfl (Nat.le_of_eq (Nat.sub_add_cancel (lh (.leaf a) (.c 1 (.num 48) v0 .n) (.num 48) v0 rfl h0.1)))) (lh (r2 a (a - 48)) (.c 1 v0 (p v1 (.num 48)) .n) v0 (p v1 (.num 48)) rfl (Nat.le_of_eq (Nat.sub_add_cancel (lh (.leaf a) (.c 1 (.num 48) v0 .n) (.num 48) v0 rfl h0.1)).symm)))
theorem ar69 {a : Nat} (h0 : 97 ≤ a ∧ a ≤ 122) : a - 97 + 97 = a := (qa (lh (r2 a (a - 97)) (.c 1 (p v1 (.num 97)) v0 .n) (p v1 (.num 97)) v0 rfl (Nat.le_of_eq (Nat.sub_add_cancel (lh (.leaf a) (.c 1 (.num 97) v0 .n) (.num 97) v0 rfl h0.1)))) (lh (r2 a (a - 97)) (.c 1 v0 (p v1 (.num 97)) .n) v0 (p v1 (.num 97)) rfl (Nat.le_of_eq (Nat.sub_add_cancel (lh (.leaf a) (.c 1 (.num 97) v0 .n) (.num 97) v0 rfl h0.1)).symm)))
theorem ar70 {a : Nat} (h0 : 65 ≤ a ∧ a ≤ 90) : a - 65 + 65 = a := (qa (lh (r2 a (a - 65)) (.c 1 (p v1 (.num 65)) v0 .n) (p v1 (.num 65)) v0 rfl (Nat.le_of_eq (Nat.sub_add_cancel (lh (.leaf a) (.c 1 (.num 65) v0 .n) (.num 65) v0 rfl h0.1)))) (lh (r2 a (a - 65)) (.c 1 v0 (p v1 (.num 65)) .n) v0 (p v1 (.num 65)) rfl (Nat.le_of_eq (Nat.sub_add_cancel (lh (.leaf a) (.c 1 (.num 65) v0 .n) (.num 65) v0 rfl h0.1)).symm)))
theorem ar71 {a : Nat} {b : Int} (h0 : 0 ≤ b) (h1 : Int.toNat b < a) : 0 ≤ b ∧ b < a := ⟨(li (.leaf b) (.c 1 (.num 0) w0 .n) (.num 1) (.num 0) w0 rfl h0), (li (r3 b ((Int.toNat b : Nat) : Int) a) (.c 1 (z w1 (.num 1)) w2 (.c 1 w0 w1 .n)) (.num 1) (z w0 (.num 1)) w2 rfl (qz h1) (Int.le_of_eq (Int.toNat_of_nonneg (li (.leaf b) (.c 1 (.num 0) w0 .n) (.num 1) (.num 0) w0 rfl h0)).symm))⟩
theorem ar72 {a : Nat} {b : Int} (h0 : ¬ (b ≤ a)) : max (0 : Int) (min b (a : Int)) = a := by (first | lia | omega)
theorem ar73 {a b c : Nat} (h0 : 1 ≤ c) (h1 : b = 4 * c) (h2 : a ≤ 20 * c) : 1 + (1 + a) ≤ 20 * b := (lhS (r3 c b a) (.c 4 (.num 1) v0 (.c 11 (.mulL 4 v0) v1 (.c 2 v2 (.mulL 20 v0) .n))) 1 (p (.num 1) (p (.num 1) v2)) (.mulL 20 v1) rfl h0 (q2 h1) h2)
theorem ar74 {a b c : Nat} (h0 : c ≤ b) (h1 : c ≤ a ∧ a < c + (b - c)) : a < b := (lh (r4 c b a (b - c)) (.c 1 (p v2 (.num 1)) (p v0 v3) (.c 1 (p v3 v0) v1 .n)) (p v2 (.num 1)) v1 rfl h1.2 (Nat.le_of_eq (Nat.sub_add_cancel (lh (r2 c b) (.c 1 v0 v1 .n) v0 v1 rfl h0))))
theorem ar75 {a b c d : Nat} (h0 : 12 ≤ d) (h1 : a ≤ b + c) : a + 1 + 1 ≤ b + (c + d) := (lhS (r4 d a b c) (.c 1 (.num 12) v0 (.c 6 v1 (p v2 v3) .n)) 5 (p (p v1 (.num 1)) (.num 1)) (p v2 (p v3 v0)) rfl h0 h1)
theorem ar76 {a b c d e : Nat} (h0 : c + 9 + 3 * d ≤ 800000) (h1 : a ≤ e) (h2 : e + d ≤ 3 * d) (h3 : b ≤ 2) : a + b ≤ 1000000 := (lhS (r5 c d a e b) (.c 2 (p (p v0 (.num 9)) (.mulL 3 v1)) (.num 800000) (.c 3 v2 v3 (.c 3 (p v3 v1) (.mulL 3 v1) (.c 3 v4 (.num 2) .n)))) 2 (p v2 v4) (.num 1000000) rfl h0 h1 h2 h3)
theorem ar77 {a b c : Nat} (h0 : a ≤ 20 * c + 10) (h1 : b ≤ 20 * (c + 1) + 10) : max (a + 10) b ≤ 20 * (c + 1) + 10 := (Nat.max_le.mpr ⟨(lh (r2 a c) (.c 1 v0 (p (.mulL 20 v1) (.num 10)) .n) (p v0 (.num 10)) (p (.mulL 20 (p v1 (.num 1))) (.num 10)) rfl h0), (lh (r2 c b) (.c 1 v1 (p (.mulL 20 (p v0 (.num 1))) (.num 10)) .n) v1 (p (.mulL 20 (p v0 (.num 1))) (.num 10)) rfl h1)⟩)
theorem ar78 {a b c d : Nat} (h0 : c + a ≤ min (c + b) d) : a ≤ b := (lh (r4 c a (min (c + b) d) b) (.c 1 v2 (p v0 v3) (.c 1 (p v0 v1) v2 .n)) v1 v3 rfl (Nat.min_le_left (c + b) d) h0)
theorem ar79 {a b c : Nat} (h0 : b < c) (h1 : c ≤ a) : a ≠ b := (Nat.ne_of_gt (lh (r3 b c a) (.c 1 (p v0 (.num 1)) v1 (.c 1 v1 v2 .n)) (p v0 (.num 1)) v2 rfl h0 h1))
theorem ar80 {a : Nat} (h0 : a + 1 ≤ 6) : a - 1 ≤ 6 := (lh (r2 a (a - 1)) (.c 1 (p v0 (.num 1)) (.num 6) (.c 1 v1 v0 .n)) v1 (.num 6) rfl h0 (Nat.sub_le a 1))
theorem ar81 {a b c d : Nat} (h0 : c + d ≤ 900000) (h1 : d = 4 * b) (h2 : 100 ≤ b) (h3 : a ≤ c + 1 + 1 + b) : a + 1 + 1 + b ≤ 900000 := (lh (r4 c d b a) (.c 1 (p v0 v1) (.num 900000) (.c 1 (.mulL 4 v2) v1 (.c 2 (.num 100) v2 (.c 1 v3 (p (p (p v0 (.num 1)) (.num 1)) v2) .n)))) (p (p (p v3 (.num 1)) (.num 1)) v2) (.num 900000) rfl h0 (q2 h1) h2 h3)
theorem ar82 {a b c d : Nat} (h0 : a ≤ b + c) (h1 : b + 3 * d ≤ 900000) (h2 : c + d ≤ 3 * d) : a + 1 ≤ 1000000 := (lh (r4 a b c d) (.c 1 v0 (p v1 v2) (.c 1 (p v1 (.mulL 3 v3)) (.num 900000) (.c 1 (p v2 v3) (.mulL 3 v3) .n))) (p v0 (.num 1)) (.num 1000000) rfl h0 h1 h2)
theorem ar83 {a b c d e : Nat} (h0 : a + d ≤ 800000) (h1 : 20 + 3 * e ≤ d) (h2 : b ≤ 8) (h3 : c ≤ 3 * e) : a + b + 1 + c + 1 ≤ 1000000 := (lh (r5 a d e b c) (.c 1 (p v0 v1) (.num 800000) (.c 1 (p (.num 20) (.mulL 3 v2)) v1 (.c 1 v3 (.num 8) (.c 1 v4 (.mulL 3 v2) .n)))) (p (p (p (p v0 v3) (.num 1)) v4) (.num 1)) (.num 1000000) rfl h0 h1 h2 h3)
theorem ar84 {a : Nat} {b : Int} (h0 : b + a ≤ 37) : b + 1 + a ≤ 38 := (li (r2 b a) (.c 1 (z w0 w1) (.num 37) .n) (.num 1) (z (z w0 (.num 1)) w1) (.num 38) rfl h0)
theorem ar85 {a b : Nat} (h0 : b + 1 ≤ a) : a = a - 1 + 1 := (qa (lh (r2 a (a - 1)) (.c 1 v0 (p v1 (.num 1)) .n) v0 (p v1 (.num 1)) rfl (Nat.le_of_eq (Nat.sub_add_cancel (lh (r2 b a) (.c 1 (p v0 (.num 1)) v1 .n) (.num 1) v1 rfl h0)).symm)) (lh (r2 a (a - 1)) (.c 1 (p v1 (.num 1)) v0 .n) (p v1 (.num 1)) v0 rfl (Nat.le_of_eq (Nat.sub_add_cancel (lh (r2 b a) (.c 1 (p v0 (.num 1)) v1 .n) (.num 1) v1 rfl h0)))))
theorem ar86 {a b c : Nat} (h0 : a + (c + 1) < b) : a < b := (lh (r3 a c b) (.c 1 (p (p v0 (p v1 (.num 1))) (.num 1)) v2 .n) (p v0 (.num 1)) v2 rfl h0)
theorem ar87 {a b c d e : Nat} (h0 : c ≤ 10) (h1 : a + 10 * (e + 1) < d) : a + min b c < d := (lh (r5 c a e d (min b c)) (.c 1 v0 (.num 10) (.c 1 (p (p v1 (.mulL 10 (p v2 (.num 1)))) (.num 1)) v3 (.c 1 v4 v0 .n))) (p (p v1 v4) (.num 1)) v3 rfl h0 h1 (Nat.min_le_right b c))
theorem ar88 {a b c d e f : Nat} (h0 : d ≤ e) (h1 : b ≤ d) (h2 : a + 10 * (f + e) < c) : a + b < c := (lh (r6 d e b a f c) (.c 10 v0 v1 (.c 1 v2 v0 (.c 1 (p (p v3 (.mulL 10 (p v4 v1))) (.num 1)) v5 .n))) (p (p v3 v2) (.num 1)) v5 rfl h0 h1 h2)
theorem ar89 {a b c d : Nat} (h0 : a ≤ b + c) (h1 : b + 3 * d ≤ 900000) (h2 : c + d ≤ 3 * d) : a ≤ 1000000 := (lh (r4 a b c d) (.c 1 v0 (p v1 v2) (.c 1 (p v1 (.mulL 3 v3)) (.num 900000) (.c 1 (p v2 v3) (.mulL 3 v3) .n))) v0 (.num 1000000) rfl h0 h1 h2)
theorem ar90 {a b c d : Nat} (h0 : a + d ≤ 800000) (h1 : c ≤ 4) (h2 : b ≤ 8) : a + (b + c) + 1 ≤ 900000 := (lh (r4 a d c b) (.c 1 (p v0 v1) (.num 800000) (.c 1 v2 (.num 4) (.c 1 v3 (.num 8) .n))) (p (p v0 (p v3 v2)) (.num 1)) (.num 900000) rfl h0 h1 h2)
theorem ar91 {a b c : Nat} {d e : Int} (h0 : b ≤ 900000) (h1 : 0 ≤ d ∧ d ≤ e ∧ e ≤ b ∧ (b : Int) ≤ c ∧ Int.toNat d + a ≤ b) : a + 1 ≤ 999980 := (lh (r3 b (Int.toNat d) a) (.c 1 v0 (.num 900000) (.c 1 (p v1 v2) v0 .n)) (p v2 (.num 1)) (.num 999980) rfl h0 h1.2.2.2.2)
theorem ar92 {a b c d e : Nat} (h0 : d ≤ c ∧ e ≤ c) (h1 : a ≤ d) (h2 : b ≤ e) : 1 + max a b ≤ c + 1 := (Or.elim (Nat.le_total a b) (fun s0 => (lh (r4 c e b (max a b)) (.c 1 v1 v0 (.c 1 v2 v1 (.c 1 v3 v2 .n))) (p (.num 1) v3) (p v0 (.num 1)) rfl h0.2 h2 (Nat.le_of_eq (Nat.max_eq_right (lh (r2 a b) (.c 1 v0 v1 .n) v0 v1 rfl s0))))) (fun s0 => (lh (r4 d c a (max a b)) (.c 1 v0 v1 (.c 1 v2 v0 (.c 1 v3 v2 .n))) (p (.num 1) v3) (p v1 (.num 1)) rfl h0.1 h1 (Nat.le_of_eq (Nat.max_eq_left (lh (r2 a b) (.c 1 v1 v0 .n) v1 v0 rfl s0))))))
theorem ar93 {a b c d : Nat} (h0 : b + c ≤ 900000) (h1 : c = 4 * d) (h2 : a ≤ b + 1 + 1 + 1 + 1 + d) : a ≤ 1000000 := (lhS (r4 b c d a) (.c 4 (p v0 v1) (.num 900000) (.c 1 (.mulL 4 v2) v1 (.c 4 v3 (p (p (p (p (p v0 (.num 1)) (.num 1)) (.num 1)) (.num 1)) v2) .n))) 3 v3 (.num 1000000) rfl h0 (q2 h1) h2)
theorem ar94 {a : Nat} {b : Int} (h0 : b + a ≤ 37) : b + 1 ≤ 40 := (li (r2 b a) (.c 1 (.num 0) w1 (.c 1 (z w0 w1) (.num 37) .n)) (.num 3) (z w0 (.num 1)) (.num 40) rfl (q0 a) h0)
theorem ar95 {a b : Nat} : (0 : Int) ≤ a + 2 + b := (li (r2 a b) (.c 1 (.num 0) w0 (.c 1 (.num 0) w1 .n)) (.num 3) (.num 0) (z (z w0 (.num 2)) w1) rfl (q0 a) (q0 b))
theorem ar96 {a b c : Nat} (h0 : c + 1 ≤ 3) (h1 : a ≤ b + 2 + 1 + 2 * c + 1) : a ≤ b + 8 := (lh (r3 c a b) (.c 2 (p v0 (.num 1)) (.num 3) (.c 1 v1 (p (p (p (p v2 (.num 2)) (.num 1)) (.mulL 2 v0)) (.num 1)) .n)) v1 (p v2 (.num 8)) rfl h0 h1)
theorem ar97 {a b c : Nat} (h0 : a ≤ b + 1 + 1 + 2 * c + 1) : a ≤ b + 2 * (c + 1) + 1 := (lh (r3 a b c) (.c 1 v0 (p (p (p (p v1 (.num 1)) (.num 1)) (.mulL 2 v2)) (.num 1)) .n) v0 (p (p v1 (.mulL 2 (p v2 (.num 1)))) (.num 1)) rfl h0)
theorem ar98 {a : Nat} (h0 : a ≤ 6) : a = 0 ∨ a = 1 ∨ a = 2 ∨ a = 3 ∨ a = 4 ∨ a = 5 ∨ a = 6 := (by decide : ∀ a, a < 7 → a = 0 ∨ a = 1 ∨ a = 2 ∨ a = 3 ∨ a = 4 ∨ a = 5 ∨ a = 6) a (Nat.lt_succ_of_le h0)
theorem ar99 {a b c : Nat} {d e : Int} (h0 : b ≤ 900000) (h1 : 0 ≤ d ∧ d ≤ e ∧ e ≤ b ∧ (b : Int) ≤ c ∧ Int.toNat d + a ≤ b) : a ≤ 900000 := (lh (r3 b (Int.toNat d) a) (.c 1 v0 (.num 900000) (.c 1 (p v1 v2) v0 .n)) v2 (.num 900000) rfl h0 h1.2.2.2.2)
theorem ar100 {a : Nat} (h0 : 48 ≤ a ∧ a ≤ 57) : a ≠ 40 ∧ a ≠ 34 ∧ a ≠ 41 ∧ a ≠ 37 ∧ a ≠ 47 := ⟨(Nat.ne_of_gt (lhS (.leaf a) (.c 41 (.num 48) v0 .n) 47 (p (.num 40) (.num 1)) v0 rfl h0.1)), ⟨(Nat.ne_of_gt (lhS (.leaf a) (.c 35 (.num 48) v0 .n) 47 (p (.num 34) (.num 1)) v0 rfl h0.1)), ⟨(Nat.ne_of_gt (lhS (.leaf a) (.c 7 (.num 48) v0 .n) 7 (p (.num 41) (.num 1)) v0 rfl h0.1)), ⟨(Nat.ne_of_gt (lhS (.leaf a) (.c 19 (.num 48) v0 .n) 23 (p (.num 37) (.num 1)) v0 rfl h0.1)), (Nat.ne_of_gt (lh (.leaf a) (.c 1 (.num 48) v0 .n) (p (.num 47) (.num 1)) v0 rfl h0.1))⟩⟩⟩⟩
theorem ar101 {a b c : Nat} (h0 : a ≤ 20 * c + 10) (h1 : b ≤ 20 * c + 10) : max a b + 10 ≤ 20 * (c + 1) + 10 := by (first | lia | omega)
theorem ar102 {a b c : Nat} {d e : Int} (h0 : b ≤ 900000) (h1 : 0 ≤ d ∧ d ≤ e ∧ e ≤ b ∧ (b : Int) ≤ c ∧ Int.toNat d + a ≤ b) : a ≤ 999990 := (lh (r3 b (Int.toNat d) a) (.c 1 v0 (.num 900000) (.c 1 (p v1 v2) v0 .n)) v2 (.num 999990) rfl h0 h1.2.2.2.2)
theorem ar103 {a b c d : Nat} (h0 : a + 10 * (c + 1) < d) (h1 : b ≤ 5) : a + b + 10 * c < d := (lh (r4 a c d b) (.c 1 (p (p v0 (.mulL 10 (p v1 (.num 1)))) (.num 1)) v2 (.c 2 v3 (.num 5) .n)) (p (p (p v0 v3) (.mulL 10 v1)) (.num 1)) v2 rfl h0 h1)
theorem ar104 {a b c d : Nat} (h0 : c = 4 * d) (h1 : 100 ≤ d) (h2 : a ≤ b + 1 + 1 + 1 + 1 + d) : a + 1 ≤ b + c := (lhS (r4 c d a b) (.c 21 (.mulL 4 v1) v0 (.c 4 (.num 100) v1 (.c 80 v2 (p (p (p (p (p v3 (.num 1)) (.num 1)) (.num 1)) (.num 1)) v1) .n))) 79 (p v2 (.num 1)) (p v3 v0) rfl (q2 h0) h1 h2)
theorem ar105 {a b c d : Nat} (h0 : 12 ≤ d) (h1 : a ≤ c) (h2 : b ≤ 2) : a + b ≤ c + d := (lhS (r4 d a c b) (.c 1 (.num 12) v0 (.c 6 v1 v2 (.c 6 v3 (.num 2) .n))) 5 (p v1 v3) (p v2 v0) rfl h0 h1 h2)
theorem ar106 {a b c d : Nat} (h0 : b + c ≤ 900000) (h1 : c = 4 * d) (h2 : a ≤ b + 1 + 1 + d) : a + 1 ≤ 1000000 := (lhS (r4 b c d a) (.c 4 (p v0 v1) (.num 900000) (.c 1 (.mulL 4 v2) v1 (.c 4 v3 (p (p (p v0 (.num 1)) (.num 1)) v2) .n))) 3 (p v3 (.num 1)) (.num 1000000) rfl h0 (q2 h1) h2)
theorem ar107 {a b c : Nat} (h0 : a ≤ 10 * c + 5) (h1 : b ≤ 10 * c + 5) : 1 + max a b ≤ 10 * (c + 1) + 5 := by (first | lia | omega)
theorem ar108 {a : Nat} (h0 : a < 3) : (a : Int) < 2 ^ 62 := by (first | lia | omega)
theorem ar109 {a b c d e : Nat} (h0 : c = d + b) (h1 : a + (e + c + 1) ≤ 999990) : a + 1 + b ≤ 999990 := (lh (r5 c d b a e) (.c 1 (p v1 v2) v0 (.c 1 (p v3 (p (p v4 v0) (.num 1))) (.num 999990) .n)) (p (p v3 (.num 1)) v2) (.num 999990) rfl (q2 h0) h1)
theorem ar110 {a b c d : Nat} (h0 : a + d ≤ 800000) (h1 : d = 4 * c) (h2 : 100 ≤ c) (h3 : b ≤ 8) : a + (b + 1) + c ≤ 800000 := (lhS (r4 a d c b) (.c 400 (p v0 v1) (.num 800000) (.c 109 (.mulL 4 v2) v1 (.c 36 (.num 100) v2 (.c 400 v3 (.num 8) .n)))) 399 (p (p v0 (p v3 (.num 1))) v2) (.num 800000) rfl h0 (q2 h1) h2 h3)
theorem ar111 {a b c : Nat} (h0 : a + c ≤ 900000) (h1 : c = 4 * b) (h2 : 100 ≤ b) : a + 1 + 1 + 1 + 1 + b ≤ 900000 := (lhS (r3 a c b) (.c 50 (p v0 v1) (.num 900000) (.c 13 (.mulL 4 v2) v1 (.c 2 (.num 100) v2 .n))) 49 (p (p (p (p (p v0 (.num 1)) (.num 1)) (.num 1)) (.num 1)) v2) (.num 900000) rfl h0 (q2 h1) h2)
theorem ar112 {a b c d e : Nat} (h0 : a + (c + 1) ≤ 999990) (h1 : d ≤ c) (h2 : d = e + b) : a + 1 + b ≤ 999990 := (lh (r5 a c d e b) (.c 1 (p v0 (p v1 (.num 1))) (.num 999990) (.c 1 v2 v1 (.c 1 (p v3 v4) v2 .n))) (p (p v0 (.num 1)) v4) (.num 999990) rfl h0 h1 (q2 h2))
theorem ar113 {a b c : Nat} (h0 : a ≤ c) (h1 : b ≤ c + 1) : max (a + 1) b ≤ c + 1 := (Nat.max_le.mpr ⟨(lh (r2 a c) (.c 1 v0 v1 .n) (p v0 (.num 1)) (p v1 (.num 1)) rfl h0), (lh (r2 c b) (.c 1 v1 (p v0 (.num 1)) .n) v1 (p v0 (.num 1)) rfl h1)⟩)
theorem ar114 {a b : Nat} (h0 : min a b = a) : a ≤ b := by (first | lia | omega)
theorem ar115 {a : Nat} (h0 : 3 ≤ a) : a = a - 1 + 1 := by (first | lia | omega)
theorem ar116 {a b : Nat} (h0 : 1 ≤ b) (h1 : a ≤ 4 * b) : a + 3 ≤ 4 * (4 * b) := (lh (r2 b a) (.c 3 (.num 1) v0 (.c 1 v1 (.mulL 4 v0) .n)) (p v1 (.num 3)) (.mulL 4 (.mulL 4 v0)) rfl h0 h1)
theorem ar117 {a b c d : Nat} (h0 : b + c ≤ 900000) (h1 : c = 4 * d) (h2 : a ≤ b + 1 + 1 + d) : a ≤ 1000000 := (lhS (r4 b c d a) (.c 4 (p v0 v1) (.num 900000) (.c 1 (.mulL 4 v2) v1 (.c 4 v3 (p (p (p v0 (.num 1)) (.num 1)) v2) .n))) 3 v3 (.num 1000000) rfl h0 (q2 h1) h2)
theorem ar118 {a b c : Nat} {d e : Int} (h0 : 0 ≤ d ∧ d ≤ e ∧ e ≤ a ∧ (a : Int) ≤ b ∧ Int.toNat d + c ≤ a) : d ≤ a := (li (r3 d e a) (.c 1 w0 w1 (.c 1 w1 w2 .n)) (.num 1) w0 w2 rfl h0.2.1 h0.2.2.1)
theorem ar119 {a b c : Nat} (h0 : 12 ≤ c) (h1 : a ≤ b) : a + 1 ≤ b + c := (lhS (r3 c a b) (.c 1 (.num 12) v0 (.c 12 v1 v2 .n)) 11 (p v1 (.num 1)) (p v2 v0) rfl h0 h1)
theorem ar120 {a : Nat} (h0 : 3 ≤ a) : a = a - 2 + 2 := (qa (lh (r2 a (a - 2)) (.c 1 v0 (p v1 (.num 2)) .n) v0 (p v1 (.num 2)) rfl (Nat.le_of_eq (Nat.sub_add_cancel (lhS (.leaf a) (.c 2 (.num 3) v0 .n) 2 (.num 2) v0 rfl h0)).symm)) (lh (r2 a (a - 2)) (.c 1 (p v1 (.num 2)) v0 .n) (p v1 (.num 2)) v0 rfl (Nat.le_of_eq (Nat.sub_add_cancel (lhS (.leaf a) (.c 2 (.num 3) v0 .n) 2 (.num 2) v0 rfl h0)))))
theorem ar121 {a : Nat} (h0 : 5 ≤ a) : a = a - 4 + 4 := (qa (lh (r2 a (a - 4)) (.c 1 v0 (p v1 (.num 4)) .n) v0 (p v1 (.num 4)) rfl (Nat.le_of_eq (Nat.sub_add_cancel (lhS (.leaf a) (.c 4 (.num 5) v0 .n) 4 (.num 4) v0 rfl h0)).symm)) (lh (r2 a (a - 4)) (.c 1 (p v1 (.num 4)) v0 .n) (p v1 (.num 4)) v0 rfl (Nat.le_of_eq (Nat.sub_add_cancel (lhS (.leaf a) (.c 4 (.num 5) v0 .n) 4 (.num 4) v0 rfl h0)))))
theorem ar122 {a : Nat} (h0 : 6 ≤ a) : a = a - 3 + 3 := (qa (lh (r2 a (a - 3)) (.c 1 v0 (p v1 (.num 3)) .n) v0 (p v1 (.num 3)) rfl (Nat.le_of_eq (Nat.sub_add_cancel (lhS (.leaf a) (.c 1 (.num 6) v0 .n) 1 (.num 3) v0 rfl h0)).symm)) (lh (r2 a (a - 3)) (.c 1 (p v1 (.num 3)) v0 .n) (p v1 (.num 3)) v0 rfl (Nat.le_of_eq (Nat.sub_add_cancel (lhS (.leaf a) (.c 1 (.num 6) v0 .n) 1 (.num 3) v0 rfl h0)))))
theorem ar123 {a b : Nat} (h0 : a < b + 1) (h1 : ¬ (a = b)) : a < b := by (first | lia | omega)
theorem ar124 {a b : Nat} (h0 : 10 ≤ a) : 6 ≤ max a b + 1 + 1 := (lhS (r2 a (max a b)) (.c 2 (.num 10) v0 (.c 2 v0 v1 .n)) 4 (.num 6) (p (p v1 (.num 1)) (.num 1)) rfl h0 (Nat.le_max_left a b))
theorem ar125 {a b c d : Nat} (h0 : 20 + 3 * d ≤ c) (h1 : a ≤ 8) (h2 : b ≤ 3 * d) : a + (b + 1 + 1) ≤ c := (lhS (r4 d c a b) (.c 4 (p (.num 20) (.mulL 3 v0)) v1 (.c 9 v2 (.num 8) (.c 4 v3 (.mulL 3 v0) .n))) 3 (p v2 (p (p v3 (.num 1)) (.num 1))) v1 rfl h0 h1 h2)
theorem ar126 {a b c d e f g : Nat} (h0 : a < c) (h1 : c ≤ d) (h2 : e ≤ f) (h3 : f + 1 ≤ g) (h4 : d < e) (h5 : b = g + 1) : a ≠ b := (Nat.ne_of_lt (lh (r7 a c d e f g b) (.c 1 (p v0 (.num 1)) v1 (.c 1 v1 v2 (.c 1 v3 v4 (.c 1 (p v4 (.num 1)) v5 (.c 1 (p v2 (.num 1)) v3 (.c 1 (p v5 (.num 1)) v6 .n)))))) (p v0 (.num 1)) v6 rfl h0 h1 h2 h3 h4 (q2 h5)))
theorem ar127 {a b c d : Nat} (h0 : b ≤ d) (h1 : a + 10 * d < c) : a + 10 * b < c := (lh (r4 b d a c) (.c 10 v0 v1 (.c 1 (p (p v2 (.mulL 10 v1)) (.num 1)) v3 .n)) (p (p v2 (.mulL 10 v0)) (.num 1)) v3 rfl h0 h1)
theorem ar128 {a b c : Nat} (h0 : max c a ≤ b) : a ≤ b := (lh (r3 (max c a) a b) (.c 1 v1 v0 (.c 1 v0 v2 .n)) v1 v2 rfl (Nat.le_max_right c a) h0)
theorem ar129 {a b c d : Nat} (h0 : a ≤ b + d) (h1 : d ≤ 3 * c) : a ≤ b + 3 * c := (lh (r4 a b d c) (.c 1 v0 (p v1 v2) (.c 1 v2 (.mulL 3 v3) .n)) v0 (p v1 (.mulL 3 v3)) rfl h0 h1)
theorem ar130 {a b c : Nat} (h0 : max a c ≤ b) : a ≤ b := (lh (r3 (max a c) a b) (.c 1 v1 v0 (.c 1 v0 v2 .n)) v1 v2 rfl (Nat.le_max_left a c) h0)
theorem ar131 {a b : Nat} : a + 1 + 1 + 1 ≤ max (a + 10) b := (lh (r2 a (max (a + 10) b)) (.c 1 (p v0 (.num 10)) v1 .n) (p (p (p v0 (.num 1)) (.num 1)) (.num 1)) v1 rfl (Nat.le_max_left (a + 10) b))
theorem ar132 {a b c : Nat} (h0 : a ≤ c) (h1 : b ≤ c) : max a b + 1 ≤ c + 1 := (Or.elim (Nat.le_total a b) (fun s0 => (lh (r3 c b (max a b)) (.c 1 v1 v0 (.c 1 v2 v1 .n)) (p v2 (.num 1)) (p v0 (.num 1)) rfl h1 (Nat.le_of_eq (Nat.max_eq_right (lh (r2 a b) (.c 1 v0 v1 .n) v0 v1 rfl s0))))) (fun s0 => (lh (r3 a c (max a b)) (.c 1 v0 v1 (.c 1 v2 v0 .n)) (p v2 (.num 1)) (p v1 (.num 1)) rfl h0 (Nat.le_of_eq (Nat.max_eq_left (lh (r2 a b) (.c 1 v1 v0 .n) v1 v0 rfl s0))))))
theorem ar133 {a : Int} (h0 : 0 ≤ a) : 0 ≤ a + 1 := (li (.leaf a) (.c 1 (.num 0) w0 .n) (.num 2) (.num 0) (z w0 (.num 1)) rfl h0)
theorem ar134 {a b : Nat} : 10 ≤ max (a + 10) b := (lh (r2 (max (a + 10) b) a) (.c 1 (p v1 (.num 10)) v0 .n) (.num 10) v0 rfl (Nat.le_max_left (a + 10) b))
theorem ar135 {a : Nat} : (0 : Int) ≤ a := by (first | lia | omega)
theorem ar136 {a b c : Nat} (h0 : 12 ≤ c) (h1 : a ≤ b) : a + 2 ≤ b + c := (lhS (r3 c a b) (.c 1 (.num 12) v0 (.c 6 v1 v2 .n)) 5 (p v1 (.num 2)) (p v2 v0) rfl h0 h1)
theorem ar137 {a b c : Nat} (h0 : a + c ≤ 900000) (h1 : c = 4 * b) (h2 : 100 ≤ b) : a + 1 + 1 + b ≤ 900000 := (lhS (r3 a c b) (.c 200 (p v0 v1) (.num 900000) (.c 51 (.mulL 4 v2) v1 (.c 4 (.num 100) v2 .n))) 199 (p (p (p v0 (.num 1)) (.num 1)) v2) (.num 900000) rfl h0 (q2 h1) h2)
theorem ar138 {a b c : Nat} (h0 : a + c ≤ 900000) (h1 : 20 + 3 * b ≤ c) : a + 1 + 1 + 3 * b ≤ 900000 := (lhS (r3 a c b) (.c 50001 (p v0 v1) (.num 900000) (.c 50000 (p (.num 20) (.mulL 3 v2)) v1 .n)) 49999 (p (p (p v0 (.num 1)) (.num 1)) (.mulL 3 v2)) (.num 900000) rfl h0 h1)
theorem ar139 {a b c : Nat} (h0 : a + 10 * (b + 1) < c) : a + 3 + 10 * b < c := (lh (r3 a b c) (.c 1 (p (p v0 (.mulL 10 (p v1 (.num 1)))) (.num 1)) v2 .n) (p (p (p v0 (.num 3)) (.mulL 10 v1)) (.num 1)) v2 rfl h0)
theorem ar140 {a b c d : Nat} (h0 : c = 4 * d) (h1 : 100 ≤ d) (h2 : a ≤ b + 1 + d) : a ≤ b + c := (lhS (r4 c d a b) (.c 101 (.mulL 4 v1) v0 (.c 4 (.num 100) v1 (.c 400 v2 (p (p v3 (.num 1)) v1) .n))) 399 v2 (p v3 v0) rfl (q2 h0) h1 h2)
theorem ar141 {a b : Nat} (h0 : 10 ≤ a) : 6 ≤ max a b + 1 := (lhS (r2 a (max a b)) (.c 1 (.num 10) v0 (.c 1 v0 v1 .n)) 1 (.num 6) (p v1 (.num 1)) rfl h0 (Nat.le_max_left a b))
theorem ar142 {a b c : Nat} (h0 : a + c ≤ 800000) (h1 : 20 + 3 * b ≤ c) : a + 9 + 3 * b ≤ 800000 := (lhS (r3 a c b) (.c 800011 (p v0 v1) (.num 800000) (.c 800000 (p (.num 20) (.mulL 3 v2)) v1 .n)) 799999 (p (p v0 (.num 9)) (.mulL 3 v2)) (.num 800000) rfl h0 h1)
theorem ar143 {a b : Nat} (h0 : 10 ≤ a) : 3 ≤ max a b := (lhS (r2 a (max a b)) (.c 3 (.num 10) v0 (.c 3 v0 v1 .n)) 9 (.num 3) v1 rfl h0 (Nat.le_max_left a b))
theorem ar144 {a b c : Nat} (h0 : a < c) (h1 : c ≤ b) : a ≠ b := (Nat.ne_of_lt (lh (r3 a c b) (.c 1 (p v0 (.num 1)) v1 (.c 1 v1 v2 .n)) (p v0 (.num 1)) v2 rfl h0 h1))
theorem ar145 {a b c d : Nat} (h0 : 20 + 3 * d ≤ c) (h1 : a ≤ b + 1 + 1 + 3 * d) : a ≤ b + c := (lh (r4 d c a b) (.c 1 (p (.num 20) (.mulL 3 v0)) v1 (.c 1 v2 (p (p (p v3 (.num 1)) (.num 1)) (.mulL 3 v0)) .n)) v2 (p v3 v1) rfl h0 h1)
theorem ar146 {a b c : Nat} (h0 : a + c ≤ 800000) (h1 : c = 4 * b) : a + b ≤ 800000 := (lhS (r3 a c b) (.c 4 (p v0 v1) (.num 800000) (.c 1 (.mulL 4 v2) v1 .n)) 3 (p v0 v2) (.num 800000) rfl h0 (q2 h1))
theorem ar147 {a b c : Nat} (h0 : c ≤ b) (h1 : a = c) : a ≤ b := (lh (r3 c b a) (.c 1 v0 v1 (.c 1 v2 v0 .n)) v2 v1 rfl h0 (q1 h1))
theorem ar148 {a b c d : Nat} (h0 : b < d + 1) (h1 : a + 1 + (d + 1) ≤ c) : a + 1 + b ≤ c := (lh (r4 b d a c) (.c 1 (p v0 (.num 1)) (p v1 (.num 1)) (.c 1 (p (p v2 (.num 1)) (p v1 (.num 1))) v3 .n)) (p (p v2 (.num 1)) v0) v3 rfl h0 h1)
theorem ar149 {a b c : Nat} {d : Int} (h0 : d - (b + (c + 1 + 1) + 1 + 1) = a) : d = a + 2 + b + 2 + c := by (first | lia | omega)
theorem ar150 {a b : Nat} (h0 : a + b ≤ 900000) : a + 1 + 1 + 1 ≤ 1000000 := (lh (r2 a b) (.c 1 (p v0 v1) (.num 900000) .n) (p (p (p v0 (.num 1)) (.num 1)) (.num 1)) (.num 1000000) rfl h0)
theorem ar151 {a b c : Nat} (h0 : a + c ≤ 800000) (h1 : b ≤ 4) : a + b ≤ 900000 := (lh (r3 a c b) (.c 1 (p v0 v1) (.num 800000) (.c 1 v2 (.num 4) .n)) (p v0 v2) (.num 900000) rfl h0 h1)
theorem ar152 {a : Nat} (h0 : a + 1 ≤ 5) : a = 0 ∨ a = 1 ∨ a = 2 ∨ a = 3 ∨ a = 4 := (by decide : ∀ a, a < 5 → a = 0 ∨ a = 1 ∨ a = 2 ∨ a = 3 ∨ a = 4) a h0
theorem ar153 {a b c d : Nat} (h0 : c + 10 ≤ b) (h1 : a + 1 + (d + 1 + 1) ≤ c) : a + 1 + 1 ≤ b := (lh (r4 c b a d) (.c 1 (p v0 (.num 10)) v1 (.c 1 (p (p v2 (.num 1)) (p (p v3 (.num 1)) (.num 1))) v0 .n)) (p (p v2 (.num 1)) (.num 1)) v1 rfl h0 h1)
theorem ar154 {a b c d : Nat} (h0 : b ≤ d) (h1 : a + d < c) : a + b < c := (lh (r4 b d a c) (.c 1 v0 v1 (.c 1 (p (p v2 v1) (.num 1)) v3 .n)) (p (p v2 v0) (.num 1)) v3 rfl h0 h1)
theorem ar155 {a b : Nat} (h0 : 0 < b) (h1 : a < 3) : a < 2 ∨ a = 2 ∧ 0 < b := (Or.elim (Nat.lt_or_ge a 2) Or.inl (fun s0 => Or.inr ⟨(qa (lh (.leaf a) (.c 1 (p v0 (.num 1)) (.num 3) .n) v0 (.num 2) rfl h1) (lh (.leaf a) (.c 1 (.num 2) v0 .n) (.num 2) v0 rfl s0)), (lh (.leaf b) (.c 1 (p (.num 0) (.num 1)) v0 .n) (p (.num 0) (.num 1)) v0 rfl h0)⟩))
theorem ar156 {a b : Nat} : a ≤ max (b + 10) a := (lh (r2 a (max (b + 10) a)) (.c 1 v0 v1 .n) v0 v1 rfl (Nat.le_max_right (b + 10) a))
theorem ar157 {a b c : Nat} (h0 : c + 2 + a < c + 2 + b) (h1 : ¬ (a + 1 < b)) : a + 1 = b := (qa (lh (r3 c a b) (.c 1 (p (p (p v0 (.num 2)) v1) (.num 1)) (p (p v0 (.num 2)) v2) .n) (p v1 (.num 1)) v2 rfl h0) (lh (r2 a b) (.c 1 v1 (p v0 (.num 1)) .n) v1 (p v0 (.num 1)) rfl (Nat.le_of_not_lt h1)))
theorem ar158 {a b : Nat} (h0 : a ≤ b) : 2 + a ≤ b + 2 := (lh (r2 a b) (.c 1 v0 v1 .n) (p (.num 2) v0) (p v1 (.num 2)) rfl h0)
theorem ar159 {a b : Nat} {c : Int} (h0 : c + b ≤ 38) (h1 : a + 1 ≤ b) : c + a ≤ 37 := (li (r3 c b a) (.c 1 (z w0 w1) (.num 38) (.c 1 (z w2 (.num 1)) w1 .n)) (.num 1) (z w0 w2) (.num 37) rfl h0 (qz h1))
theorem ar160 {a b c d : Nat} (h0 : c = 4 * d) (h1 : 100 ≤ d) (h2 : a ≤ b + 1 + 10) : a ≤ b + c := (lhS (r4 c d a b) (.c 11 (.mulL 4 v1) v0 (.c 44 (.num 100) v1 (.c 400 v2 (p (p v3 (.num 1)) (.num 10)) .n))) 399 v2 (p v3 v0) rfl (q2 h0) h1 h2)
theorem ar161 {a b : Nat} (h0 : a ≤ 10 * b + 5 + 8) : a ≤ 10 * (b + 1 + 1) + 5 := (lh (r2 a b) (.c 1 v0 (p (p (.mulL 10 v1) (.num 5)) (.num 8)) .n) v0 (p (.mulL 10 (p (p v1 (.num 1)) (.num 1))) (.num 5)) rfl h0)
theorem ar162 {a b c d : Nat} (h0 : c + 10 ≤ b) (h1 : a + 1 + (d + 1 + 1) ≤ c) : a + 1 ≤ b := (lh (r4 c b a d) (.c 1 (p v0 (.num 10)) v1 (.c 1 (p (p v2 (.num 1)) (p (p v3 (.num 1)) (.num 1))) v0 .n)) (p v2 (.num 1)) v1 rfl h0 h1)
theorem ar163 {a b c d e : Nat} {f : Int} (h0 : a + 1 + 1 = f - (d + (e + (b + c + 1)))) : a + 2 = f - (b + c + 1) - (d + e) := by (first | lia | omega)
theorem ar164 {a b : Nat} {c : Int} (h0 : c = a) (h1 : b ≤ 999990) (h2 : a < b) : c < 2 ^ 62 := (li (r3 c a b) (.c 1 w0 w1 (.c 1 w2 (.num 999990) (.c 1 (z w1 (.num 1)) w2 .n))) (.num 4611686018426387915) (z w0 (.num 1)) (.num 4611686018427387904) rfl (Int.le_of_eq h0) (qz h1) (qz h2))
theorem ar165 {a b c : Nat} (h0 : c = b) (h1 : a < c) : a < b := (lh (r3 c b a) (.c 1 v0 v1 (.c 1 (p v2 (.num 1)) v0 .n)) (p v2 (.num 1)) v1 rfl (q1 h0) h1)
theorem ar166 {a b c d : Nat} (h0 : c + 10 ≤ b) (h1 : a + 1 + (d + 1) ≤ c) : a + 1 ≤ b := (lh (r4 c b a d) (.c 1 (p v0 (.num 10)) v1 (.c 1 (p (p v2 (.num 1)) (p v3 (.num 1))) v0 .n)) (p v2 (.num 1)) v1 rfl h0 h1)
theorem ar167 {a b c : Nat} (h0 : 6 ≤ c) (h1 : a + c < b) : a + 5 < b := (lhS (r3 c a b) (.c 5 (.num 6) v0 (.c 6 (p (p v1 v0) (.num 1)) v2 .n)) 5 (p (p v1 (.num 5)) (.num 1)) v2 rfl h0 h1)
theorem ar168 {a b : Nat} : a + 1 ≤ max (a + 1) b := (lh (r2 a (max (a + 1) b)) (.c 1 (p v0 (.num 1)) v1 .n) (p v0 (.num 1)) v1 rfl (Nat.le_max_left (a + 1) b))
theorem ar169 {a b c : Nat} (h0 : a + c ≤ 900000) (h1 : c = 4 * b) (h2 : 100 ≤ b) : a + 1 + b ≤ 900000 := (lhS (r3 a c b) (.c 400 (p v0 v1) (.num 900000) (.c 101 (.mulL 4 v2) v1 (.c 4 (.num 100) v2 .n))) 399 (p (p v0 (.num 1)) v2) (.num 900000) rfl h0 (q2 h1) h2)
theorem ar170 {a b : Nat} (h0 : a + b ≤ 800000) : a + 0 + 1 ≤ 900000 := (lh (r2 a b) (.c 1 (p v0 v1) (.num 800000) .n) (p (p v0 (.num 0)) (.num 1)) (.num 900000) rfl h0)
theorem ar171 {a : Nat} {b : Int} : Int.toNat (b + a - b) = a := by (first | lia | omega)
theorem ar172 {a b c : Nat} (h0 : c = 102400) (h1 : a ≤ c) (h2 : b ≤ 8) : a + b + 3 ≤ 900000 := (lh (r3 c a b) (.c 1 v0 (.num 102400) (.c 1 v1 v0 (.c 1 v2 (.num 8) .n))) (p (p v1 v2) (.num 3)) (.num 900000) rfl (q1 h0) h1 h2)
theorem ar173 {a b c : Nat} (h0 : a + b ≤ 800000) (h1 : b = 4 * c) (h2 : 100 ≤ c) : a + 100 ≤ 800000 := (lhS (r3 a b c) (.c 4 (p v0 v1) (.num 800000) (.c 1 (.mulL 4 v2) v1 (.c 4 (.num 100) v2 .n))) 3 (p v0 (.num 100)) (.num 800000) rfl h0 (q2 h1) h2)
theorem ar174 {a b : Nat} (h0 : a + b ≤ 900000) : a + 1 + 1 ≤ 1000000 := (lh (r2 a b) (.c 1 (p v0 v1) (.num 900000) .n) (p (p v0 (.num 1)) (.num 1)) (.num 1000000) rfl h0)
theorem ar175 {a b c d e : Nat} (h0 : a ≤ c) (h1 : d ≤ e) (h2 : e + 1 ≤ b) (h3 : c < d) : a ≤ b := by (first | lia | omega)
theorem ar176 {a b c d e : Nat} (h0 : a ≤ c) (h1 : d ≤ e) (h2 : c < d) (h3 : e + 1 ≤ b) : a ≤ b := (lh (r5 a c d e b) (.c 1 v0 v1 (.c 1 v2 v3 (.c 1 (p v1 (.num 1)) v2 (.c 1 (p v3 (.num 1)) v4 .n)))) v0 v4 rfl h0 h1 h2 h3)
theorem ar177 {a b c d : Nat} (h0 : c + 10 ≤ b) (h1 : a + 1 + (d + 1) ≤ c) : a ≤ b := (lh (r4 c b a d) (.c 1 (p v0 (.num 10)) v1 (.c 1 (p (p v2 (.num 1)) (p v3 (.num 1))) v0 .n)) v2 v1 rfl h0 h1)
theorem ar178 {a b c : Nat} (h0 : b = c + 1) (h1 : a < c) : a ≠ b := (Nat.ne_of_lt (lh (r3 b c a) (.c 1 (p v1 (.num 1)) v0 (.c 1 (p v2 (.num 1)) v1 .n)) (p v2 (.num 1)) v0 rfl (q2 h0) h1))
theorem ar179 {a : Nat} {b : Int} (h0 : 2 * b + (a + 1) ≤ 5) : b < 4 := (liS (r2 b a) (.c 1 (.num 0) w1 (.c 1 (z (.mulL 2 w0) (z w1 (.num 1))) (.num 5) .n)) (.num 3) 1 (z w0 (.num 1)) (.num 4) rfl (q0 a) h0)
theorem ar180 {a b c : Nat} {d : Int} (h0 : c = b + a) : d - a - b = d - c := by (first | lia | omega)
theorem ar181 {a b c d : Nat} (h0 : c ≤ d) (h1 : d + 1 ≤ b) (h2 : a < c) : a < b + 1 := (lh (r4 c d b a) (.c 1 v0 v1 (.c 1 (p v1 (.num 1)) v2 (.c 1 (p v3 (.num 1)) v0 .n))) (p v3 (.num 1)) (p v2 (.num 1)) rfl h0 h1 h2)
theorem ar182 {a b c : Nat} {d : Int} (h0 : a = b + c) : d - a + b = d - c := by (first | lia | omega)
theorem ar183 {a : Nat} : min 60 a ≤ 60 := (lh (.leaf (min 60 a)) (.c 1 v0 (.num 60) .n) v0 (.num 60) rfl (Nat.min_le_left 60 a))
theorem ar184 {a b c d : Nat} (h0 : b ≤ 8) (h1 : c ≤ d) : a + (b + c + 1) ≤ a + 9 + d := (lh (r4 b c d a) (.c 1 v0 (.num 8) (.c 1 v1 v2 .n)) (p v3 (p (p v0 v1) (.num 1))) (p (p v3 (.num 9)) v2) rfl h0 h1)
theorem ar185 {a b : Nat} (h0 : ¬ (b < a)) : a ≤ b := (lh (r2 a b) (.c 1 v0 v1 .n) v0 v1 rfl (Nat.le_of_not_lt h0))
theorem ar186 {a b c d : Nat} (h0 : a ≤ c) (h1 : b ≤ d) : 1 + a + b ≤ c + d + 1 := (lh (r4 a c b d) (.c 1 v0 v1 (.c 1 v2 v3 .n)) (p (p (.num 1) v0) v2) (p (p v1 v3) (.num 1)) rfl h0 h1)
theorem ar187 {a b c : Nat} (h0 : a + 1 + (b + 1 + 1) ≤ c) : a + 1 + 1 + b ≤ c := by (first | lia | omega)
theorem ar188 {a b c : Nat} (h0 : c + 2 + a < c + 2 + b) : a < b := by (first | lia | omega)
theorem ar189 {a b c : Nat} (h0 : a + b ≤ 900000) (h1 : b = 4 * c) (h2 : 100 ≤ c) : a + 1 + 100 ≤ 900001 := (lhS (r3 a b c) (.c 4 (p v0 v1) (.num 900000) (.c 1 (.mulL 4 v2) v1 (.c 4 (.num 100) v2 .n))) 3 (p (p v0 (.num 1)) (.num 100)) (.num 900001) rfl h0 (q2 h1) h2)
theorem ar190 {a : Int} (h0 : 0 ≤ a) (h1 : a < 2 ^ 62) : ¬ (a < -2 ^ 63) ∧ ¬ (a ≥ 2 ^ 63) := ⟨(Int.not_lt.mpr (li (.leaf a) (.c 1 (.num 0) w0 .n) (.num 9223372036854775809) (.num (-9223372036854775808)) w0 rfl h0)), (Int.not_le.mpr (li (.leaf a) (.c 1 (z w0 (.num 1)) (.num 4611686018427387904) .n) (.num 4611686018427387905) (z w0 (.num 1)) (.num 9223372036854775808) rfl h1))⟩
theorem ar191 {a b c : Nat} (h0 : a + 1 + (b + 1) ≤ c) : a + 1 + 1 + b ≤ c := (lh (r3 a b c) (.c 1 (p (p v0 (.num 1)) (p v1 (.num 1))) v2 .n) (p (p (p v0 (.num 1)) (.num 1)) v1) v2 rfl h0)
theorem ar192 {a b : Nat} (h0 : a + b ≤ 900000) : a + 1 ≤ 1000000 := (lh (r2 a b) (.c 1 (p v0 v1) (.num 900000) .n) (p v0 (.num 1)) (.num 1000000) rfl h0)
theorem ar193 {a b c : Nat} (h0 : c + 1 < b) (h1 : a ≤ c + 1) : a < b := (lh (r3 c b a) (.c 1 (p (p v0 (.num 1)) (.num 1)) v1 (.c 1 v2 (p v0 (.num 1)) .n)) (p v2 (.num 1)) v1 rfl h0 h1)
theorem ar194 {a : Nat} (h0 : a < 5) (h1 : ¬ (a = 2)) (h2 : ¬ (a = 3)) : ¬ ((a : Int) = 3) := by (first | lia | omega)
theorem ar195 {a b c : Nat} (h0 : b = 4 * c) (h1 : a ≤ c) : a ≤ b := (lhS (r3 b c a) (.c 1 (.mulL 4 v1) v0 (.c 4 v2 v1 .n)) 3 v2 v0 rfl (q2 h0) h1)
theorem ar196 {a b c d e : Nat} (h0 : c ≤ d) (h1 : d + 1 ≤ e) (h2 : a < c) (h3 : b = e + 1) : a ≠ b := (Nat.ne_of_lt (lh (r5 c d e a b) (.c 1 v0 v1 (.c 1 (p v1 (.num 1)) v2 (.c 1 (p v3 (.num 1)) v0 (.c 1 (p v2 (.num 1)) v4 .n)))) (p v3 (.num 1)) v4 rfl h0 h1 h2 (q2 h3)))
theorem ar197 {a b c d e : Nat} (h0 : c ≤ d) (h1 : d + 1 ≤ e) (h2 : b = e + 1) (h3 : a < c) : a ≠ b := by (first | lia | omega)
theorem ar198 {a b : Nat} (h0 : b = 4 * a) (h1 : 100 ≤ a) : 20 + 3 * (a + 12) ≤ b := (lhS (r2 b a) (.c 89 (.mulL 4 v1) v0 (.c 56 (.num 100) v1 .n)) 99 (p (.num 20) (.mulL 3 (p v1 (.num 12)))) v0 rfl (q2 h0) h1)
theorem ar199 {a b : Nat} (h0 : a < b) (h1 : b ≤ 999990) : (a : Int) < 2 ^ 62 := (li (r2 a b) (.c 1 (z w0 (.num 1)) w1 (.c 1 w1 (.num 999990) .n)) (.num 4611686018426387915) (z w0 (.num 1)) (.num 4611686018427387904) rfl (qz h0) (qz h1))
theorem ar200 {a : Nat} {b : Int} (h0 : b + (a + 1) ≤ 38) : b + a ≤ 37 := (li (r2 b a) (.c 1 (z w0 (z w1 (.num 1))) (.num 38) .n) (.num 1) (z w0 w1) (.num 37) rfl h0)
theorem ar201 {a b c : Nat} (h0 : b + (c + 1) ≤ 3) (h1 : a ≤ b) : 2 * a ≤ 999998 := (lh (r3 b c a) (.c 2 (p v0 (p v1 (.num 1))) (.num 3) (.c 2 v2 v0 .n)) (.mulL 2 v2) (.num 999998) rfl h0 h1)
theorem ar202 {a b c : Nat} (h0 : a + (b + (c + 1) + 1 + 1) ≤ 999990) : a ≤ 999990 := by (first | lia | omega)
theorem ar203 {a b c : Nat} (h0 : a + c ≤ 900000) (h1 : b ≤ 8) : a + b + c ≤ 1000000 := (lh (r3 a c b) (.c 1 (p v0 v1) (.num 900000) (.c 1 v2 (.num 8) .n)) (p (p v0 v2) v1) (.num 1000000) rfl h0 h1)
theorem ar204 {a b c : Nat} (h0 : a + 1 + (b + 1 + 1) ≤ c) : a + 1 + b ≤ c := (lh (r3 a b c) (.c 1 (p (p v0 (.num 1)) (p (p v1 (.num 1)) (.num 1))) v2 .n) (p (p v0 (.num 1)) v1) v2 rfl h0)
theorem ar205 {a : Nat} {b : Int} (h0 : b + ((a + 1 : Nat) : Int) ≤ 200) : b ≤ 200 := (li (r2 b a) (.c 1 (.num 0) w1 (.c 1 (z w0 (z w1 (.num 1))) (.num 200) .n)) (.num 2) w0 (.num 200) rfl (q0 a) h0)
theorem ar206 {a b : Nat} (h0 : a + 5 < b) : a + 1 + 1 < b := (lh (r2 a b) (.c 1 (p (p v0 (.num 5)) (.num 1)) v1 .n) (p (p (p v0 (.num 1)) (.num 1)) (.num 1)) v1 rfl h0)
theorem ar207 {a : Nat} {b : Int} (h0 : 2 * b + (a + 1) ≤ 5) : 2 * (b + 1) + a ≤ 6 := (li (r2 b a) (.c 1 (z (.mulL 2 w0) (z w1 (.num 1))) (.num 5) .n) (.num 1) (z (.mulL 2 (z w0 (.num 1))) w1) (.num 6) rfl h0)
theorem ar208 {a b c : Nat} (h0 : c ≤ b ∧ a ≤ 20 * b + 10) : a + 10 ≤ 20 * (b + 1) + 10 := (lh (r2 b a) (.c 1 v1 (p (.mulL 20 v0) (.num 10)) .n) (p v1 (.num 10)) (p (.mulL 20 (p v0 (.num 1))) (.num 10)) rfl h0.2)
theorem ar209 {a b : Nat} (h0 : a < 2) : a < 2 ∨ a = 2 ∧ 0 < b := (Or.inl (lh (.leaf a) (.c 1 (p v0 (.num 1)) (.num 2) .n) (p v0 (.num 1)) (.num 2) rfl h0))
theorem ar210 {a b c : Nat} (h0 : b = 4 * c) (h1 : 100 ≤ c) (h2 : a ≤ 20) : a ≤ b := (lhS (r3 b c a) (.c 1 (.mulL 4 v1) v0 (.c 4 (.num 100) v1 (.c 20 v2 (.num 20) .n))) 19 v2 v0 rfl (q2 h0) h1 h2)
theorem ar211 {a : Nat} (h0 : a ≤ 20 * 6 + 10) : a + 3 ≤ 247 + 2 := (lh (.leaf a) (.c 1 v0 (p (.mulL 20 (.num 6)) (.num 10)) .n) (p v0 (.num 3)) (p (.num 247) (.num 2)) rfl h0)
theorem ar212 {a b : Nat} (h0 : b = a) : a ≤ b := (lh (r2 b a) (.c 1 v1 v0 .n) v1 v0 rfl (q2 h0))
theorem ar213 {a b : Nat} {c : Int} : c - (a + b + 1) < c := (li (r3 c a b) (.c 1 (.num 0) w1 (.c 1 (.num 0) w2 .n)) (.num 1) (z (.sub w0 (z (z w1 w2) (.num 1))) (.num 1)) w0 rfl (q0 a) (q0 b))
theorem ar214 {a b : Nat} (h0 : a + b ≤ 900000) : a ≤ 1000000 := (lh (r2 a b) (.c 1 (p v0 v1) (.num 900000) .n) v0 (.num 1000000) rfl h0)
theorem ar215 {a b c : Nat} (h0 : a ≤ c) : a + 1 ≤ 1 + b + c := (lh (r3 a c b) (.c 1 v0 v1 .n) (p v0 (.num 1)) (p (p (.num 1) v2) v1) rfl h0)
theorem ar216 {a b : Nat} (h0 : a - 1 < b) (h1 : b = a) : -(a : Int) ≤ -1 := (li (r3 ((a - 1 : Nat) : Int) a b) (.c 1 (.num 0) w0 (.c 1 (z w0 (.num 1)) w2 (.c 1 w2 w1 .n))) (.num 1) (.neg w1) (.num (-1)) rfl (q0 (a - 1)) (qz h0) (qz (q1 h1)))
theorem ar217 {a : Nat} {b : Int} (h0 : 2 * b + (a + 1) ≤ 6) : 2 * b + a ≤ 6 := (li (r2 b a) (.c 1 (z (.mulL 2 w0) (z w1 (.num 1))) (.num 6) .n) (.num 2) (z (.mulL 2 w0) w1) (.num 6) rfl h0)
theorem ar218 {a b c d : Nat} (h0 : c ≤ d) (h1 : d + 1 ≤ b) (h2 : a < c) : a ≠ b := (Nat.ne_of_lt (lh (r4 c d b a) (.c 1 v0 v1 (.c 1 (p v1 (.num 1)) v2 (.c 1 (p v3 (.num 1)) v0 .n))) (p v3 (.num 1)) v2 rfl h0 h1 h2))
theorem ar219 {a b c d : Nat} (h0 : c ≤ d) (h1 : d + 1 ≤ a) (h2 : b < c) : a ≠ b := (Nat.ne_of_gt (lh (r4 c d a b) (.c 1 v0 v1 (.c 1 (p v1 (.num 1)) v2 (.c 1 (p v3 (.num 1)) v0 .n))) (p v3 (.num 1)) v2 rfl h0 h1 h2))
theorem ar220 {a b c d : Nat} (h0 : c ≤ d) (h1 : b < c) (h2 : d + 1 ≤ a) : a ≠ b := (Nat.ne_of_gt (lh (r4 c d b a) (.c 1 v0 v1 (.c 1 (p v2 (.num 1)) v0 (.c 1 (p v1 (.num 1)) v3 .n))) (p v2 (.num 1)) v3 rfl h0 h1 h2))
theorem ar221 {a b c d : Nat} (h0 : b < c) (h1 : c ≤ d) (h2 : d < a) : a ≠ b := (Nat.ne_of_gt (lh (r4 b c d a) (.c 1 (p v0 (.num 1)) v1 (.c 1 v1 v2 (.c 1 (p v2 (.num 1)) v3 .n))) (p v0 (.num 1)) v3 rfl h0 h1 h2))
theorem ar222 {a b c d : Nat} (h0 : a + d ≤ c) (h1 : b ≤ d) : a + b ≤ c := (lh (r4 a d c b) (.c 1 (p v0 v1) v2 (.c 1 v3 v1 .n)) (p v0 v3) v2 rfl h0 h1)
theorem ar223 {a b c : Nat} (h0 : c = 100) (h1 : a ≤ b + 1 + 10) : a ≤ b + c := (lhS (r3 c a b) (.c 11 (.num 100) v0 (.c 100 v1 (p (p v2 (.num 1)) (.num 10)) .n)) 99 v1 (p v2 v0) rfl (q2 h0) h1)
theorem ar224 {a b : Nat} (h0 : a ≤ 20 * b + 10) : a + 10 ≤ 20 * (b + 1) + 10 := (lh (r2 a b) (.c 1 v0 (p (.mulL 20 v1) (.num 10)) .n) (p v0 (.num 10)) (p (.mulL 20 (p v1 (.num 1))) (.num 10)) rfl h0)
theorem ar225 {a b : Nat} (h0 : a + 100 ≤ 800000) (h1 : b ≤ 2) : a + 0 + b ≤ 900000 := (lh (r2 a b) (.c 1 (p v0 (.num 100)) (.num 800000) (.c 1 v1 (.num 2) .n)) (p (p v0 (.num 0)) v1) (.num 900000) rfl h0 h1)
theorem ar226 {a : Nat} {b : Int} (h0 : 2 * b + (a + 1) ≤ 6) : 2 * b + a ≤ 5 := by (first | lia | omega)
theorem ar227 {a b : Nat} (h0 : a ≤ 8) (h1 : b ≤ 8) : 0 + (a + b + 4) + 1 ≤ 1000000 := (lh (r2 a b) (.c 1 v0 (.num 8) (.c 1 v1 (.num 8) .n)) (p (p (.num 0) (p (p v0 v1) (.num 4))) (.num 1)) (.num 1000000) rfl h0 h1)
theorem ar228 {a : Nat} (h0 : 10 ≤ a) : 7 ≤ a + 2 := (lhS (.leaf a) (.c 1 (.num 10) v0 .n) 1 (.num 7) (p v0 (.num 2)) rfl h0)
theorem ar229 {a b c : Nat} (h0 : a ≤ c) : a ≤ b + (c + 1) + 1 + 1 := (lh (r3 a c b) (.c 1 v0 v1 .n) v0 (p (p (p v2 (p v1 (.num 1))) (.num 1)) (.num 1)) rfl h0)
theorem ar230 {a : Int} (h0 : a < 2 ^ 62) : a < 2 ^ 63 := (li (.leaf a) (.c 1 (z w0 (.num 1)) (.num 4611686018427387904) .n) (.num 4611686018427387905) (z w0 (.num 1)) (.num 9223372036854775808) rfl h0)
theorem ar231 {a : Int} (h0 : a < 2 ^ 60) : a < 2 ^ 64 := (li (.leaf a) (.c 1 (z w0 (.num 1)) (.num 1152921504606846976) .n) (.num 17293822569102704641) (z w0 (.num 1)) (.num 18446744073709551616) rfl h0)
theorem ar232 {a : Nat} {b : Int} (h0 : b + (a + 1) ≤ 200) : b + 1 + a ≤ 200 := (li (r2 b a) (.c 1 (z w0 (z w1 (.num 1))) (.num 200) .n) (.num 1) (z (z w0 (.num 1)) w1) (.num 200) rfl h0)
theorem ar233 {a b : Nat} (h0 : a ≤ 10 * b + 5) : 1 + (1 + a) ≤ 10 * (b + 1) + 5 := (lh (r2 a b) (.c 1 v0 (p (.mulL 10 v1) (.num 5)) .n) (p (.num 1) (p (.num 1) v0)) (p (.mulL 10 (p v1 (.num 1))) (.num 5)) rfl h0)
theorem ar234 {a b : Nat} (h0 : b = 102400) (h1 : a ≤ 0 + b) : a + 1 + 1 ≤ 1000000 := (lh (r2 b a) (.c 1 v0 (.num 102400) (.c 1 v1 (p (.num 0) v0) .n)) (p (p v1 (.num 1)) (.num 1)) (.num 1000000) rfl (q1 h0) h1)
theorem ar235 {a b : Nat} (h0 : a ≤ 1) : a ≤ 20 + 3 * b := (lh (r2 a b) (.c 1 v0 (.num 1) .n) v0 (p (.num 20) (.mulL 3 v1)) rfl h0)
theorem ar236 {a : Nat} (h0 : a ≤ 65) : 1 + a ≤ 100 := (lh (.leaf a) (.c 1 v0 (.num 65) .n) (p (.num 1) v0) (.num 100) rfl h0)
theorem ar237 {a b c d e : Nat} : a + b + 1 + c + 2 + d + e + 1 = a + b + 1 + (c + (d + (e + 1) + 1 + 1)) := by (first | lia | omega)
theorem ar238 {a b : Nat} (h0 : a + 100 ≤ 800000) (h1 : b ≤ 4) : a + 0 + b ≤ 900000 := (lh (r2 a b) (.c 1 (p v0 (.num 100)) (.num 800000) (.c 1 v1 (.num 4) .n)) (p (p v0 (.num 0)) v1) (.num 900000) rfl h0 h1)
theorem ar239 {a b : Nat} (h0 : b = 102400) (h1 : a ≤ b) : 0 + a + 3 ≤ 900000 := (lh (r2 b a) (.c 1 v0 (.num 102400) (.c 1 v1 v0 .n)) (p (p (.num 0) v1) (.num 3)) (.num 900000) rfl (q1 h0) h1)
theorem ar240 {a b c d : Nat} (h0 : d ≤ c) (h1 : a + b ≤ d) : a + b ≤ c := (lh (r4 d c a b) (.c 1 v0 v1 (.c 1 (p v2 v3) v0 .n)) (p v2 v3) v1 rfl h0 h1)
theorem ar241 {a b c : Nat} (h0 : a + 1 + (b + 1) ≤ c) : a + b ≤ c := (lh (r3 a b c) (.c 1 (p (p v0 (.num 1)) (p v1 (.num 1))) v2 .n) (p v0 v1) v2 rfl h0)
theorem ar242 {a b c d : Nat} (h0 : b ≤ d) (h1 : a ≤ c) : a + b ≤ c + d := (lh (r4 b d a c) (.c 1 v0 v1 (.c 1 v2 v3 .n)) (p v2 v0) (p v3 v1) rfl h0 h1)
theorem ar243 {a : Nat} (h0 : a < 2) : (a : Int) < 2 ^ 62 := by (first | lia | omega)
theorem ar244 {a b : Nat} (h0 : a + (b + 1 + 1) ≤ 999990) : a + 1 + b ≤ 999990 := by (first | lia | omega)
theorem ar245 {a : Nat} (h0 : a < 5) : (a : Int) < 2 ^ 62 := (li (.leaf a) (.c 1 (z w0 (.num 1)) (.num 5) .n) (.num 4611686018427387900) (z w0 (.num 1)) (.num 4611686018427387904) rfl (qz h0))
theorem ar246 {a : Nat} (h0 : a < 7) : (a : Int) < 2 ^ 62 := by (first | lia | omega)
theorem ar247 {a : Nat} (h0 : a < 4) : (a : Int) < 2 ^ 62 := by (first | lia | omega)
theorem ar248 {a : Nat} (h0 : 97 ≤ a ∧ a ≤ 122 ∨ 65 ≤ a ∧ a ≤ 90) : 48 ≤ a → 57 < a := by (first | lia | omega)
theorem ar249 {a b : Nat} (h0 : b ≤ 2) (h1 : a ≤ 8) : a + b ≤ 20 := (lh (r2 b a) (.c 1 v0 (.num 2) (.c 1 v1 (.num 8) .n)) (p v1 v0) (.num 20) rfl h0 h1)
theorem ar250 {a b c : Nat} (h0 : c ≤ b) (h1 : a < c) : a < b := (lh (r3 c b a) (.c 1 v0 v1 (.c 1 (p v2 (.num 1)) v0 .n)) (p v2 (.num 1)) v1 rfl h0 h1)
theorem ar251 {a b : Nat} (h0 : a = min a b) : a ≤ b := (lh (r3 a (min a b) b) (.c 1 v1 v2 (.c 1 v0 v1 .n)) v0 v2 rfl (Nat.min_le_right a b) (q1 h0))
theorem ar252 {a b : Nat} (h0 : a + (b + 1) ≤ 999990) : a + 1 + b ≤ 999990 := (lh (r2 a b) (.c 1 (p v0 (p v1 (.num 1))) (.num 999990) .n) (p (p v0 (.num 1)) v1) (.num 999990) rfl h0)
theorem ar253 {a b : Nat} (h0 : b ≤ 100) (h1 : a ≤ 100000) : a + (b + 1) ≤ 999990 := (lh (r2 b a) (.c 1 v0 (.num 100) (.c 1 v1 (.num 100000) .n)) (p v1 (p v0 (.num 1))) (.num 999990) rfl h0 h1)
theorem ar254 {a : Int} (h0 : 0 ≤ a) : -2 ^ 64 < a := (li (.leaf a) (.c 1 (.num 0) w0 .n) (.num 18446744073709551616) (z (.num (-18446744073709551616)) (.num 1)) w0 rfl h0)
theorem ar255 {a b c : Nat} (h0 : a + c ≤ 900000) (h1 : b ≤ 8) : a + b ≤ 1000000 := (lh (r3 a c b) (.c 1 (p v0 v1) (.num 900000) (.c 1 v2 (.num 8) .n)) (p v0 v2) (.num 1000000) rfl h0 h1)
theorem ar256 {a b : Nat} (h0 : a + 2 ≤ b) : a + 2 ≤ b + 1 + 1 := (lh (r2 a b) (.c 1 (p v0 (.num 2)) v1 .n) (p v0 (.num 2)) (p (p v1 (.num 1)) (.num 1)) rfl h0)
theorem ar257 {a b : Nat} (h0 : b ≤ 4) (h1 : a ≤ 8) : a + b ≤ 20 := (lh (r2 b a) (.c 1 v0 (.num 4) (.c 1 v1 (.num 8) .n)) (p v1 v0) (.num 20) rfl h0 h1)
theorem ar258 {a : Nat} (h0 : a ≤ 1000000) : (4 : Int) * a < 2 ^ 60 := (li (.leaf a) (.c 4 w0 (.num 1000000) .n) (.num 1152921504602846976) (z (.mulL 4 w0) (.num 1)) (.num 1152921504606846976) rfl (qz h0))
theorem ar259 {a b : Nat} (h0 : a + (b + 1) ≤ 3) : a + 1 + b ≤ 3 := (lh (r2 a b) (.c 1 (p v0 (p v1 (.num 1))) (.num 3) .n) (p (p v0 (.num 1)) v1) (.num 3) rfl h0)
theorem ar260 {a b : Nat} (h0 : a + (b + 1) ≤ 3) : a + 1 ≤ 3 := (lh (r2 a b) (.c 1 (p v0 (p v1 (.num 1))) (.num 3) .n) (p v0 (.num 1)) (.num 3) rfl h0)
theorem ar261 {a b : Nat} : min (min a b) b = min a b := (qa (lh (r2 (min (min a b) b) (min a b)) (.c 1 v0 v1 .n) v0 v1 rfl (Nat.min_le_left (min a b) b)) (Nat.le_min.mpr ⟨(lh (.leaf (min a b)) .n v0 v0 rfl ), (lh (r2 (min a b) b) (.c 1 v0 v1 .n) v0 v1 rfl (Nat.min_le_right a b))⟩))
theorem ar262 {a b c : Nat} (h0 : a ≤ c) (h1 : c ≤ 3 * b) : a ≤ 3 * b := (lh (r3 a c b) (.c 1 v0 v1 (.c 1 v1 (.mulL 3 v2) .n)) v0 (.mulL 3 v2) rfl h0 h1)
theorem ar263 {a b : Nat} (h0 : b ≤ 1000000) (h1 : a = b) : a + 1 ≤ 16777216 := (lh (r2 b a) (.c 1 v0 (.num 1000000) (.c 1 v1 v0 .n)) (p v1 (.num 1)) (.num 16777216) rfl h0 (q1 h1))
theorem ar264 {a b : Nat} (h0 : a ≤ 1) : a ≤ b + 8 := (lh (r2 a b) (.c 1 v0 (.num 1) .n) v0 (p v1 (.num 8)) rfl h0)
theorem ar265 {a : Nat} (h0 : 10 ≤ a) : 6 ≤ a + 1 + 1 + 1 := by (first | lia | omega)
theorem ar266 {a b c : Nat} (h0 : c ≤ a) (h1 : b < c) : a + 1 ≠ b := (Nat.ne_of_gt (lh (r3 c a b) (.c 1 v0 v1 (.c 1 (p v2 (.num 1)) v0 .n)) (p v2 (.num 1)) (p v1 (.num 1)) rfl h0 h1))
theorem ar267 {a b : Nat} (h0 : b = 102400) (h1 : a ≤ 0 + b) : a + 1 ≤ 1000000 := (lh (r2 b a) (.c 1 v0 (.num 102400) (.c 1 v1 (p (.num 0) v0) .n)) (p v1 (.num 1)) (.num 1000000) rfl (q1 h0) h1)
theorem ar268 {a : Nat} (h0 : a ≤ 1000000) : (a : Int) < 2 ^ 63 := (li (.leaf a) (.c 1 w0 (.num 1000000) .n) (.num 9223372036853775808) (z w0 (.num 1)) (.num 9223372036854775808) rfl (qz h0))
theorem ar269 {a b c : Nat} (h0 : a < c) (h1 : c ≤ b) : a ≠ b + 1 := (Nat.ne_of_lt (lh (r3 a c b) (.c 1 (p v0 (.num 1)) v1 (.c 1 v1 v2 .n)) (p v0 (.num 1)) (p v2 (.num 1)) rfl h0 h1))
theorem ar270 {a b : Nat} (h0 : a + b ≤ 900000) (h1 : b = 100) : a + 1 + 100 ≤ 900001 := (lh (r2 a b) (.c 1 (p v0 v1) (.num 900000) (.c 1 (.num 100) v1 .n)) (p (p v0 (.num 1)) (.num 100)) (.num 900001) rfl h0 (q2 h1))
theorem ar271 {a b c : Nat} {d : Int} (h0 : a = d - (b + c)) : a + b = d - c := by (first | lia | omega)
theorem ar272 {a b : Nat} {c : Int} (h0 : c - b = a) : c = a + b := by (first | lia | omega)
theorem ar273 {a : Nat} : max (0 : Int) (min (a : Int) (a : Int)) = a := by (first | lia | omega)
theorem ar274 {a b : Nat} (h0 : a + (b + 1 + 1) ≤ 102400) : a ≤ 102400 := (lh (r2 a b) (.c 1 (p v0 (p (p v1 (.num 1)) (.num 1))) (.num 102400) .n) v0 (.num 102400) rfl h0)
theorem ar275 {a b : Nat} (h0 : a + (b + 1 + 1) ≤ 999990) : a ≤ 1000000 := (lh (r2 a b) (.c 1 (p v0 (p (p v1 (.num 1)) (.num 1))) (.num 999990) .n) v0 (.num 1000000) rfl h0)
theorem ar276 {a b : Nat} (h0 : a ≤ 8) (h1 : b ≤ 8) : a + b + 5 ≤ 900000 := (lh (r2 a b) (.c 1 v0 (.num 8) (.c 1 v1 (.num 8) .n)) (p (p v0 v1) (.num 5)) (.num 900000) rfl h0 h1)
theorem ar277 {a b c d e : Nat} : a + (b + 1 + c + d + e) = a + b + 1 + c + d + e := by (first | lia | omega)
theorem ar278 {a b c : Nat} (h0 : a ≤ b ∧ c ≤ 20 * b + 10) : a ≤ b + 1 := (lh (r2 a b) (.c 1 v0 v1 .n) v0 (p v1 (.num 1)) rfl h0.1)
theorem ar279 {a b : Nat} (h0 : b ≤ 1000) (h1 : a ≤ b) : a ≤ 16777216 := (lh (r2 b a) (.c 1 v0 (.num 1000) (.c 1 v1 v0 .n)) v1 (.num 16777216) rfl h0 h1)
theorem ar280 {a b : Nat} (h0 : a + (b + 1) ≤ 999990) : a ≤ 1000000 := (lh (r2 a b) (.c 1 (p v0 (p v1 (.num 1))) (.num 999990) .n) v0 (.num 1000000) rfl h0)
theorem ar281 {a b : Nat} (h0 : ¬ (a < b)) (h1 : a < b + 1) : a = b := (qa (lh (r2 b a) (.c 1 (p v1 (.num 1)) (p v0 (.num 1)) .n) v1 v0 rfl h1) (lh (r2 b a) (.c 1 v0 v1 .n) v0 v1 rfl (Nat.le_of_not_lt h0)))
theorem ar282 {a : Nat} (h0 : ¬ (a = 2)) : ¬ ((a : Int) = 2) := by (first | lia | omega)
theorem ar283 {a b : Nat} (h0 : a ≤ b) : a + 1 ≤ 1 + b := (lh (r2 a b) (.c 1 v0 v1 .n) (p v0 (.num 1)) (p (.num 1) v1) rfl h0)
theorem ar284 {a b : Nat} (h0 : b ≤ 6) (h1 : a ≤ 10 * b + 5) : a ≤ 150 := (lh (r2 b a) (.c 10 v0 (.num 6) (.c 1 v1 (p (.mulL 10 v0) (.num 5)) .n)) v1 (.num 150) rfl h0 h1)
theorem ar285 {a : Nat} (h0 : 1 ≤ a) : 100 ≤ 100 * a := (lh (.leaf a) (.c 100 (.num 1) v0 .n) (.num 100) (.mulL 100 v0) rfl h0)
theorem ar286 {a b : Nat} (h0 : a ≤ b) : a + 1 ≤ b + 1 := (lh (r2 a b) (.c 1 v0 v1 .n) (p v0 (.num 1)) (p v1 (.num 1)) rfl h0)
theorem ar287 {a : Nat} (h0 : 0 < a) : (0 : Int) < a := (li (.leaf a) (.c 1 (z (.num 0) (.num 1)) w0 .n) (.num 1) (z (.num 0) (.num 1)) w0 rfl (qz h0))
theorem ar288 {a : Int} (h0 : a + 0 ≤ 200) : a ≤ 200 := (li (.leaf a) (.c 1 (z w0 (.num 0)) (.num 200) .n) (.num 1) w0 (.num 200) rfl h0)
theorem ar289 {a : Nat} : 0 < ((a + 1 : Nat) : Int) := (li (.leaf a) (.c 1 (.num 0) w0 .n) (.num 1) (z (.num 0) (.num 1)) (z w0 (.num 1)) rfl (q0 a))
theorem ar290 {a b c : Nat} (h0 : c ≤ a) (h1 : b < c) : a ≠ b := (Nat.ne_of_gt (lh (r3 c a b) (.c 1 v0 v1 (.c 1 (p v2 (.num 1)) v0 .n)) (p v2 (.num 1)) v1 rfl h0 h1))
theorem ar291 {a b : Nat} (h0 : a + (b + 1 + 1) ≤ 999990) : a + b ≤ 999990 := (lh (r2 a b) (.c 1 (p v0 (p (p v1 (.num 1)) (.num 1))) (.num 999990) .n) (p v0 v1) (.num 999990) rfl h0)
theorem ar292 {a : Nat} (h0 : a < 10) : 48 ≤ a + 48 ∧ a + 48 ≤ 57 := ⟨(lh (.leaf a) .n (.num 48) (p v0 (.num 48)) rfl ), (lh (.leaf a) (.c 1 (p v0 (.num 1)) (.num 10) .n) (p v0 (.num 48)) (.num 57) rfl h0)⟩
theorem ar293 {a b c : Nat} (h0 : b ≤ c) : a + b ≤ a + c := (lh (r3 b c a) (.c 1 v0 v1 .n) (p v2 v0) (p v2 v1) rfl h0)
theorem ar294 {a b c : Nat} (h0 : a ≤ c) (h1 : c ≤ b) : a ≤ b := (lh (r3 a c b) (.c 1 v0 v1 (.c 1 v1 v2 .n)) v0 v2 rfl h0 h1)
theorem ar295 {a b c : Nat} (h0 : a ≤ c) : a ≤ b + c := (lh (r3 a c b) (.c 1 v0 v1 .n) v0 (p v2 v1) rfl h0)
theorem ar296 {a b : Int} (h0 : 0 ≤ b) (h1 : b ≤ a) : ¬ (a < 0) := (Int.not_lt.mpr (li (r2 b a) (.c 1 (.num 0) w0 (.c 1 w0 w1 .n)) (.num 1) (.num 0) w1 rfl h0 h1))
theorem ar297 {a : Nat} (h0 : 1 ≤ a) : 1 ≤ 20 * a := (lh (.leaf a) (.c 1 (.num 1) v0 .n) (.num 1) (.mulL 20 v0) rfl h0)
theorem ar298 {a b : Nat} (h0 : a < b) : a < b + 1 := (lh (r2 a b) (.c 1 (p v0 (.num 1)) v1 .n) (p v0 (.num 1)) (p v1 (.num 1)) rfl h0)
theorem ar299 {a : Nat} (h0 : 10 ≤ a) : 3 ≤ a + 1 + 1 := (lhS (.leaf a) (.c 1 (.num 10) v0 .n) 9 (.num 3) (p (p v0 (.num 1)) (.num 1)) rfl h0)
theorem ar300 {a b : Nat} (h0 : b + 0 ≤ 3) (h1 : a ≤ b) : a ≤ 3 := (lh (r2 b a) (.c 1 (p v0 (.num 0)) (.num 3) (.c 1 v1 v0 .n)) v1 (.num 3) rfl h0 h1)
theorem ar301 {a b c : Nat} : a + 1 + (b + 1 + c) + 1 = a + (b + (c + 1 + 1) + 1) := by (first | lia | omega)
theorem ar302 {a b : Nat} (h0 : b ≤ 100) (h1 : a ≤ b + 1) : a ≤ 1000 := (lh (r2 b a) (.c 1 v0 (.num 100) (.c 1 v1 (p v0 (.num 1)) .n)) v1 (.num 1000) rfl h0 h1)
theorem ar303 {a b : Nat} (h0 : a ≤ b) : a ≤ b + 1 + 1 := (lh (r2 a b) (.c 1 v0 v1 .n) v0 (p (p v1 (.num 1)) (.num 1)) rfl h0)
theorem ar304 {a : Nat} (h0 : 10 ≤ a) : 7 ≤ a + 1 + 1 := by (first | lia | omega)
theorem ar305 {a b : Nat} (h0 : b + 2 ≤ a) : 1 ≤ a := (lhS (r2 b a) (.c 1 (p v0 (.num 2)) v1 .n) 1 (.num 1) v1 rfl h0)
theorem ar306 {a : Nat} (h0 : a ≤ 8) : 0 + (a + 3) + 1 ≤ 900000 := (lh (.leaf a) (.c 1 v0 (.num 8) .n) (p (p (.num 0) (p v0 (.num 3))) (.num 1)) (.num 900000) rfl h0)
theorem ar307 {a b : Nat} (h0 : a ≤ b) : a ≤ 1 + b := (lh (r2 a b) (.c 1 v0 v1 .n) v0 (p (.num 1) v1) rfl h0)
theorem ar308 {a : Nat} (h0 : a ≤ 1000) : 2 * a + 1 ≤ 3000 := (lh (.leaf a) (.c 2 v0 (.num 1000) .n) (p (.mulL 2 v0) (.num 1)) (.num 3000) rfl h0)
theorem ar309 {a : Nat} (h0 : a < 2) : a = 0 ∨ a = 1 := (by decide : ∀ a, a < 2 → a = 0 ∨ a = 1) a h0
theorem ar310 {a : Nat} : (a : Int) + 1 - 1 = a := by (first | lia | omega)
theorem ar311 {a b : Nat} (h0 : a + 1 ≤ b) : 1 + a ≤ b := (lh (r2 a b) (.c 1 (p v0 (.num 1)) v1 .n) (p (.num 1) v0) v1 rfl h0)
theorem ar312 {a : Int} (h0 : a ≤ 37) : a + 1 ≤ 40 := (li (.leaf a) (.c 1 w0 (.num 37) .n) (.num 3) (z w0 (.num 1)) (.num 40) rfl h0)
theorem ar313 {a : Nat} (h0 : ¬ (a < 2)) : ¬ ((a : Int) = 1) := (Int.ne_of_gt (li (.leaf a) (.c 1 (.num 2) w0 .n) (.num 1) (z (.num 1) (.num 1)) w0 rfl (qz (Nat.not_lt.mp h0))))
theorem ar314 {a : Nat} (h0 : ¬ (a < 2)) : ¬ (a = 0) := by (first | lia | omega)
theorem ar315 {a b c d : Nat} : a + (b + 1 + c) + d = a + b + 1 + c + d := by (first | lia | omega)
theorem ar316 {a : Nat} : a + 7 ≤ a + 9 := (lh (.leaf a) .n (p v0 (.num 7)) (p v0 (.num 9)) rfl )
theorem ar317 {a : Nat} : a + 1 + 1 + 1 + 2 ≤ a + 10 := (lh (.leaf a) .n (p (p (p (p v0 (.num 1)) (.num 1)) (.num 1)) (.num 2)) (p v0 (.num 10)) rfl )
theorem ar318 {a : Nat} (h0 : a < 4) : 0 + a ≤ 3 := (lh (.leaf a) (.c 1 (p v0 (.num 1)) (.num 4) .n) (p (.num 0) v0) (.num 3) rfl h0)
theorem ar319 {a b : Nat} (h0 : 1 + a ≤ b + 1) : a ≤ b := (lh (r2 a b) (.c 1 (p (.num 1) v0) (p v1 (.num 1)) .n) v0 v1 rfl h0)
theorem ar320 {a : Nat} (h0 : a < 2) (h1 : ¬ (a = 0)) : a = 1 := by (first | lia | omega)
theorem ar321 {a b : Nat} (h0 : b + 1 = a + 1) : a = b := by (first | lia | omega)
theorem ar322 {a : Nat} : (0 : Int) ≤ 4 * a := (li (.leaf a) (.c 4 (.num 0) w0 .n) (.num 1) (.num 0) (.mulL 4 w0) rfl (q0 a))
theorem ar323 {a b : Nat} (h0 : a + 2 ≤ b) : a + 2 ≤ b + 1 := (lh (r2 a b) (.c 1 (p v0 (.num 2)) v1 .n) (p v0 (.num 2)) (p v1 (.num 1)) rfl h0)
theorem ar324 {a b : Nat} (h0 : b ≤ 63) (h1 : a = b) : a ≤ 16777216 := (lh (r2 b a) (.c 1 v0 (.num 63) (.c 1 v1 v0 .n)) v1 (.num 16777216) rfl h0 (q1 h1))
theorem ar325 {a b : Nat} (h0 : a < b) : ¬ (a = b + 1) := (Nat.ne_of_lt (lh (r2 a b) (.c 1 (p v0 (.num 1)) v1 .n) (p v0 (.num 1)) (p v1 (.num 1)) rfl h0))
theorem ar326 {a b : Nat} : a + (b + 1) = a + b + 1 := by (first | lia | omega)
theorem ar327 {a : Nat} (h0 : a = 102400) : 0 + a ≤ 900000 := (lh (.leaf a) (.c 1 v0 (.num 102400) .n) (p (.num 0) v0) (.num 900000) rfl (q1 h0))
theorem ar328 {a : Nat} (h0 : a = 102400) : 0 + a ≤ 800000 := (lh (.leaf a) (.c 1 v0 (.num 102400) .n) (p (.num 0) v0) (.num 800000) rfl (q1 h0))
theorem ar329 {a b : Nat} : a + 1 + b = a + (b + 1) := by (first | lia | omega)
theorem ar330 {a b : Nat} (h0 : b ≤ a) (h1 : a < b + 1) : a = b := (qa (lh (r2 b a) (.c 1 (p v1 (.num 1)) (p v0 (.num 1)) .n) v1 v0 rfl h1) (lh (r2 b a) (.c 1 v0 v1 .n) v0 v1 rfl h0))
theorem ar331 {a : Nat} (h0 : a + 100 ≤ 900001) : a + 1 ≤ 1000000 := by (first | lia | omega)
theorem ar332 {a b : Nat} (h0 : a + 1 ≤ b + 1) : a ≤ b := (lh (r2 a b) (.c 1 (p v0 (.num 1)) (p v1 (.num 1)) .n) v0 v1 rfl h0)
theorem ar333 {a b : Nat} (h0 : a = 2 * b) : a + 1 + 1 = 2 * (b + 1) := by (first | lia | omega)
theorem ar334 {a : Int} (h0 : a < 4) : ¬ (a = 4) := (Int.ne_of_lt (li (.leaf a) (.c 1 (z w0 (.num 1)) (.num 4) .n) (.num 1) (z w0 (.num 1)) (.num 4) rfl h0))
theorem ar335 {a b : Nat} : a + 2 ≤ a + 2 + b := (lh (r2 a b) .n (p v0 (.num 2)) (p (p v0 (.num 2)) v1) rfl )
theorem ar336 {a : Nat} (h0 : a ≤ 37) : (0 : Int) + a ≤ 37 := (li (.leaf a) (.c 1 w0 (.num 37) .n) (.num 1) (z (.num 0) w0) (.num 37) rfl (qz h0))
theorem ar337 {a b c : Nat} (h0 : a < c) (h1 : b = c) : a ≠ b := (Nat.ne_of_lt (lh (r3 a c b) (.c 1 (p v0 (.num 1)) v1 (.c 1 v1 v2 .n)) (p v0 (.num 1)) v2 rfl h0 (q2 h1)))
theorem ar338 {a : Nat} : ¬ ((a : Int) < 0) := (Int.not_lt.mpr (li (.leaf a) (.c 1 (.num 0) w0 .n) (.num 1) (.num 0) w0 rfl (q0 a)))
theorem ar339 {a : Nat} (h0 : a ≤ 3) : 2 * a ≤ 999999 := (lh (.leaf a) (.c 2 v0 (.num 3) .n) (.mulL 2 v0) (.num 999999) rfl h0)
theorem ar340 {a : Nat} (h0 : a ≤ 3) : 2 * a ≤ 6 := (lh (.leaf a) (.c 2 v0 (.num 3) .n) (.mulL 2 v0) (.num 6) rfl h0)
theorem ar341 {a b c : Nat} : a + b + 1 + c = a + (b + 1 + c) := by (first | lia | omega)
theorem ar342 {a b : Nat} : (a : Int) + b + 1 + 1 + 1 + 1 + 1 - 2 = 0 + (a + 1 + 1 + 1) + b := by (first | lia | omega)
theorem ar343 {a : Int} (h0 : 0 ≤ a) : -2 ^ 63 ≤ a := (li (.leaf a) (.c 1 (.num 0) w0 .n) (.num 9223372036854775809) (.num (-9223372036854775808)) w0 rfl h0)
theorem ar344 {a : Nat} (h0 : a ≤ 60) : (a : Int) ≤ 60 := (li (.leaf a) (.c 1 w0 (.num 60) .n) (.num 1) w0 (.num 60) rfl (qz h0))
theorem ar345 {a : Nat} (h0 : a ≤ 999990) : a + 1 ≤ 1000000 := (lh (.leaf a) (.c 1 v0 (.num 999990) .n) (p v0 (.num 1)) (.num 1000000) rfl h0)
theorem ar346 {a : Nat} (h0 : a ≤ 1000000) : ¬ ((a : Int) ≥ 2 ^ 63) := (Int.not_le.mpr (li (.leaf a) (.c 1 w0 (.num 1000000) .n) (.num 9223372036853775808) (z w0 (.num 1)) (.num 9223372036854775808) rfl (qz h0)))
theorem ar347 {a b : Nat} : a + 1 + (b + 2) = a + (b + 1 + 1 + 1) := by (first | lia | omega)
theorem ar348 {a b : Nat} : max a b + 1 + 1 + 1 ≤ max a b + 10 := (lh (.leaf (max a b)) .n (p (p (p v0 (.num 1)) (.num 1)) (.num 1)) (p v0 (.num 10)) rfl )
theorem ar349 {a : Nat} (h0 : 20 ≤ a) : 20 + 1 ≤ a + 2 := (lhS (.leaf a) (.c 19 (.num 20) v0 .n) 19 (p (.num 20) (.num 1)) (p v0 (.num 2)) rfl h0)
theorem ar350 {a : Nat} (h0 : 10 ≤ a) : 6 ≤ a + 1 := (lhS (.leaf a) (.c 1 (.num 10) v0 .n) 1 (.num 6) (p v0 (.num 1)) rfl h0)
theorem ar351 {a : Nat} : 1 + (1 + a) = 2 + a := by (first | lia | omega)
theorem ar352 {a : Nat} {b : Int} : b ≤ b + a := (li (r2 b a) (.c 1 (.num 0) w1 .n) (.num 1) w0 (z w0 w1) rfl (q0 a))
theorem ar353 {a b : Nat} : a ≤ a + b := (lh (r2 a b) .n v0 (p v0 v1) rfl )
theorem ar354 {a : Nat} : a + 2 ≤ a + 2 + 1 := (lh (.leaf a) .n (p v0 (.num 2)) (p (p v0 (.num 2)) (.num 1)) rfl )
theorem ar355 {a b : Nat} : (a : Int) + b + 1 + 1 + 1 - 3 = 0 + a + b := by (first | lia | omega)
theorem ar356 {a b c : Nat} : a + (b + (c + 3 + 1) + 1) = a + (b + 1 + 1) + c + 3 := by (first | lia | omega)
theorem ar357 {a : Nat} {b : Int} (h0 : b = a) : 0 ≤ b := (li (r2 b a) (.c 1 (.num 0) w1 (.c 1 w1 w0 .n)) (.num 1) (.num 0) w0 rfl (q0 a) (Int.le_of_eq h0.symm))
theorem ar358 {a : Nat} (h0 : 10 ≤ a) : 3 ≤ a := (lhS (.leaf a) (.c 3 (.num 10) v0 .n) 9 (.num 3) v0 rfl h0)
theorem ar359 {a : Nat} (h0 : 10 ≤ a) : 6 ≤ a := (lhS (.leaf a) (.c 3 (.num 10) v0 .n) 4 (.num 6) v0 rfl h0)
theorem ar360 {a : Nat} (h0 : a + 1 ≤ 3) : a ≤ 2 := (lh (.leaf a) (.c 1 (p v0 (.num 1)) (.num 3) .n) v0 (.num 2) rfl h0)
theorem ar361 {a : Nat} (h0 : a + 2 ≤ 1000) : a ≤ 998 := (lh (.leaf a) (.c 1 (p v0 (.num 2)) (.num 1000) .n) v0 (.num 998) rfl h0)
theorem ar362 {a b : Nat} : a + 1 + (b + 1) = a + (b + 2) := by (first | lia | omega)
theorem ar363 {a : Nat} (h0 : a + 100 ≤ 900001) : a ≤ 1000000 := (lh (.leaf a) (.c 1 (p v0 (.num 100)) (.num 900001) .n) v0 (.num 1000000) rfl h0)
theorem ar364 {a b c d : Nat} : a + (b + c + d + 1) = a + b + c + d + 1 := by (first | lia | omega)
theorem ar365 {a : Nat} : a ≤ a + 5 := (lh (.leaf a) .n v0 (p v0 (.num 5)) rfl )
theorem ar366 {a b c : Nat} : a + (b + (c + 1) + 1 + 1) = a + b + c + 3 := by (first | lia | omega)
theorem ar367 {a b : Nat} (h0 : a ≤ b) (h1 : b ≤ a) : a = b := by (first | lia | omega)
theorem ar368 {a : Int} : a + 1 - 1 = a := by (first | lia | omega)
theorem ar369 {a b c d : Nat} : a + 1 + b + (c + d) = a + 1 + b + c + d := by (first | lia | omega)
theorem ar370 {a b c d : Nat} : a + b + 1 + c + d = a + b + 1 + (c + d) := by (first | lia | omega)
theorem ar371 {a b : Nat} {c : Int} : c - (a + (b + 1) + 1) + 1 = c - (b + 1) - a := by (first | lia | omega)
theorem ar372 {a b c : Nat} : (a : Int) + 2 + b + c = a + 1 + 1 + (b + c) := by (first | lia | omega)
theorem ar373 {a b c : Nat} : a + (b + c + 3) = a + b + 1 + c + 2 := by (first | lia | omega)
theorem ar374 {a : Nat} : 6 * a + 20 + 1 ≤ 6 * (a + 1) + 20 := (lh (.leaf a) .n (p (p (.mulL 6 v0) (.num 20)) (.num 1)) (p (.mulL 6 (p v0 (.num 1))) (.num 20)) rfl )
theorem ar375 {a b c : Nat} : a + b + 1 + c + 2 = a + b + 1 + (c + 2) := by (first | lia | omega)
theorem ar376 {a : Nat} : a < a + 1 + 1 + 1 + 1 + 1 + 1 + 1 := by (first | lia | omega)
theorem ar377 {a b : Nat} : a + (b + 2 + 1 + 1 + 1) = a + b + 5 := by (first | lia | omega)
theorem ar378 {a : Int} (h0 : 0 ≤ a) : ¬ (a < 0) := (Int.not_lt.mpr (li (.leaf a) (.c 1 (.num 0) w0 .n) (.num 1) (.num 0) w0 rfl h0))
theorem ar379 {a : Nat} : a < a + 1 + 1 + 1 + 1 + 1 + 1 := (lh (.leaf a) .n (p v0 (.num 1)) (p (p (p (p (p (p v0 (.num 1)) (.num 1)) (.num 1)) (.num 1)) (.num 1)) (.num 1)) rfl )
theorem ar380 {a b : Nat} : a + (b + 1 + 1 + 1 + 1) = a + b + 4 := by (first | lia | omega)
theorem ar381 {a b c : Nat} : (a : Int) + (b + (c + 1)) - (c + 1) = a + b := by (first | lia | omega)
theorem ar382 {a b c : Nat} : a + (b + c + 1) = a + b + 1 + c := by (first | lia | omega)
theorem ar383 {a : Nat} (h0 : 0 < a) : (a : Int) ≠ 0 := by (first | lia | omega)
theorem ar384 {a : Nat} : a < a + 1 + 1 + 1 + 1 := (lh (.leaf a) .n (p v0 (.num 1)) (p (p (p (p v0 (.num 1)) (.num 1)) (.num 1)) (.num 1)) rfl )
theorem ar385 {a b c : Nat} : a + b + (c + 1) = a + b + c + 1 := by (first | lia | omega)
theorem ar386 {a : Nat} : a + 1 + 1 ≤ a + 10 := (lh (.leaf a) .n (p (p v0 (.num 1)) (.num 1)) (p v0 (.num 10)) rfl )
theorem ar387 {a : Nat} (h0 : a ≠ 34) (h1 : a ≠ 10) : ¬ (34 = a) ∧ ¬ (10 = a) := by (first | lia | omega)
theorem ar388 {a b : Nat} : a + (b + 2 + 1) = a + b + 3 := by (first | lia | omega)
theorem ar389 {a : Nat} : a + 2 ≤ a + 10 := (lh (.leaf a) .n (p v0 (.num 2)) (p v0 (.num 10)) rfl )
theorem ar390 {a b : Nat} : a + 2 + b + 1 = a + 2 + (b + 1) := by (first | lia | omega)
theorem ar391 {a : Nat} : a + 5 ≤ a + 6 := (lh (.leaf a) .n (p v0 (.num 5)) (p v0 (.num 6)) rfl )
theorem ar392 {a b : Nat} : a + 1 + 0 + b = a + (b + 1) := by (first | lia | omega)
theorem ar393 {a b : Nat} : a + (b + 1 + 1) = a + b + 2 := by (first | lia | omega)
theorem ar394 {a : Nat} : 2 * a + 1 + 1 = 2 * (a + 1) := by (first | lia | omega)
theorem ar395 {a b : Nat} {c : Int} : c - a = c - (b + a) + b := by (first | lia | omega)
theorem ar396 {a b : Nat} : (a : Int) + 1 = a + (b + 1) - b := by (first | lia | omega)
theorem ar397 {a b : Nat} : (a : Int) + (b + 1) = a + 1 + b := by (first | lia | omega)
theorem ar398 {a b c : Nat} : a + (b + c) = a + b + c := by (first | lia | omega)
theorem ar399 {a : Nat} {b : Int} : b - (a + 1) + 1 = b - a := by (first | lia | omega)
theorem ar400 {a b : Nat} : 1 + (a + b) = 1 + a + b := by (first | lia | omega)
theorem ar401 {a : Int} : a - 1 + 1 = a := by (first | lia | omega)
theorem ar402 {a : Nat} : 100 * (a * 4) = 4 * (100 * a) := by (first | lia | omega)
theorem ar403 {a : Nat} : 2 + a = a + 1 + 1 := by (first | lia | omega)
theorem ar404 {a b : Nat} : a + 2 + b = a + (2 + b) := by (first | lia | omega)
theorem ar405 {a : Nat} : 4 * a * 4 = 4 * (4 * a) := by (first | lia | omega)
theorem ar406 {a : Nat} : a ≤ a + 2 := (lh (.leaf a) .n v0 (p v0 (.num 2)) rfl )
theorem ar407 {a : Nat} : a ≤ a + 1 := (lh (.leaf a) .n v0 (p v0 (.num 1)) rfl )
theorem ar408 {a : Nat} : a * 4 = 4 * a := by (first | lia | omega)
theorem ar409 {a : Nat} : a + 1 - 1 = a := by (first | lia | omega)
theorem ar410 : 0 + 1 + 1 ≤ 16777216 + 2 := (lh (.leaf 0) .n (p (p (.num 0) (.num 1)) (.num 1)) (p (.num 16777216) (.num 2)) rfl )
theorem ar411 {a : Nat} : 6 ≤ 6 * a + 20 := (lh (.leaf a) .n (.num 6) (p (.mulL 6 v0) (.num 20)) rfl )
theorem ar412 : -(1 : Int) < 0 := (li (.leaf 0) .n (.num 1) (z (.num (-1)) (.num 1)) (.num 0) rfl)
theorem ar413 : -(2 : Int) ^ 63 ≤ -1 := by (first | lia | omega)
theorem ar414 : 0 + 1 ≤ 16777216 + 1 := (lh (.leaf 0) .n (p (.num 0) (.num 1)) (p (.num 16777216) (.num 1)) rfl )
theorem ar415 {a b : Nat} (h0 : 0 = b + 1) : a + 12 ≤ 12 := by (first | lia | omega)
theorem ar416 : 0 ≤ 16777216 := (lh (.leaf 0) .n (.num 0) (.num 16777216) rfl )
theorem ar417 {a : Nat} : a + 1 ≠ a := (Nat.ne_of_gt (lh (.leaf a) .n (p v0 (.num 1)) (p v0 (.num 1)) rfl ))
theorem ar418 {a : Nat} : a ≠ a + 1 := (Nat.ne_of_lt (lh (.leaf a) .n (p v0 (.num 1)) (p v0 (.num 1)) rfl ))
theorem ar419 {a : Nat} : 1 ≤ a + 2 := (lh (.leaf a) .n (.num 1) (p v0 (.num 2)) rfl )
theorem ar420 : 999980 + 10 ≤ 1000000 := (lh (.leaf 0) .n (p (.num 999980) (.num 10)) (.num 1000000) rfl )
theorem ar421 {a : Nat} : 6 ≤ a + 6 := (lh (.leaf a) .n (.num 6) (p v0 (.num 6)) rfl )
theorem ar422 {a : Nat} : 6 ≤ a + 9 := (lh (.leaf a) .n (.num 6) (p v0 (.num 9)) rfl )
theorem ar423 {a : Nat} : 12 ≤ a + 12 := (lh (.leaf a) .n (.num 12) (p v0 (.num 12)) rfl )
theorem ar424 {a : Nat} (h0 : a ≠ 10) : ¬ (10 = a) := by (first | lia | omega)
end
section
inductive V where
  | none
  | bool (b : Bool)
  | int (i : Int)
  | str (s : Str)
  | tup (vs : List V)
  | obj (i : Nat)
  | glob (a : Addr)
  | typ (n : String)
  | blt (n : String)
inductive AObj where
  | inst (C : Addr) (fs : List (Str × V))
  | list (vs : List V)
  | dict (fs : List (Str × V))
structure Mp where
  r : Nat → Addr
  m : Nat → Addr
inductive VR (h : Heap) (r : Nat → Addr) (n : Nat) : Value → V → Prop
  | none : VR h r n .none .none
  | bool (b : Bool) : VR h r n (.bool b) (.bool b)
  | int (i : Int) (t : Tok) : VR h r n (.int i t) (.int i)
  | str (s : Str) (t : Tok) : VR h r n (.str s t) (.str s)
  | tup {a : Addr} {vs : List Value} {Vs : List V} (ht : IsTup h a vs.toArray) (hl : vs.length = Vs.length)
      (hv : ∀ (k : Nat) v W, vs[k]? = some v → Vs[k]? = some W → VR h r n v W) : VR h r n (.ref a) (.tup Vs)
  | obj (i : Nat) (hi : i < n) : VR h r n (.ref (r i)) (.obj i)
  | glob (a : Addr) : VR h r n (.ref a) (.glob a)
  | typ (x : String) : VR h r n (.type x) (.typ x)
  | blt (x : String) : VR h r n (.builtin x) (.blt x)
noncomputable def VRs (h : Heap) (r : Nat → Addr) (n : Nat) (vs : List Value) (Vs : List V) : Prop :=
  vs.length = Vs.length ∧ ∀ (k : Nat) v W, vs[k]? = some v → Vs[k]? = some W → VR h r n v W
theorem VRs.nil {h r n} : VRs h r n [] [] := ⟨rfl, fun _ _ _ e => by simp at e⟩
theorem VRs.cons {h r n v W vs Vs} (a : VR h r n v W) (b : VRs h r n vs Vs) : VRs h r n (v :: vs) (W :: Vs) := by
  refine ⟨by simp [b.1], fun k x X e1 e2 => ?_⟩
  cases k with
  | zero => simp at e1 e2; subst e1 e2; exact a
  | succ k => simp at e1 e2; exact b.2 k x X e1 e2
theorem VRs.of_cons {h r n v W vs Vs} (a : VRs h r n (v :: vs) (W :: Vs)) : VR h r n v W ∧ VRs h r n vs Vs :=
  ⟨a.2 0 _ _ rfl rfl, by simpa using a.1, fun k x X e1 e2 => a.2 (k + 1) x X (by simpa using e1) (by simpa using e2)⟩
theorem VRs.nil_iff {h r n vs} (a : VRs h r n vs []) : vs = [] := List.length_eq_zero_iff.mp a.1
theorem VRs.cons_iff {h r n vs W Vs} (a : VRs h r n vs (W :: Vs)) : ∃ v vs', vs = v :: vs' ∧ VR h r n v W ∧ VRs h r n vs' Vs := by
  cases vs with
  | nil => have := a.1; simp at this
  | cons v vs' => exact ⟨v, vs', rfl, a.of_cons⟩
theorem VRs.append {h r n vs Vs ws Ws} (a : VRs h r n vs Vs) (b : VRs h r n ws Ws) : VRs h r n (vs ++ ws) (Vs ++ Ws) := by
  induction Vs generalizing vs with
  | nil => obtain rfl := a.nil_iff; exact b
  | cons W Vs ih => obtain ⟨v, vs', rfl, a1, a2⟩ := a.cons_iff; exact VRs.cons a1 (ih a2)
theorem VRs.get {h r n vs Vs} {k : Nat} {W : V} (a : VRs h r n vs Vs) (e : Vs[k]? = some W) : ∃ v, vs[k]? = some v ∧ VR h r n v W := by
  have hk : k < vs.length := by rw [a.1]; exact (List.getElem?_eq_some_iff.mp e).1
  exact ⟨vs[k], List.getElem?_eq_getElem hk, a.2 k _ _ (List.getElem?_eq_getElem hk) e⟩
theorem VR.tup' {h r n a vs Vs} (ht : IsTup h a vs.toArray) (a' : VRs h r n vs Vs) : VR h r n (.ref a) (.tup Vs) := .tup ht a'.1 a'.2
inductive FR (w : World) (h : Heap) (r : Nat → Addr) (n : Nat) : List DictEntry → List (Str × V) → Prop
  | nil : FR w h r n [] []
  | cons {x : Str} {t : Tok} {v : Value} {W : V} {es fs} (hv : VR h r n v W) (hr : FR w h r n es fs) :
      FR w h r n (⟨PyData.keyHash w.params x, .str x t, v⟩ :: es) ((x, W) :: fs)
inductive KR (h : Heap) (r : Nat → Addr) (n : Nat) : List (Str × Value) → List (Str × V) → Prop
  | nil : KR h r n [] []
  | cons {x : Str} {v : Value} {W : V} {es fs} (hv : VR h r n v W) (hr : KR h r n es fs) : KR h r n ((x, v) :: es) ((x, W) :: fs)
inductive OR (pg : Program) (w : World) (h : Heap) (R : Mp) (n i : Nat) : AObj → Prop
  | inst {C : Addr} {es : List DictEntry} {ep : Nat} {fs} (hx : h.get? (R.r i) = some (instObj C (R.m i))) (hm : h.get? (R.m i) = some (dictOf es ep))
      (hf : FR w h R.r n es fs) (hn : (fs.map (·.1)).Nodup) : OR pg w h R n i (.inst C fs)
  | list {vs : List Value} {Vs : List V} {ep : Nat} (hr : R.r i = R.m i) (hm : h.get? (R.m i) = some (listOf vs.toArray ep)) (hv : VRs h R.r n vs Vs) : OR pg w h R n i (.list Vs)
  | dict {kvs : List (Str × Value)} {fs} (hr : R.r i = R.m i) (hm : h.DictOf (strKind pg w) (R.m i) kvs) (hf : KR h R.r n kvs fs) : OR pg w h R n i (.dict fs)
structure Cx where
  prog : Program
  w : World
  K : Frag
  B : Heap
  H : Heap
  p : Program
  loose : List Str
  mg : Str → Option Value
  mb : Str → Option Value
  gens : Array GenState
  os : OsState
structure Cx.Ok (Γ : Cx) : Prop where
  kin : Γ.K.In Γ.B
  bh : ∀ b o, Γ.B.get? b = some o → Γ.H.get? b = some o
  nolimit : Γ.B.NoLimit
  top : TopRead Γ.p Γ.loose Γ.mg Γ.mb Γ.B
  full : ∃ mean, Top Γ.p Γ.loose mean Γ.mg Γ.mb Γ.B
structure Rel (Γ : Cx) (st : List Env) (σ : List AObj) (R : Mp) (s : Shared) : Prop where
  keep : ∀ b o, Γ.H.get? b = some o → s.heap.get? b = some o
  obj : ∀ i ao, σ[i]? = some ao → OR Γ.prog Γ.w s.heap R σ.length i ao
  fresh : ∀ i, i < σ.length → Γ.H.get? (R.m i) = none
  inj : ∀ i j, i < σ.length → j < σ.length → R.m i = R.m j → i = j
  frs : s.heap.FunFrames Γ.B st
  off : ∀ env ∈ st, ∀ L, env.frame = some L → ∀ i, i < σ.length → R.m i ≠ L
  gens : s.gens = Γ.gens
  os : s.os = Γ.os
  top : Γ.B.objs.size ≤ s.heap.objs.size
structure Fn where
  q : Str
  scope : Scope
  f : Addr
  cd : Value
noncomputable abbrev Fn.env (F : Fn) (L : Addr) : Env := envOf F.q F.scope L F.f F.cd
structure Loc (Γ : Cx) (F : Fn) (L : Addr) (ℓ : List (Option V)) (n : Nat) (R : Mp) (m : Str → Option Value) (h : Heap) : Prop where
  fr : Fr Γ.B L h m
  hB : Γ.H.get? L = none
  loc : ∀ (k : Nat) x kd W, F.scope.names[k]? = some (x, kd) → ℓ[k]? = some (some W) → ∃ v, m x = some v ∧ VR h R.r n v W
structure AOk (A : Around) (st : List Env) (b : Nat) : Prop where
  frames : A.frames = some st
  handled : A.handled = none
  depth : A.depth + b < recursionLimit
  units : A.units + 10 * b < cLine
structure Ext (X : Option Addr) (n : Nat) (R : Mp) (h : Heap) (n' : Nat) (R' : Mp) (h' : Heap) : Prop where
  le : n ≤ n'
  r : ∀ i, i < n → R'.r i = R.r i
  m : ∀ i, i < n → R'.m i = R.m i
  keep : ∀ b o, h.get? b = some o → (∀ i, i < n → b ≠ R.m i) → some b ≠ X → h'.get? b = some o
  tup : ∀ a items, IsTup h a items → IsTup h' a items
  new : ∀ i, n ≤ i → i < n' → h.get? (R'.m i) = none
  live : ∀ i, i < n' → (h'.get? (R'.m i)).isSome = true
  liveX : ∀ L, X = some L → (h'.get? L).isSome = true
theorem Ext.refl {X n R h} (hl : ∀ i, i < n → (h.get? (R.m i)).isSome = true) (hX : ∀ L, X = some L → (h.get? L).isSome = true) : Ext X n R h n R h :=
  ⟨Nat.le_refl _, fun _ _ => rfl, fun _ _ => rfl, fun _ _ e _ _ => e, fun _ _ e => e, fun _ a b => absurd b (Nat.not_lt.mpr a), hl, hX⟩
theorem Ext.trans {X n R h n' R' h' n'' R'' h''} (a : Ext X n R h n' R' h') (b : Ext X n' R' h' n'' R'' h'') : Ext X n R h n'' R'' h'' := by
  have old : ∀ c, h'.get? c = none → h.get? c = none := fun c hc => by
    cases q : h.get? c with
    | none => rfl
    | some o =>
      by_cases hX : some c = X
      · have := a.liveX c hX.symm; rw [hc] at this; cases this
      · by_cases hj : ∃ j, j < n ∧ c = R.m j
        · obtain ⟨j, hj, rfl⟩ := hj
          have := a.live j (Nat.lt_of_lt_of_le hj a.le)
          rw [a.m j hj, hc] at this; cases this
        · have := a.keep c o q (fun i hi z => hj ⟨i, hi, z⟩) hX
          rw [hc] at this; cases this
  refine ⟨Nat.le_trans a.le b.le, fun i hi => (b.r i (Nat.lt_of_lt_of_le hi a.le)).trans (a.r i hi), fun i hi => (b.m i (Nat.lt_of_lt_of_le hi a.le)).trans (a.m i hi), ?_, fun x y e => b.tup _ _ (a.tup _ _ e), ?_, b.live, b.liveX⟩
  · intro c o e hc hX
    refine b.keep c o (a.keep c o e hc hX) (fun i hi => ?_) hX
    by_cases hin : i < n
    · rw [a.m i hin]; exact hc i hin
    · intro q
      have := a.new i (Nat.le_of_not_lt hin) hi
      rw [← q, e] at this; cases this
  · intro i h1 h2
    by_cases hi : i < n'
    · rw [b.m i hi]; exact a.new i h1 hi
    · exact old _ (b.new i (Nat.le_of_not_lt hi) h2)
theorem Ext.weak {L n R h n' R' h'} (a : Ext none n R h n' R' h') (hL : (h'.get? L).isSome = true) : Ext (some L) n R h n' R' h' :=
  ⟨a.le, a.r, a.m, fun b o e hb _ => a.keep b o e hb (by simp), a.tup, a.new, a.live, fun L' q => by cases q; exact hL⟩
structure Gr (n : Nat) (R : Mp) (h : Heap) (n' : Nat) (R' : Mp) (h' : Heap) : Prop where
  le : n ≤ n'
  r : ∀ i, i < n → R'.r i = R.r i
  m : ∀ i, i < n → R'.m i = R.m i
  tup : ∀ a items, IsTup h a items → IsTup h' a items
theorem Ext.gr {X n R h n' R' h'} (a : Ext X n R h n' R' h') : Gr n R h n' R' h' := ⟨a.le, a.r, a.m, a.tup⟩
theorem VR.gr {n R h n' R' h'} (a : Gr n R h n' R' h') {v W} (x : VR h R.r n v W) : VR h' R'.r n' v W := by
  induction x with
  | none => exact .none
  | bool b => exact .bool b
  | int i t => exact .int i t
  | str s t => exact .str s t
  | tup ht hl _ ih => exact .tup (a.tup _ _ ht) hl ih
  | obj i hi => rw [← a.r i hi]; exact .obj i (Nat.lt_of_lt_of_le hi a.le)
  | glob a => exact .glob a
  | typ n => exact .typ n
  | blt n => exact .blt n
theorem VRs.gr {n R h n' R' h'} (a : Gr n R h n' R' h') {vs Vs} (x : VRs h R.r n vs Vs) : VRs h' R'.r n' vs Vs := ⟨x.1, fun k v W e1 e2 => (x.2 k v W e1 e2).gr a⟩
theorem FR.gr {w n R h n' R' h'} (a : Gr n R h n' R' h') {es fs} (x : FR w h R.r n es fs) : FR w h' R'.r n' es fs := by
  induction x with
  | nil => exact .nil
  | cons hv _ ih => exact .cons (hv.gr a) ih
theorem KR.gr {n R h n' R' h'} (a : Gr n R h n' R' h') {es fs} (x : KR h R.r n es fs) : KR h' R'.r n' es fs := by
  induction x with
  | nil => exact .nil
  | cons hv _ ih => exact .cons (hv.gr a) ih
theorem VR.ext {X n R h n' R' h'} (a : Ext X n R h n' R' h') {v W} (x : VR h R.r n v W) : VR h' R'.r n' v W := x.gr a.gr
theorem VRs.ext {X n R h n' R' h'} (a : Ext X n R h n' R' h') {vs Vs} (x : VRs h R.r n vs Vs) : VRs h' R'.r n' vs Vs := x.gr a.gr
theorem OR.gr {pg w n R h n' R' h' i ao} (a : Gr n R h n' R' h') (hi : i < n) (k1 : ∀ o, h.get? (R.m i) = some o → h'.get? (R.m i) = some o)
    (k2 : ∀ C, h.get? (R.r i) = some (instObj C (R.m i)) → h'.get? (R.r i) = some (instObj C (R.m i))) (x : OR pg w h R n i ao) : OR pg w h' R' n' i ao := by
  have em := a.m i hi
  have er := a.r i hi
  cases x with
  | inst hx hm hf hn => exact .inst (by rw [em, er]; exact k2 _ hx) (by rw [em]; exact k1 _ hm) (hf.gr a) hn
  | list hr hm hv => exact .list (by rw [em, er]; exact hr) (by rw [em]; exact k1 _ hm) (hv.gr a)
  | dict hr hm hf =>
    obtain ⟨o, es, ep, ho, r⟩ := hm
    exact .dict (by rw [em, er]; exact hr) (by rw [em]; exact ⟨o, es, ep, k1 _ ho, r⟩) (hf.gr a)
theorem OR.ext {pg w X n R h n' R' h' i ao} (a : Ext X n R h n' R' h') (hi : i < n) (k1 : ∀ o, h.get? (R.m i) = some o → h'.get? (R.m i) = some o)
    (k2 : ∀ C, h.get? (R.r i) = some (instObj C (R.m i)) → h'.get? (R.r i) = some (instObj C (R.m i))) (x : OR pg w h R n i ao) : OR pg w h' R' n' i ao := x.gr a.gr hi k1 k2
theorem Rel.mObj {Γ st σ R s} (x : Rel Γ st σ R s) {i} (hi : i < σ.length) : ∃ o, s.heap.get? (R.m i) = some o ∧ (o.cls = .type "list" ∨ o.cls = .type "dict") ∧ o.isFreed = false := by
  obtain ⟨ao, e⟩ : ∃ ao, σ[i]? = some ao := ⟨_, List.getElem?_eq_getElem hi⟩
  have := x.obj i ao e
  cases this with
  | inst hx hm hf hn => exact ⟨_, hm, .inr rfl, rfl⟩
  | list hr hm hv => exact ⟨_, hm, .inl rfl, rfl⟩
  | dict hr hm hf =>
    obtain ⟨o, es, ep, ho, hx, hd, _⟩ := hm
    exact ⟨o, ho, .inr hx.1, by obtain ⟨c, d, dt, sl⟩ := o; simp only at hd; subst hd; rfl⟩
theorem Rel.notTup {Γ st σ R s} (x : Rel Γ st σ R s) {i} (hi : i < σ.length) {items} : ¬ IsTup s.heap (R.m i) items := by
  rintro ⟨o, ho, hc, _⟩
  obtain ⟨o', ho', hc', _⟩ := x.mObj hi
  rw [ho] at ho'; cases ho'
  rcases hc' with q | q <;> rw [hc] at q <;> exact absurd (Value.type.inj q) (by decide)
theorem Rel.notInst {Γ st σ R s} (x : Rel Γ st σ R s) {i a C dx} (hi : i < σ.length) (e : s.heap.get? a = some (instObj C dx)) : a ≠ R.m i := by
  rintro rfl
  obtain ⟨o', ho', hc', _⟩ := x.mObj hi
  rw [e] at ho'; cases ho'
  rcases hc' with q | q <;> cases q
noncomputable def KeepsL (X : Option Addr) (h h' : Heap) : Prop := ∀ b o, h.get? b = some o → some b ≠ X → h'.get? b = some o
theorem ns_notTup {h : Heap} {L m items} (hn : h.Ns L m) : ¬ IsTup h L items := by
  rintro ⟨o, ho, _, n, hd⟩
  obtain ⟨o', es, ep, ho', hd', _⟩ := hn
  rw [ho] at ho'; cases ho'; rw [hd] at hd'; cases hd'
theorem ns_notInst {h : Heap} {L m C dx} (hn : h.Ns L m) : h.get? L ≠ some (instObj C dx) := by
  intro e
  obtain ⟨o', es, ep, ho', hd', _⟩ := hn
  rw [e] at ho'; cases ho'; cases hd'
theorem Rel.live {Γ st σ R s} (x : Rel Γ st σ R s) : ∀ i, i < σ.length → (s.heap.get? (R.m i)).isSome = true := fun i hi => by
  obtain ⟨o, ho, _⟩ := x.mObj hi; rw [ho]; rfl
theorem ns_live {h : Heap} {L : Addr} {m} (hn : h.Ns L m) : (h.get? L).isSome = true := by obtain ⟨o, _, _, ho, _⟩ := hn; rw [ho]; rfl
theorem KeepsL.ext {Γ env st σ R s h' L m m'} (x : Rel Γ (env :: st) σ R s) (hf : env.frame = some L) (hn : s.heap.Ns L m) (hn' : h'.Ns L m') (k : KeepsL (some L) s.heap h') : Ext (some L) σ.length R s.heap σ.length R h' :=
  ⟨Nat.le_refl _, fun _ _ => rfl, fun _ _ => rfl, fun b o e _ hX => k b o e hX, fun a items z => (match z with | ⟨o, ho, r⟩ => ⟨o, k a o ho (fun q => by cases q; exact ns_notTup hn ⟨o, ho, r⟩), r⟩), fun i a b => absurd b (Nat.not_lt.mpr a),
    fun i hi => by
      obtain ⟨o, ho, _⟩ := x.mObj hi
      rw [k _ o ho (fun q => x.off env (.head _) L hf i hi (Option.some.inj q))]; rfl, fun L' q => by cases q; exact ns_live hn'⟩
theorem KeepsL.ext0 {Γ st σ R s h'} (x : Rel Γ st σ R s) (k : KeepsL none s.heap h') : Ext none σ.length R s.heap σ.length R h' :=
  ⟨Nat.le_refl _, fun _ _ => rfl, fun _ _ => rfl, fun b o e _ hX => k b o e hX, fun a items z => (match z with | ⟨o, ho, r⟩ => ⟨o, k a o ho (by simp), r⟩), fun i a b => absurd b (Nat.not_lt.mpr a),
    fun i hi => by
      obtain ⟨o, ho, _⟩ := x.mObj hi
      rw [k _ o ho (by simp)]; rfl, fun L' q => nomatch q⟩
theorem funFrames_keepsL {B h h' : Heap} {L : Addr} {m m' : Str → Option Value} (k : KeepsL (some L) h h') (hn : h.Ns L m) (hn' : h'.Ns L m') {st : List Env} (x : h.FunFrames B st) : h'.FunFrames B st := by
  induction st with
  | nil => trivial
  | cons env r ih =>
    obtain ⟨a, ⟨b, o, hf, e0, ho, hd⟩, x⟩ := x
    refine ⟨a, ?_, ih x⟩
    by_cases hb : b = L
    · obtain ⟨o', es, ep, ho', hd', _⟩ := hn'
      exact ⟨L, o', hb ▸ hf, hb ▸ e0, ho', fun vs q => nomatch hd'.symm.trans q⟩
    · exact ⟨b, o, hf, e0, k b o ho (fun q => hb (Option.some.inj q)), hd⟩
theorem funFrames_keeps {B h h' : Heap} (k : KeepsL none h h') {st : List Env} (x : h.FunFrames B st) : h'.FunFrames B st := by
  induction st with
  | nil => trivial
  | cons env r ih => obtain ⟨a, ⟨b, o, hf, e0, ho, hd⟩, x⟩ := x; exact ⟨a, ⟨b, o, hf, e0, k b o ho nofun, hd⟩, ih x⟩
theorem Rel.keepsL {Γ env st σ R s h' tk d L m m'} (x : Rel Γ (env :: st) σ R s) (hf : env.frame = some L) (hB : Γ.H.get? L = none) (hn : s.heap.Ns L m) (hn' : h'.Ns L m') (k : KeepsL (some L) s.heap h') (ha : Γ.B.objs.size ≤ L) :
    Rel Γ (env :: st) σ R { s with heap := h', toks := tk, drawn := d } := by
  have E := KeepsL.ext x hf hn hn' k
  refine ⟨fun b o e => k b o (x.keep b o e) (fun q => ?_), fun i ao e => ?_, x.fresh, x.inj, funFrames_keepsL k hn hn' x.frs, x.off, x.gens, x.os, Nat.le_trans ha (Nat.le_of_lt hn'.lt)⟩
  · rw [Option.some.inj q, hB] at e; cases e
  · have hi := (List.getElem?_eq_some_iff.mp e).1
    refine (x.obj i ao e).ext E hi (fun o ho => k _ o ho (fun q => ?_)) fun C hC => k _ _ hC (fun q => ?_)
    · exact x.off env (.head _) L hf i hi (Option.some.inj q)
    · exact ns_notInst hn (Option.some.inj q ▸ hC)
theorem Rel.keeps {Γ st σ R s h' tk d} (x : Rel Γ st σ R s) (k : KeepsL none s.heap h') (ht : Γ.B.objs.size ≤ h'.objs.size) :
    Rel Γ st σ R { s with heap := h', toks := tk, drawn := d } := by
  have E := KeepsL.ext0 x k
  refine ⟨fun b o e => k b o (x.keep b o e) (by simp), fun i ao e => ?_, x.fresh, x.inj, funFrames_keeps k x.frs, x.off, x.gens, x.os, ht⟩
  have hi := (List.getElem?_eq_some_iff.mp e).1
  exact (x.obj i ao e).ext E hi (fun o ho => k _ o ho (by simp)) fun C hC => k _ _ hC (by simp)
noncomputable def allNews (B h : Heap) (L : Addr) : List (Addr × Obj) := (List.range h.objs.size).filterMap fun b =>
  if b = L then none else match B.get? b with
    | some _ => none
    | none => (h.get? b).map fun o => (b, o)
theorem mem_allNews {B h : Heap} {L b : Addr} {o : Obj} : (b, o) ∈ allNews B h L ↔ h.get? b = some o ∧ b ≠ L ∧ B.get? b = none := by
  unfold allNews
  rw [List.mem_filterMap]
  constructor
  · rintro ⟨a, _, e⟩
    split at e
    · cases e
    · split at e
      · cases e
      · rename_i hL _ q
        obtain ⟨o', e1, e2⟩ := Option.map_eq_some_iff.mp e
        cases e2
        exact ⟨e1, hL, q⟩
  · rintro ⟨h1, h2, h3⟩
    refine ⟨b, List.mem_range.mpr (Heap.lt_size h1), ?_⟩
    rw [if_neg h2, h3, h1]; rfl
theorem allNews_ok (B h : Heap) (L : Addr) : News B L h (allNews B h L) := fun ⟨b, o⟩ hp => mem_allNews.mp hp
theorem keepsL_of_news {B h h' : Heap} {L : Addr} {m : Str → Option Value} (F : Fr B L h' m) (F1 : ∀ b o, B.get? b = some o → h.get? b = some o) (N : News B L h' (allNews B h L)) : KeepsL (some L) h h' := by
  intro b o e hX
  have hL : b ≠ L := fun q => hX (congrArg some q)
  cases q : B.get? b with
  | none => exact (N (b, o) (mem_allNews.mpr ⟨e, hL, q⟩)).1
  | some o' => have := F1 b o' q; rw [e] at this; cases this; exact F.keep b o q
noncomputable def VRI (r : Nat → Addr) (n : Nat) (v : Value) : V → Prop
  | .none => v = .none
  | .bool b => v = .bool b
  | .int i => ∃ t, v = .int i t
  | .str x => ∃ t, v = .str x t
  | .obj i => ∃ _ : i < n, v = .ref (r i)
  | .glob a => v = .ref a
  | .typ x => v = .type x
  | .blt x => v = .builtin x
  | .tup _ => ∃ (_ : True), True
theorem VR.inv {h : Heap} {r : Nat → Addr} {n : Nat} {v : Value} {W : V} (x : VR h r n v W) : VRI r n v W := by
  cases x with
  | none => rfl
  | bool b => rfl
  | int i t => exact ⟨t, rfl⟩
  | str x t => exact ⟨t, rfl⟩
  | tup => exact ⟨trivial, trivial⟩
  | obj i hi => exact ⟨hi, rfl⟩
  | glob a => rfl
  | typ x => rfl
  | blt x => rfl
end
section
noncomputable abbrev cTF : Addr := 81
inductive Tr (Γ : Cx) (h : Heap) (e dx : Addr) (vs : Array Value) (v3 : Value) : Prop
  | mk (T : Addr) (oT : Obj) (ts : Array Value) (h1 : vs[1]? = some (.ref T)) (h2 : Γ.H.get? T = none) (h3 : T ≠ e) (h4 : T ≠ dx) (h5 : h.get? T = some oT) (h6 : oT.data = .fields ts) (h7 : ts[3]? = some v3)
inductive ExcObj (h : Heap) (e dx : Addr) (vs : Array Value) : Prop
  | mk (oe : Obj) (h1 : h.get? e = some oe) (h2 : oe.cls = .ref cTF) (h3 : oe.dict = some dx) (h4 : oe.data = .fields vs)
inductive ExcDict (h : Heap) (dx : Addr) (k : Int) : Prop
  | mk (od : Obj) (es : Array DictEntry) (ep : Nat) (t : Tok) (h1 : h.get? dx = some od) (h2 : od.data = .dict es ep) (h3 : getL "spot" es.toList = some (some (.int k t)))
structure ExcCore (Γ : Cx) (st : List Env) (e dx : Addr) (vs : Array Value) (k : Int) (s : Shared) : Prop where
  obj : ExcObj s.heap e dx vs
  size : 1 < vs.size
  eH : Γ.H.get? e = none
  dict : ExcDict s.heap dx k
  dH : Γ.H.get? dx = none
  ne : dx ≠ e
  off : ∀ env ∈ st, env.frame ≠ some dx
  up : ∀ b o, Γ.H.get? b = some o → ∃ sl, s.heap.get? b = some { o with slots := sl } ∧ ((∀ env ∈ st, env.frame ≠ some b) → sl = o.slots)
  frs : s.heap.FunFrames Γ.B st
  gens : s.gens = Γ.gens
  os : s.os = Γ.os
inductive ExcIn (Γ : Cx) (st : List Env) (Lo : Option Addr) (x : Value) (k : Int) (s : Shared) : Prop
  | mk (e dx : Addr) (vs : Array Value) (hx : x = .ref e) (core : ExcCore Γ st e dx vs k s) (tr : vs[1]? = some .none ∨ Tr Γ s.heap e dx vs .none ∨ ∃ L, Lo = some L ∧ Tr Γ s.heap e dx vs (rawInt L))
inductive IntQ (a : V) (P : Int → Prop) : Prop
  | mk (i : Int) (h : a = .int i) (q : P i)
noncomputable abbrev Cx.M (Γ : Cx) : Model := model Γ.prog Γ.w
structure Post (Γ : Cx) (st : List Env) (F : Fn) (L : Addr) (m : Str → Option Value) (σ : List AObj) (R : Mp) (s : Shared) (σ' : List AObj) (R' : Mp) (s' : Shared) : Prop where
  rel : Rel Γ (F.env L :: st) σ' R' s'
  fr : Fr Γ.B L s'.heap m
  ext : Ext (some L) σ.length R s.heap σ'.length R' s'.heap
inductive QV (Γ : Cx) (st : List Env) (F : Fn) (L : Addr) (m : Str → Option Value) (σ : List AObj) (R : Mp) (s : Shared) (Q : V → List AObj → Prop) (v : Value) (s' : Shared) : Prop
  | mk (W : V) (σ' : List AObj) (R' : Mp) (P : Post Γ st F L m σ R s σ' R' s') (hv : VR s'.heap R'.r σ'.length v W) (hq : Q W σ')
inductive QL (Γ : Cx) (st : List Env) (F : Fn) (L : Addr) (m : Str → Option Value) (σ : List AObj) (R : Mp) (s : Shared) (Q : List V → List AObj → Prop) (v : List Value) (s' : Shared) : Prop
  | mk (W : List V) (σ' : List AObj) (R' : Mp) (P : Post Γ st F L m σ R s σ' R' s') (hv : VRs s'.heap R'.r σ'.length v W) (hq : Q W σ')
inductive QB (Γ : Cx) (st : List Env) (F : Fn) (L : Addr) (m : Str → Option Value) (σ : List AObj) (R : Mp) (s : Shared) (Q : Bool → List AObj → Prop) (b : Bool) (s' : Shared) : Prop
  | mk (σ' : List AObj) (R' : Mp) (P : Post Γ st F L m σ R s σ' R' s') (hq : Q b σ')
inductive QU (Γ : Cx) (st : List Env) (F : Fn) (L : Addr) (m : Str → Option Value) (σ : List AObj) (R : Mp) (s : Shared) (Q : List AObj → Prop) (s' : Shared) : Prop
  | mk (σ' : List AObj) (R' : Mp) (P : Post Γ st F L m σ R s σ' R' s') (hq : Q σ')
inductive EX (Γ : Cx) (st : List Env) (F : Fn) (L : Addr) (E : Int → Prop) (x : Value) (s' : Shared) : Prop
  | mk (k : Int) (h : ExcIn Γ (F.env L :: st) (some L) x k s') (e : E k)
structure We (Γ : Cx) (A : Around) (st : List Env) (F : Fn) (L : Addr) (e : Expr) (ℓ : List (Option V)) (σ : List AObj) (Q : V → List AObj → Prop) (E : Int → Prop) : Prop where
  mk :: h : ∀ s R m, Rel Γ (F.env L :: st) σ R s → Loc Γ F L ℓ σ.length R m s.heap → wpAny Γ.M A (eval e (F.env L)) (QV Γ st F L m σ R s Q) (EX Γ st F L E) s
structure Wes (Γ : Cx) (A : Around) (st : List Env) (F : Fn) (L : Addr) (es : List Expr) (pos : Pos) (ℓ : List (Option V)) (σ : List AObj) (Q : List V → List AObj → Prop) (E : Int → Prop) : Prop where
  mk :: h : ∀ s R m, Rel Γ (F.env L :: st) σ R s → Loc Γ F L ℓ σ.length R m s.heap → wpAny Γ.M A (spliced (backTo pos (starEach es (F.env L)))) (QL Γ st F L m σ R s Q) (EX Γ st F L E) s
structure Wt (Γ : Cx) (A : Around) (st : List Env) (F : Fn) (L : Addr) (e : Expr) (ℓ : List (Option V)) (σ : List AObj) (Q : Bool → List AObj → Prop) (E : Int → Prop) : Prop where
  mk :: h : ∀ s R m, Rel Γ (F.env L :: st) σ R s → Loc Γ F L ℓ σ.length R m s.heap → wpAny Γ.M A (isTrue e (F.env L) (eval e (F.env L))) (QB Γ st F L m σ R s Q) (EX Γ st F L E) s
section
variable {Γ : Cx} {A : Around} {st : List Env} {F : Fn} {L : Addr} {e : Expr} {ℓ : List (Option V)} {σ : List AObj} {Q : V → List AObj → Prop} {E : Int → Prop}
  {s : Shared} {R : Mp} {m : Str → Option Value}
theorem Rel.tok {Γ st σ R s} (x : Rel Γ st σ R s) (k : Tok) : Rel Γ st σ R { s with toks := k } := ⟨x.keep, x.obj, x.fresh, x.inj, x.frs, x.off, x.gens, x.os, x.top⟩
theorem Post.tok {σ' R' s'} (x : Post Γ st F L m σ R s σ' R' s') (k : Tok) : Post Γ st F L m σ R s σ' R' { s' with toks := k } := ⟨x.rel.tok k, x.fr, x.ext⟩
theorem Post.refl (r : Rel Γ (F.env L :: st) σ R s) (l : Loc Γ F L ℓ σ.length R m s.heap) : Post Γ st F L m σ R s σ R s := ⟨r, l.fr, .refl r.live fun L' q => by cases q; exact ns_live l.fr.ns⟩
theorem Post.trans {σ' R' s' σ'' R'' s''} (x : Post Γ st F L m σ R s σ' R' s') (y : Post Γ st F L m σ' R' s' σ'' R'' s'') : Post Γ st F L m σ R s σ'' R'' s'' := ⟨y.rel, y.fr, x.ext.trans y.ext⟩
theorem Loc.post {σ' R' s'} (l : Loc Γ F L ℓ σ.length R m s.heap) (x : Post Γ st F L m σ R s σ' R' s') : Loc Γ F L ℓ σ'.length R' m s'.heap :=
  ⟨x.fr, l.hB, fun k y kd W e1 e2 => let ⟨v, hv, hr⟩ := l.loc k y kd W e1 e2; ⟨v, hv, hr.ext x.ext⟩⟩
theorem Post.step {h' tk} {σ' R' s'} (x : Post Γ st F L m σ R s σ' R' s') (F' : Fr Γ.B L h' m) (N' : News Γ.B L h' (allNews Γ.B s'.heap L)) (hB : Γ.H.get? L = none) :
    Post Γ st F L m σ R s σ' R' { s' with heap := h', toks := tk } := by
  have k := keepsL_of_news F' x.fr.keep N'
  exact ⟨x.rel.keepsL (d := s'.drawn) rfl hB x.fr.ns F'.ns k x.fr.above, F', x.ext.trans (KeepsL.ext x.rel rfl x.fr.ns F'.ns k)⟩
theorem We.use {C : Value → Shared → Prop} (h : We Γ A st F L e ℓ σ Q E) (r : Rel Γ (F.env L :: st) σ R s) (l : Loc Γ F L ℓ σ.length R m s.heap)
    (k : ∀ v s1 W σ1 R1, Post Γ st F L m σ R s σ1 R1 s1 → VR s1.heap R1.r σ1.length v W → Q W σ1 → Loc Γ F L ℓ σ1.length R1 m s1.heap → C v s1) :
    wpAny Γ.M A (eval e (F.env L)) C (EX Γ st F L E) s :=
  wpAny_mono (h.1 s R m r l) (fun v s1 hpt => by obtain ⟨W, σ1, R1, P, hv, hq⟩ := hpt; exact k v s1 W σ1 R1 P hv hq (l.post P)) fun _ _ x => x
theorem Wes.use {es : List Expr} {pos : Pos} {Q : List V → List AObj → Prop} {C : List Value → Shared → Prop} (h : Wes Γ A st F L es pos ℓ σ Q E) (r : Rel Γ (F.env L :: st) σ R s) (l : Loc Γ F L ℓ σ.length R m s.heap)
    (k : ∀ v s1 W σ1 R1, Post Γ st F L m σ R s σ1 R1 s1 → VRs s1.heap R1.r σ1.length v W → Q W σ1 → Loc Γ F L ℓ σ1.length R1 m s1.heap → C v s1) :
    wpAny Γ.M A (spliced (backTo pos (starEach es (F.env L)))) C (EX Γ st F L E) s :=
  wpAny_mono (h.1 s R m r l) (fun v s1 hpt => by obtain ⟨W, σ1, R1, P, hv, hq⟩ := hpt; exact k v s1 W σ1 R1 P hv hq (l.post P)) fun _ _ x => x
theorem Wt.use {Q : Bool → List AObj → Prop} {C : Bool → Shared → Prop} (h : Wt Γ A st F L e ℓ σ Q E) (r : Rel Γ (F.env L :: st) σ R s) (l : Loc Γ F L ℓ σ.length R m s.heap)
    (k : ∀ b s1 σ1 R1, Post Γ st F L m σ R s σ1 R1 s1 → Q b σ1 → Loc Γ F L ℓ σ1.length R1 m s1.heap → C b s1) :
    wpAny Γ.M A (isTrue e (F.env L) (eval e (F.env L))) C (EX Γ st F L E) s :=
  wpAny_mono (h.1 s R m r l) (fun b s1 hpt => by obtain ⟨σ1, R1, P, hq⟩ := hpt; exact k b s1 σ1 R1 P hq (l.post P)) fun _ _ x => x
theorem We.mono {Q' E'} (h : We Γ A st F L e ℓ σ Q E) (hQ : ∀ W σ', Q W σ' → Q' W σ') (hE : ∀ k, E k → E' k) : We Γ A st F L e ℓ σ Q' E' :=
  .mk fun s R m r l => wpAny_mono (h.1 s R m r l) (fun v s1 hpt => by obtain ⟨W, σ1, R1, P, hv, hq⟩ := hpt; exact ⟨W, σ1, R1, P, hv, hQ _ _ hq⟩) fun x s' hpt => by obtain ⟨k, a, b⟩ := hpt; exact ⟨k, a, hE k b⟩
theorem We.cbool {b k pos} (h : Q (.bool b) σ) : We Γ A st F L (.Constant (.bool b) k pos) ℓ σ Q E := .mk fun s R m r l => wpAny_Constant_bool ⟨_, σ, R, .refl r l, .bool b, h⟩
theorem We.cint {i k pos} (h : Q (.int i) σ) : We Γ A st F L (.Constant (.int i) k pos) ℓ σ Q E := .mk fun s R m r l => wpAny_Constant_int ⟨_, σ, R, (Post.refl r l).tok _, .int i _, h⟩
theorem We.cstr {x k pos} (h : Q (.str x) σ) : We Γ A st F L (.Constant (.str x) k pos) ℓ σ Q E := .mk fun s R m r l => wpAny_Constant_str ⟨_, σ, R, (Post.refl r l).tok _, .str x _, h⟩
structure FnOk (F : Fn) : Prop where
  kind : F.scope.kind = .function
  nodup : (F.scope.names.map (·.1)).Nodup
  nodebug : ((F.scope.names.map (·.1)).contains ("__debug__" : Str)) = false
theorem lookup_of_mem {x : Str} {kd : NameKind} {l : List (Str × NameKind)} (hn : (l.map (·.1)).Nodup) (hm : (x, kd) ∈ l) : l.lookup x = some kd := by
  induction l with
  | nil => nomatch hm
  | cons p r ih =>
    rw [List.map_cons, List.nodup_cons] at hn
    rw [List.lookup_cons]
    rcases List.mem_cons.mp hm with q | q
    · rw [← q]; simp
    · have : (x == p.1) = false := beq_eq_false_iff_ne.mpr fun e => hn.1 (e ▸ List.mem_map_of_mem (f := (·.1)) q)
      rw [this]; exact ih hn.2 q
theorem FnOk.kindOf (O : FnOk F) {x kd} (h : (x, kd) ∈ F.scope.names) : (F.env L).kindOf x = some kd := lookup_of_mem O.nodup h
theorem FnOk.nodbg (O : FnOk F) {x kd} (h : (x, kd) ∈ F.scope.names) : (x == ("__debug__" : Str)) = false := by
  rw [beq_eq_false_iff_ne]; rintro rfl
  have := O.nodebug
  rw [List.contains_eq_any_beq, List.any_eq_false] at this
  exact this _ (List.mem_map_of_mem (f := (·.1)) h) (by simp)
inductive At : List (Str × NameKind) → List (Option V) → Str → V → Prop
  | head {x W ks ℓ} : At ((x, .local) :: ks) (some W :: ℓ) x W
  | tail {x W y o ks ℓ} (h : At ks ℓ x W) : At (y :: ks) (o :: ℓ) x W
theorem At.get {ks ℓ x W} (h : At ks ℓ x W) : ∃ k : Nat, ks[k]? = some (x, .local) ∧ ℓ[k]? = some (some W) := by
  induction h with
  | head => exact ⟨0, rfl, rfl⟩
  | tail _ ih => obtain ⟨k, a, b⟩ := ih; exact ⟨k + 1, a, b⟩
theorem We.name {x pos W} (O : FnOk F) (h : At F.scope.names ℓ x W) (hq : Q W σ) : We Γ A st F L (.Name x pos) ℓ σ Q E := .mk fun s R m r l => by
  obtain ⟨k, h1, h2⟩ := h.get
  obtain ⟨v, hv, hr⟩ := l.loc k x _ W h1 h2
  have hm := List.mem_of_getElem? h1
  exact nameX_L l.fr hv ⟨W, σ, R, .refl r l, hr, hq⟩ O.kind (O.kindOf hm) (O.nodbg hm)
inductive CR (K : Frag) : Value → V → Prop
  | none : CR K .none .none
  | int (i t) : CR K (.int i t) (.int i)
  | str (x t) : CR K (.str x t) (.str x)
  | tup {a d vs n sl Ws} (ho : K.lookup a = some ⟨.type "tuple", d, .seq vs n, sl⟩) (hl : vs.toList.length = Ws.length) (hv : ∀ (k : Nat) v W, vs.toList[k]? = some v → Ws[k]? = some W → CR K v W) : CR K (.ref a) (.tup Ws)
theorem CR.vr {K : Frag} {h : Heap} {r n} (X : K.In h) {v W} (c : CR K v W) : VR h r n v W := by
  induction c with
  | none => exact .none
  | int i t => exact .int i t
  | str x t => exact .str x t
  | tup ho hl _ ih => exact .tup ⟨_, X _ _ ho, rfl, _, rfl⟩ hl ih
inductive Glb (K : Frag) : Str → V → Prop
  | glob {x a} (h : nsIn K mainGlobals x = some (some (.ref a))) : Glb K x (.glob a)
  | cst {x v W} (h : nsIn K mainGlobals x = some (some v)) (hc : CR K v W) : Glb K x W
  | typ {x n} (h : nsIn K mainGlobals x = some none) (hb : bootBuiltins x = some (.type n)) (hn : x ≠ "__name__") : Glb K x (.typ n)
  | blt {x n} (h : nsIn K mainGlobals x = some none) (hb : bootBuiltins x = some (.builtin n)) (hn : x ≠ "__name__") : Glb K x (.blt n)
theorem We.gname {x pos W} (OΓ : Γ.Ok) (O : FnOk F) (hm : (x, NameKind.globalImplicit) ∈ F.scope.names) (h : Glb Γ.K x W) (hq : Q W σ) : We Γ A st F L (.Name x pos) ℓ σ Q E := .mk fun s R m r l => by
  cases h with
  | glob h => exact nameX_K l.fr OΓ.kin OΓ.top h ⟨_, σ, R, .refl r l, .glob _, hq⟩ O.kind (O.kindOf hm) (O.nodbg hm)
  | cst h hc => exact nameX_K l.fr OΓ.kin OΓ.top h ⟨_, σ, R, .refl r l, hc.vr (OΓ.kin.keeps l.fr.keep), hq⟩ O.kind (O.kindOf hm) (O.nodbg hm)
  | typ h hb hn => exact nameX_B l.fr OΓ.kin OΓ.top h hb hn ⟨_, σ, R, .refl r l, .typ _, hq⟩ O.kind (O.kindOf hm) (O.nodbg hm)
  | blt h hb hn => exact nameX_B l.fr OΓ.kin OΓ.top h hb hn ⟨_, σ, R, .refl r l, .blt _, hq⟩ O.kind (O.kindOf hm) (O.nodbg hm)
end
end
section
section
variable {Γ : Cx} {A : Around} {st : List Env} {F : Fn} {L : Addr} {e : Expr} {ℓ : List (Option V)} {σ : List AObj} {Q : V → List AObj → Prop} {E : Int → Prop}
  {s : Shared} {R : Mp} {m : Str → Option Value}
noncomputable def Mp.set (R : Mp) (i a b : Nat) : Mp := ⟨fun j => if j = i then a else R.r j, fun j => if j = i then b else R.m j⟩
theorem Mp.set_r (R : Mp) (i a b : Nat) : (R.set i a b).r i = a := by simp [Mp.set]
theorem Mp.set_m (R : Mp) (i a b : Nat) : (R.set i a b).m i = b := by simp [Mp.set]
theorem Mp.set_r_ne (R : Mp) {i j : Nat} (a b : Nat) (h : j ≠ i) : (R.set i a b).r j = R.r j := by simp [Mp.set, h]
theorem Mp.set_m_ne (R : Mp) {i j : Nat} (a b : Nat) (h : j ≠ i) : (R.set i a b).m j = R.m j := by simp [Mp.set, h]
theorem Gr.set {n R h a b} : Gr n R h (n + 1) (R.set n a b) h :=
  ⟨Nat.le_succ _, fun i hi => R.set_r_ne a b (Nat.ne_of_lt hi), fun i hi => R.set_m_ne a b (Nat.ne_of_lt hi), fun _ _ e => e⟩
theorem Ext.set {X n R h h' a b} (x : Ext X n R h n R h') (hb : h.get? b = none) (hl : (h'.get? b).isSome = true) : Ext X n R h (n + 1) (R.set n a b) h' :=
  ⟨Nat.le_succ _, fun i hi => R.set_r_ne a b (Nat.ne_of_lt hi), fun i hi => R.set_m_ne a b (Nat.ne_of_lt hi), x.keep, x.tup,
    fun i h1 h2 => by have : i = n := by (exact ar330 h1 h2)
                      subst this; rw [R.set_m]; exact hb,
    fun i hi => by
      by_cases h : i = n
      · subst h; rw [R.set_m]; exact hl
      · rw [R.set_m_ne a b h]; exact x.live i (by exact ar123 hi h), x.liveX⟩
theorem Rel.enter {Γ st σ R s} {a b : Addr} {ao : AObj} (x : Rel Γ st σ R s) (hfresh : ∀ i, i < σ.length → R.m i ≠ b) (hH : Γ.H.get? b = none) (hoff : ∀ env ∈ st, ∀ L, env.frame = some L → b ≠ L)
    (ho : OR Γ.prog Γ.w s.heap (R.set σ.length a b) (σ.length + 1) σ.length ao) : Rel Γ st (σ ++ [ao]) (R.set σ.length a b) s := by
  have hlen : (σ ++ [ao]).length = σ.length + 1 := by simp
  refine ⟨x.keep, fun i ao' e => ?_, fun i hi => ?_, fun i j hi hj q => ?_, x.frs, fun env he L hL i hi => ?_, x.gens, x.os, x.top⟩
  · rw [hlen]
    by_cases hi : i < σ.length
    · rw [List.getElem?_append_left hi] at e
      exact (x.obj i ao' e).gr Gr.set hi (fun _ y => y) fun _ y => y
    · have : i = σ.length := by
        have := (List.getElem?_eq_some_iff.mp e).1
        rw [hlen] at this; (exact ar281 hi this)
      subst this
      simp at e; subst e
      exact ho
  · rw [hlen] at hi
    by_cases h : i = σ.length
    · subst h; rw [R.set_m]; exact hH
    · rw [R.set_m_ne a b h]; exact x.fresh i (by exact ar123 hi h)
  · rw [hlen] at hi hj
    by_cases h : i = σ.length
    · by_cases h' : j = σ.length
      · rw [h, h']
      · subst h; rw [R.set_m, R.set_m_ne a b h'] at q; exact absurd q.symm (hfresh j (by exact ar123 hj h'))
    · by_cases h' : j = σ.length
      · subst h'; rw [R.set_m, R.set_m_ne a b h] at q; exact absurd q (hfresh i (by exact ar123 hi h))
      · rw [R.set_m_ne a b h, R.set_m_ne a b h'] at q; exact x.inj i j (by exact ar123 hi h) (by exact ar123 hj h') q
  · rw [hlen] at hi
    by_cases h : i = σ.length
    · subst h; rw [R.set_m]; exact hoff env he L hL
    · rw [R.set_m_ne a b h]; exact x.off env he L hL i (by exact ar123 hi h)
theorem funFrames_live {B h : Heap} {st : List Env} (hs : h.FunFrames B st) : ∀ env ∈ st, ∀ L, env.frame = some L → (h.get? L).isSome = true := by
  induction st with
  | nil => intro env he; cases he
  | cons e0 st ih =>
    intro env he L' hL'
    have hs2 : e0.scope.kind ≠ .module ∧ (∃ L o, e0.frame = some L ∧ B.get? L = none ∧ h.get? L = some o ∧ ∀ vs, o.data ≠ .fields vs) ∧ h.FunFrames B st := hs
    obtain ⟨_, ⟨L, o, hf, _, ho, _⟩, r⟩ := hs2
    rcases List.mem_cons.mp he with rfl | he
    · rw [hf] at hL'; cases hL'; rw [ho]; rfl
    · exact ih r env he L' hL'
theorem get_size_none (h : Heap) : h.get? h.objs.size = none := by
  cases q : h.get? h.objs.size with
  | none => rfl
  | some o => exact absurd (Heap.lt_size q) (Nat.lt_irrefl _)
theorem get_none_ge {h : Heap} {b : Nat} (hb : h.objs.size ≤ b) : h.get? b = none := by
  cases q : h.get? b with
  | none => rfl
  | some o => exact absurd (Heap.lt_size q) (Nat.not_lt.mpr hb)
theorem Post.fresh {σ' R' s'} (x : Post Γ st F L m σ R s σ' R' s') {b : Addr} (hb : s'.heap.get? b = none) :
    (∀ i, i < σ'.length → R'.m i ≠ b) ∧ Γ.H.get? b = none ∧ (∀ env ∈ (F.env L :: st), ∀ L', env.frame = some L' → b ≠ L') := by
  refine ⟨fun i hi q => ?_, ?_, fun env he L' hL' q => ?_⟩
  · have := x.rel.live i hi; rw [q, hb] at this; cases this
  · cases q : Γ.H.get? b with
    | none => rfl
    | some o => have := x.rel.keep b o q; rw [hb] at this; cases this
  · have := funFrames_live x.rel.frs env he L' hL'; rw [← q, hb] at this; cases this
theorem Post.enter {h' tk} {σ' R' s'} {a b : Addr} {ao : AObj} (x : Post Γ st F L m σ R s σ' R' s') (F' : Fr Γ.B L h' m) (k : KeepsL (some L) s'.heap h') (hB : Γ.H.get? L = none)
    (hb : s'.heap.get? b = none) (hl : (h'.get? b).isSome = true)
    (ho : OR Γ.prog Γ.w h' (R'.set σ'.length a b) (σ'.length + 1) σ'.length ao) :
    Post Γ st F L m σ R s (σ' ++ [ao]) (R'.set σ'.length a b) { s' with heap := h', toks := tk } := by
  have fr := x.fresh hb
  have y : Rel Γ (F.env L :: st) σ' R' { s' with heap := h', toks := tk } := x.rel.keepsL (d := s'.drawn) rfl hB x.fr.ns F'.ns k x.fr.above
  have E1 := (KeepsL.ext x.rel rfl x.fr.ns F'.ns k).set (a := a) hb hl
  refine ⟨y.enter fr.1 fr.2.1 fr.2.2 ho, F', ?_⟩
  rw [List.length_append]
  exact x.ext.trans E1
theorem Post.newList {h' tk} {σ' R' s'} {a : Addr} {vs : List Value} {Vs : List V} {ep : Nat} (x : Post Γ st F L m σ R s σ' R' s') (F' : Fr Γ.B L h' m) (N' : News Γ.B L h' (allNews Γ.B s'.heap L)) (hB : Γ.H.get? L = none)
    (ha : s'.heap.get? a = none) (ho : h'.get? a = some (listOf vs.toArray ep)) (hv : VRs s'.heap R'.r σ'.length vs Vs) :
    Post Γ st F L m σ R s (σ' ++ [.list Vs]) (R'.set σ'.length a a) { s' with heap := h', toks := tk } := by
  have k := keepsL_of_news F' x.fr.keep N'
  refine x.enter F' k hB ha (by rw [ho]; rfl) (.list (by rw [Mp.set_r, Mp.set_m]) (by rw [Mp.set_m]; exact ho) (VRs.gr Gr.set (hv.ext (KeepsL.ext x.rel rfl x.fr.ns F'.ns k))))
theorem Post.vrNew {σ' : List AObj} {R' : Mp} {ao : AObj} {h : Heap} {a b : Addr} : VR h (R'.set σ'.length a b).r (σ' ++ [ao]).length (.ref a) (.obj σ'.length) := by
  have := VR.obj (h := h) (r := (R'.set σ'.length a b).r) (n := (σ' ++ [ao]).length) σ'.length (by simp)
  rwa [Mp.set_r] at this
noncomputable def sizeLim : Nat := 1000000
theorem sizeLim_le : sizeLim ≤ sizeLine := by rw [sizeLine_eq]; decide
noncomputable def BinK (op : Operator) (a b : V) (σ : List AObj) (Q : V → List AObj → Prop) : Prop := match op, a, b with
  | .Add, .int i, .int j => Q (.int (i + j)) σ
  | .Sub, .int i, .int j => Q (.int (i - j)) σ
  | .Mult, .int i, .int j => (-(2 ^ 64) < i ∧ i < 2 ^ 64) ∧ Q (.int (i * j)) σ
  | .Mod, .int i, .int j => j ≠ 0 ∧ Q (.int (i.fmod j)) σ
  | .Add, .str x, .str y => x.length + y.length ≤ sizeLim ∧ Q (.str (x ++ y)) σ
  | .Add, .obj i, .obj j => ∃ xs ys, σ[i]? = some (.list xs) ∧ σ[j]? = some (.list ys) ∧ xs.length + ys.length ≤ sizeLim ∧ Q (.obj σ.length) (σ ++ [.list (xs ++ ys)])
  | _, _, _ => False
theorem Rel.list {Γ st σ R s i vs} (x : Rel Γ st σ R s) (h : σ[i]? = some (.list vs)) : ∃ l ep, R.r i = R.m i ∧ s.heap.get? (R.r i) = some (listOf l.toArray ep) ∧ VRs s.heap R.r σ.length l vs := by
  have := x.obj i _ h
  cases this with
  | list hr hm hv => exact ⟨_, _, hr, by rw [hr]; exact hm, hv⟩
theorem isList_listOf {h : Heap} {a vs ep} (e : h.get? a = some (listOf vs ep)) : h.IsList a vs := ⟨_, e, rfl, _, rfl⟩
theorem bin_sound {op : Operator} {va vb : Value} {a b : V} {σ' R' s'} (hB : Γ.H.get? L = none) (P : Post Γ st F L m σ R s σ' R' s') (ha : VR s'.heap R'.r σ'.length va a) (hb : VR s'.heap R'.r σ'.length vb b) (h : BinK op a b σ' Q) :
    wpAny Γ.M A (binaryOp op va vb) (QV Γ st F L m σ R s Q) (EX Γ st F L E) s' := by
  cases op <;> (first | exact h.elim | skip) <;> cases a <;> (first | exact h.elim | skip) <;> cases b <;> (first | exact h.elim | skip)
  · (obtain ⟨_, rfl⟩ := VR.inv ha); (obtain ⟨_, rfl⟩ := VR.inv hb); exact PyProof.Rows.add_int ⟨_, _, _, P.tok _, .int _ _, h⟩
  · (obtain ⟨_, rfl⟩ := VR.inv ha); (obtain ⟨_, rfl⟩ := VR.inv hb); exact PyProof.Rows.add_str (fun t' tk => ⟨_, _, _, P.tok _, .str _ _, h.2⟩) (Nat.le_trans h.1 sizeLim_le)
  · obtain ⟨xs, ys, h1, h2, h3, h4⟩ := h
    (obtain ⟨_, rfl⟩ := VR.inv ha); (obtain ⟨_, rfl⟩ := VR.inv hb)
    obtain ⟨l1, e1, r1, o1, v1⟩ := P.rel.list h1
    obtain ⟨l2, e2, r2, o2, v2⟩ := P.rel.list h2
    refine add_arrays P.fr (allNews_ok _ _ _) (isList_listOf o1) (isList_listOf o2) (fun h' F' N' => ?_) (by simp; rw [v1.1, v2.1]; exact Nat.le_trans h3 sizeLim_le)
    exact ⟨_, _, _, P.newList (tk := s'.toks) (ep := 0) F' (fun p hp => N' p (.tail _ hp)) hB (get_size_none _) (N' _ (.head _)).1 (by simpa using v1.append v2), Post.vrNew, h4⟩
  · (obtain ⟨_, rfl⟩ := VR.inv ha); (obtain ⟨_, rfl⟩ := VR.inv hb); exact PyProof.Rows.sub_int ⟨_, _, _, P.tok _, .int _ _, h⟩
  · (obtain ⟨_, rfl⟩ := VR.inv ha); (obtain ⟨_, rfl⟩ := VR.inv hb); exact PyProof.Rows.mul_int (Q := QV Γ st F L m σ R s Q) ⟨_, _, _, P.tok _, .int _ _, h.2⟩ (.of_left (intBits_le_64 h.1.1 h.1.2))
  · (obtain ⟨_, rfl⟩ := VR.inv ha); (obtain ⟨_, rfl⟩ := VR.inv hb); exact PyProof.Rows.mod_int h.1 ⟨_, _, _, P.tok _, .int _ _, h.2⟩
theorem We.bin {l r : Expr} {op pos} (h : We Γ A st F L l ℓ σ (fun a σ1 => We Γ A st F L r ℓ σ1 (fun b σ2 => BinK op a b σ2 Q) E) E) : We Γ A st F L (.BinOp l op r pos) ℓ σ Q E := .mk fun s R m rl lc => by
  show wpAny _ _ (do let a ← eval l (F.env L); let b ← holding [a] (eval r (F.env L)); standAt pos; operate [a, b] (binaryOp op a b)) _ _ _
  refine wpAny_bind (h.use rl lc fun va s1 a σ1 R1 P1 hva h1 l1 => wpAny_bind (wpAny_holding (h1.use P1.rel l1 fun vb s2 b σ2 R2 P2 hvb h2 l2 => wpAny_bind (wpAny_standAt (wpAny_operate' ?_)))))
  exact bin_sound lc.hB (P1.trans P2) (hva.ext P2.ext) hvb h2
noncomputable def CmpK (Γ : Cx) (op : CmpOp) (a b : V) (P : Bool → Prop) : Prop := match op, a, b with
  | .Lt, .int i, .int j => P (decide (i < j))
  | .LtE, .int i, .int j => P (decide (i ≤ j))
  | .Gt, .int i, .int j => P (decide (j < i))
  | .GtE, .int i, .int j => P (decide (j ≤ i))
  | .Eq, .int i, .int j => P (i == j)
  | .NotEq, .int i, .int j => P (i != j)
  | .Eq, .str x, .str y => P (x == y)
  | .NotEq, .str x, .str y => P (x != y)
  | .In, .str x, .str y => P (Txt.contains y x)
  | .NotIn, .str x, .str y => P (!Txt.contains y x)
  | .In, .str x, .tup Ws => ∃ ys : List Str, Ws = ys.map V.str ∧ P (ys.any (· == x))
  | .NotIn, .str x, .tup Ws => ∃ ys : List Str, Ws = ys.map V.str ∧ P (!ys.any (· == x))
  | .In, .str x, .glob a => ∃ es n r, Γ.K.lookup a = some ⟨.type "dict", none, .dict es n, #[]⟩ ∧ KeysLit Γ.w.params es.toList ∧ nsIn Γ.K a x = some r ∧ (a == sysModules) = false ∧ P r.isSome
  | _, _, _ => False
theorem VRs.strs {h r n vs ys} (x : VRs h r n vs (ys.map V.str)) : StrsAre vs ys := by
  induction ys generalizing vs with
  | nil => obtain rfl := x.nil_iff; exact .nil
  | cons y ys ih =>
    obtain ⟨v, vs', rfl, a, b⟩ := x.cons_iff
    obtain ⟨_, rfl⟩ := VR.inv a
    exact .cons _ _ (ih b)
theorem VR.isTup {h r n v Ws} (x : VR h r n v (.tup Ws)) : ∃ a vs, v = .ref a ∧ IsTup h a vs.toArray ∧ VRs h r n vs Ws := by
  cases x with
  | tup ht hl hv => exact ⟨_, _, rfl, ht, hl, hv⟩
theorem cmp_sound {op : CmpOp} {va vb : Value} {a b : V} {P : Bool → Prop} {E' : Value → Shared → Prop} {σ' : List AObj} {R' : Mp} (O : Γ.Ok) (F0 : Fr Γ.B L s.heap m) (ha : VR s.heap R'.r σ'.length va a) (hb : VR s.heap R'.r σ'.length vb b) (h : CmpK Γ op a b P) :
    wpAny Γ.M A (compareOp op va vb) (fun v s' => ∃ c tk, v = .bool c ∧ P c ∧ s' = { s with toks := tk }) E' s := by
  cases op <;> (first | exact h.elim | skip) <;> cases a <;> (first | exact h.elim | skip) <;> cases b <;> (first | exact h.elim | skip)
  · (obtain ⟨_, rfl⟩ := VR.inv ha); (obtain ⟨_, rfl⟩ := VR.inv hb); exact PyProof.Rows.eq_int ⟨_, s.toks, rfl, h, rfl⟩
  · (obtain ⟨_, rfl⟩ := VR.inv ha); (obtain ⟨_, rfl⟩ := VR.inv hb); exact PyProof.Rows.eq_str ⟨_, s.toks, rfl, h, rfl⟩
  · (obtain ⟨_, rfl⟩ := VR.inv ha); (obtain ⟨_, rfl⟩ := VR.inv hb); exact PyProof.Rows.ne_int ⟨_, s.toks, rfl, h, rfl⟩
  · (obtain ⟨_, rfl⟩ := VR.inv ha); (obtain ⟨_, rfl⟩ := VR.inv hb); exact PyProof.Rows.ne_str ⟨_, s.toks, rfl, h, rfl⟩
  · (obtain ⟨_, rfl⟩ := VR.inv ha); (obtain ⟨_, rfl⟩ := VR.inv hb); exact PyProof.Rows.lt_int ⟨_, s.toks, rfl, h, rfl⟩
  · (obtain ⟨_, rfl⟩ := VR.inv ha); (obtain ⟨_, rfl⟩ := VR.inv hb); exact PyProof.Rows.le_int ⟨_, s.toks, rfl, h, rfl⟩
  · (obtain ⟨_, rfl⟩ := VR.inv ha); (obtain ⟨_, rfl⟩ := VR.inv hb); exact PyProof.Rows.gt_int ⟨_, s.toks, rfl, h, rfl⟩
  · (obtain ⟨_, rfl⟩ := VR.inv ha); (obtain ⟨_, rfl⟩ := VR.inv hb); exact PyProof.Rows.ge_int ⟨_, s.toks, rfl, h, rfl⟩
  · (obtain ⟨_, rfl⟩ := VR.inv ha); (obtain ⟨_, rfl⟩ := VR.inv hb); exact PySem.P.in_str ⟨_, s.toks, rfl, h, rfl⟩
  · obtain ⟨ys, rfl, h⟩ := h
    (obtain ⟨_, rfl⟩ := VR.inv ha)
    obtain ⟨t, vs, rfl, ht, hv⟩ := hb.isTup
    exact in_tuple_strs ht (by simpa using hv.strs) ⟨_, s.toks, rfl, h, rfl⟩
  · obtain ⟨es, n, r, h1, h2, h3, h4, h5⟩ := h
    (obtain ⟨_, rfl⟩ := VR.inv ha); (obtain rfl := VR.inv hb)
    exact topIn_K F0 O.kin h1 h2 h3 h4 ⟨_, _, rfl, h5, rfl⟩
  · (obtain ⟨_, rfl⟩ := VR.inv ha); (obtain ⟨_, rfl⟩ := VR.inv hb); exact PySem.P.notIn_str ⟨_, s.toks, rfl, h, rfl⟩
  · obtain ⟨ys, rfl, h⟩ := h
    (obtain ⟨_, rfl⟩ := VR.inv ha)
    obtain ⟨t, vs, rfl, ht, hv⟩ := hb.isTup
    exact notin_tuple_strs ht (by simpa using hv.strs) ⟨_, s.toks, rfl, h, rfl⟩
theorem We.cmp {l r : Expr} {op pos} (O : Γ.Ok) (h : We Γ A st F L l ℓ σ (fun a σ1 => We Γ A st F L r ℓ σ1 (fun b σ2 => CmpK Γ op a b fun c => Q (.bool c) σ2) E) E) (hm : behindInMarks op r = false := by with_unfolding_all rfl) : We Γ A st F L (.Compare l [op] [r] pos) ℓ σ Q E := .mk fun s R m rl lc => by
  refine wpAny_Compare1 (h.use rl lc fun va s1 a σ1 R1 P1 hva h1 l1 => h1.use P1.rel l1 fun vb s2 b σ2 R2 P2 hvb h2 l2 => ?_) hm
  refine wpAny_mono (cmp_sound O l2.fr (hva.ext P2.ext) hvb h2) (fun v s' hpat => ?_) fun _ _ x => x
  obtain ⟨c, tk, e1, e2, e3⟩ := hpat
  subst e1 e3
  exact ⟨_, _, _, (P1.trans P2).tok tk, .bool c, e2⟩
theorem Wt.cmp {l r : Expr} {op pos} {Q : Bool → List AObj → Prop} (O : Γ.Ok) (h : We Γ A st F L l ℓ σ (fun a σ1 => We Γ A st F L r ℓ σ1 (fun b σ2 => CmpK Γ op a b fun c => Q c σ2) E) E) (hm : behindInMarks op r = false := by with_unfolding_all rfl) : Wt Γ A st F L (.Compare l [op] [r] pos) ℓ σ Q E := .mk fun s R m rl lc => by
  refine wpAny_isTrue_Compare1 (h.use rl lc fun va s1 a σ1 R1 P1 hva h1 l1 => h1.use P1.rel l1 fun vb s2 b σ2 R2 P2 hvb h2 l2 => ?_) hm
  refine wpAny_mono (cmp_sound O l2.fr (hva.ext P2.ext) hvb h2) (fun v s' hpat => ?_) fun _ _ x => x
  obtain ⟨c, tk, e1, e2, e3⟩ := hpat
  subst e1 e3
  exact wpAny_truthy_bool ⟨_, _, (P1.trans P2).tok tk, e2⟩
noncomputable def TruK (a : V) (P : Bool → Prop) : Prop := match a with
  | .bool b => P b
  | .none => P false
  | .int i => P (i != 0)
  | _ => False
theorem tru_sound {va : Value} {a : V} {P : Bool → Prop} {E' : Value → Shared → Prop} {h r n} (ha : VR h r n va a) (hk : TruK a P) : wpAny Γ.M A (truthy va) (fun b s' => P b ∧ s' = s) E' s := by
  cases a <;> first | exact hk.elim | skip
  · (obtain rfl := VR.inv ha); exact truthy_none ⟨hk, rfl⟩
  · (obtain rfl := VR.inv ha); exact wpAny_truthy_bool ⟨hk, rfl⟩
  · (obtain ⟨_, rfl⟩ := VR.inv ha); exact PyProof.Rows.truthy_int ⟨hk, rfl⟩
theorem Wt.plain {Q : Bool → List AObj → Prop} (h : We Γ A st F L e ℓ σ (fun a σ1 => TruK a fun b => Q b σ1) E) (he : ∀ env whole, isTrue e env whole = (do let v ← whole; standAt e.pos; holding [v] (truthy v)) := by intros; rfl) : Wt Γ A st F L e ℓ σ Q E := .mk fun s R m rl lc => by
  refine isTrue_plain (h.use rl lc fun va s1 a σ1 R1 P1 hva h1 l1 => wpAny_mono (tru_sound hva h1) (fun b s' hpat => ?_) fun _ _ x => x) (he _ _)
  obtain ⟨x, y⟩ := hpat
  subst y
  exact ⟨_, _, P1, x⟩
theorem Wt.not {x pos} {Q : Bool → List AObj → Prop} (h : Wt Γ A st F L x ℓ σ (fun b => Q (!b)) E) : Wt Γ A st F L (.UnaryOp .Not x pos) ℓ σ Q E := .mk fun s R m rl lc =>
  isTrue_not (h.use rl lc fun b s1 σ1 R1 P1 h1 _ => ⟨_, _, P1, h1⟩)
theorem Wt.mono {Q Q' : Bool → List AObj → Prop} {E'} (h : Wt Γ A st F L e ℓ σ Q E) (hQ : ∀ W σ', Q W σ' → Q' W σ') (hE : ∀ k, E k → E' k) : Wt Γ A st F L e ℓ σ Q' E' :=
  .mk fun s R m r l => wpAny_mono (h.1 s R m r l) (fun v s1 hpt => by obtain ⟨σ1, R1, P, hq⟩ := hpt; exact ⟨σ1, R1, P, hQ _ _ hq⟩) fun x s' hpt => by obtain ⟨k, a, b⟩ := hpt; exact ⟨k, a, hE k b⟩
noncomputable def WtAnd (Γ : Cx) (A : Around) (st : List Env) (F : Fn) (L : Addr) (ℓ : List (Option V)) (Q : Bool → List AObj → Prop) (E : Int → Prop) : List Expr → List AObj → Prop
  | [], σ => Q true σ
  | x :: r, σ => Wt Γ A st F L x ℓ σ (fun b σ1 => if b then WtAnd Γ A st F L ℓ Q E r σ1 else Q false σ1) E
noncomputable def WtOr (Γ : Cx) (A : Around) (st : List Env) (F : Fn) (L : Addr) (ℓ : List (Option V)) (Q : Bool → List AObj → Prop) (E : Int → Prop) : List Expr → List AObj → Prop
  | [], σ => Q false σ
  | x :: r, σ => Wt Γ A st F L x ℓ σ (fun b σ1 => if b then Q true σ1 else WtOr Γ A st F L ℓ Q E r σ1) E
theorem Wt.and {xs pos} {Q : Bool → List AObj → Prop} (h : WtAnd Γ A st F L ℓ Q E xs σ) : Wt Γ A st F L (.BoolOp .And xs pos) ℓ σ Q E := by
  induction xs generalizing σ with
  | nil => exact .mk fun s R m rl lc => isTrue_and_nil ⟨_, _, .refl rl lc, h⟩
  | cons x r ih =>
    refine .mk fun s R m rl lc => ?_
    refine isTrue_and (Wt.use h rl lc fun b s1 σ1 R1 P1 h1 l1 => ?_)
    cases b with
    | false => exact ⟨_, _, P1, h1⟩
    | true => exact wpAny_mono ((ih h1).1 s1 R1 m P1.rel l1) (fun b s2 hpt => by obtain ⟨σ2, R2, P2, h2⟩ := hpt; exact ⟨_, _, P1.trans P2, h2⟩) fun _ _ x => x
theorem Wt.or {xs pos} {Q : Bool → List AObj → Prop} (h : WtOr Γ A st F L ℓ Q E xs σ) : Wt Γ A st F L (.BoolOp .Or xs pos) ℓ σ Q E := by
  induction xs generalizing σ with
  | nil => exact .mk fun s R m rl lc => isTrue_or_nil ⟨_, _, .refl rl lc, h⟩
  | cons x r ih =>
    refine .mk fun s R m rl lc => ?_
    refine isTrue_or (Wt.use h rl lc fun b s1 σ1 R1 P1 h1 l1 => ?_)
    cases b with
    | true => exact ⟨_, _, P1, h1⟩
    | false => exact wpAny_mono ((ih h1).1 s1 R1 m P1.rel l1) (fun b s2 hpt => by obtain ⟨σ2, R2, P2, h2⟩ := hpt; exact ⟨_, _, P1.trans P2, h2⟩) fun _ _ x => x
theorem We.and2 {a b pos} (h : We Γ A st F L a ℓ σ (fun v σ1 => TruK v fun c => if c then We Γ A st F L b ℓ σ1 Q E else Q v σ1) E) : We Γ A st F L (.BoolOp .And [a, b] pos) ℓ σ Q E := .mk fun s R m rl lc => by
  refine BoolOp_and (h.use rl lc fun va s1 a σ1 R1 P1 hva h1 l1 => wpAny_mono (tru_sound hva h1) (fun c s' hpat => ?_) fun _ _ x => x)
  obtain ⟨x, y⟩ := hpat
  subst y
  cases c with
  | false => exact ⟨_, _, _, P1, hva, x⟩
  | true => exact BoolOp_one (We.use (by simpa using x) P1.rel l1 fun vb s2 b σ2 R2 P2 hvb h2 l2 => ⟨_, _, _, P1.trans P2, hvb, h2⟩)
theorem We.ifexp {t a b pos} (h : Wt Γ A st F L t ℓ σ (fun c σ1 => if c then We Γ A st F L a ℓ σ1 Q E else We Γ A st F L b ℓ σ1 Q E) E) : We Γ A st F L (.IfExp t a b pos) ℓ σ Q E := .mk fun s R m rl lc => by
  refine IfExp_ (h.use rl lc fun c s1 σ1 R1 P1 h1 l1 => ?_)
  cases c with
  | true => exact We.use (by simpa using h1) P1.rel l1 fun vb s2 b σ2 R2 P2 hvb h2 l2 => ⟨_, _, _, P1.trans P2, hvb, h2⟩
  | false => exact We.use (by simpa using h1) P1.rel l1 fun vb s2 b σ2 R2 P2 hvb h2 l2 => ⟨_, _, _, P1.trans P2, hvb, h2⟩
theorem We.neg {x pos} (h : We Γ A st F L x ℓ σ (fun a σ1 => IntQ a fun i => Q (.int (-i)) σ1) E) : We Γ A st F L (.UnaryOp .USub x pos) ℓ σ Q E := .mk fun s R m rl lc => by
  show wpAny _ _ (do let v ← eval x (F.env L); standAt pos; holding [v] (unaryOp .USub v)) _ _ _
  refine wpAny_bind (h.use rl lc fun va s1 a σ1 R1 P1 hva h1 l1 => wpAny_bind (wpAny_standAt (wpAny_holding ?_)))
  obtain ⟨i, rfl, h⟩ := h1
  (obtain ⟨_, rfl⟩ := VR.inv hva)
  exact PyProof.Rows.neg_int ⟨_, _, _, P1.tok _, .int _ _, h⟩
theorem Wes.nil {pos} {Q : List V → List AObj → Prop} (h : Q [] σ) : Wes Γ A st F L [] pos ℓ σ Q E := .mk fun s R m rl lc => spliced_nil ⟨_, _, _, .refl rl lc, .nil, h⟩
theorem Wes.cons {x es pos} {Q : List V → List AObj → Prop} (h : We Γ A st F L x ℓ σ (fun a σ1 => Wes Γ A st F L es pos ℓ σ1 (fun as σ2 => Q (a :: as) σ2) E) E)
    (he : ∀ env, starEach (x :: es) env = (false, eval x env) :: starEach es env := by intro; rfl) : Wes Γ A st F L (x :: es) pos ℓ σ Q E := .mk fun s R m rl lc => by
  rw [he]
  refine spliced_cons (h.use rl lc fun va s1 a σ1 R1 P1 hva h1 l1 => h1.use P1.rel l1 fun vs s2 as σ2 R2 P2 hvs h2 l2 => ⟨_, _, _, P1.trans P2, .cons (hva.ext P2.ext) hvs, h2⟩)
theorem We.tuple {es k pos} (hl : es.length ≤ 100) (h : Wes Γ A st F L es pos ℓ σ (fun as σ1 => as.length ≤ 1000 ∧ Q (.tup as) σ1) E) : We Γ A st F L (.Tuple es k pos) ℓ σ Q E := .mk fun s R m rl lc => by
  refine Tuple_ (h.use rl lc fun vs s1 as σ1 R1 P1 hvs h1 l1 => ?_)
  refine newTuple_N P1.fr (allNews_ok _ _ _) (fun h' F' N' => ?_) (by rw [hvs.1, sizeLine_eq]; have := h1.1; (exact Nat.le_trans (by assumption) (by decide)))
  have ha := (N' _ (.head _)).1
  have k := keepsL_of_news F' P1.fr.keep (fun p hp => N' p (.tail _ hp))
  have P2 := P1.step (tk := s1.toks) F' (fun p hp => N' p (.tail _ hp)) lc.hB
  exact ⟨_, _, _, P2, .tup' ⟨_, ha, rfl, _, rfl⟩ (hvs.ext (KeepsL.ext P1.rel rfl P1.fr.ns F'.ns k)), h1.2⟩
theorem We.list {es pos} (h : Wes Γ A st F L es pos ℓ σ (fun as σ1 => as.length ≤ 1000 ∧ Q (.obj σ1.length) (σ1 ++ [.list as])) E) : We Γ A st F L (.List es pos) ℓ σ Q E := .mk fun s R m rl lc => by
  refine List_ (h.use rl lc fun vs s1 as σ1 R1 P1 hvs h1 l1 => ?_)
  refine newList_N P1.fr (allNews_ok _ _ _) (fun h' F' N' => ?_) (by rw [hvs.1, sizeLine_eq]; have := h1.1; (exact Nat.le_trans (by assumption) (by decide)))
  exact ⟨_, _, _, P1.newList (tk := s1.toks) (ep := 0) F' (fun p hp => N' p (.tail _ hp)) lc.hB (get_size_none _) (N' _ (.head _)).1 hvs, Post.vrNew, h1.2⟩
end
end
section
section
variable {Γ : Cx} {A : Around} {st : List Env} {F : Fn} {L : Addr} {e : Expr} {ℓ : List (Option V)} {σ : List AObj} {Q : V → List AObj → Prop} {E : Int → Prop}
  {s : Shared} {R : Mp} {m : Str → Option Value}
noncomputable def newsBut (B h : Heap) (L d : Addr) : List (Addr × Obj) := (allNews B h L).filter fun p => p.1 != d
theorem mem_newsBut {B h : Heap} {L d b : Addr} {o : Obj} : (b, o) ∈ newsBut B h L d ↔ (h.get? b = some o ∧ b ≠ L ∧ B.get? b = none) ∧ b ≠ d := by
  unfold newsBut; rw [List.mem_filter, mem_allNews]; simp
theorem newsBut_ne {B h : Heap} {L d : Addr} : ∀ p ∈ newsBut B h L d, p.1 ≠ d := fun ⟨b, o⟩ hp => (mem_newsBut.mp hp).2
theorem newsBut_ok {B h : Heap} {L d : Addr} {o : Obj} (hd : h.get? d = some o) (hL : d ≠ L) (hB : B.get? d = none) : News B L h ((d, o) :: newsBut B h L d) := by
  rintro ⟨b, o'⟩ hp
  rcases List.mem_cons.mp hp with q | q
  · cases q; exact ⟨hd, hL, hB⟩
  · exact (mem_newsBut.mp q).1
theorem upd_but {B h : Heap} {L d : Addr} {o o' : Obj} : Upd d o o' ((d, o) :: newsBut B h L d) ((d, o') :: newsBut B h L d) := .head newsBut_ne
theorem get_none_of {B H : Heap} (k : ∀ b o, B.get? b = some o → H.get? b = some o) {b : Addr} (h : H.get? b = none) : B.get? b = none := by
  cases q : B.get? b with
  | none => rfl
  | some o => rw [k b o q] at h; cases h
theorem funFrames_turn {B h h' : Heap} {L d : Addr} {m : Str → Option Value} (k : ∀ b o, h.get? b = some o → b ≠ L → b ≠ d → h'.get? b = some o) (hn' : h'.Ns L m) {st : List Env} (x : h.FunFrames B st) (off : ∀ env ∈ st, ∀ L', env.frame = some L' → L' ≠ d) : h'.FunFrames B st := by
  induction st with
  | nil => trivial
  | cons env r ih =>
    obtain ⟨a, ⟨b, o, hf, e0, ho, hd⟩, x⟩ := x
    refine ⟨a, ?_, ih x fun e he => off e (.tail _ he)⟩
    by_cases hb : b = L
    · obtain ⟨o', es, ep, ho', hd', _⟩ := hn'
      exact ⟨L, o', hb ▸ hf, hb ▸ e0, ho', fun vs q => nomatch hd'.symm.trans q⟩
    · exact ⟨b, o, hf, e0, k b o ho hb (off env (.head _) b hf), hd⟩
theorem Post.turn {h' tk} {σ' R' s'} {i : Nat} {ao : AObj} {o' : Obj} (x : Post Γ st F L m σ R s σ' R' s') (O : Γ.Ok) (hB : Γ.H.get? L = none) (hi : i < σ'.length) (F' : Fr Γ.B L h' m)
    (N' : News Γ.B L h' ((R'.m i, o') :: newsBut Γ.B s'.heap L (R'.m i))) (hcls : o'.cls = .type "list" ∨ o'.cls = .type "dict")
    (hdat : ∀ vs, o'.data ≠ .fields vs)
    (ho : Gr σ'.length R' s'.heap σ'.length R' h' → OR Γ.prog Γ.w h' R' σ'.length i ao) :
    Post Γ st F L m σ R s (σ'.set i ao) R' { s' with heap := h', toks := tk } := by
  have hoffL : R'.m i ≠ L := x.rel.off _ (.head _) L rfl i hi
  have hHi := x.rel.fresh i hi
  have hBi := get_none_of O.bh hHi
  have k : ∀ b o, s'.heap.get? b = some o → b ≠ L → b ≠ R'.m i → h'.get? b = some o := fun b o e hL hd => by
    cases q : Γ.B.get? b with
    | none => exact (N' (b, o) (.tail _ (mem_newsBut.mpr ⟨⟨e, hL, q⟩, hd⟩))).1
    | some o2 => have := x.fr.keep b o2 q; rw [e] at this; cases this; exact F'.keep b o q
  have hnew := (N' _ (.head _)).1
  have hlen : (σ'.set i ao).length = σ'.length := by simp
  have tup : ∀ a items, IsTup s'.heap a items → IsTup h' a items := fun a items hpt => by obtain ⟨o, ho, r⟩ := hpt; exact ⟨o, k a o ho (fun q => by subst q; exact ns_notTup x.fr.ns ⟨o, ho, r⟩) (fun q => by subst q; exact x.rel.notTup hi ⟨o, ho, r⟩), r⟩
  have G : Gr σ'.length R' s'.heap σ'.length R' h' := ⟨Nat.le_refl _, fun _ _ => rfl, fun _ _ => rfl, tup⟩
  have E1 : Ext (some L) σ'.length R' s'.heap σ'.length R' h' := by
    refine ⟨Nat.le_refl _, fun _ _ => rfl, fun _ _ => rfl, fun b o e hb hX => k b o e (fun q => hX (congrArg some q)) (hb i hi), tup, fun i a b => absurd b (Nat.not_lt.mpr a), fun j hj => ?_, fun L' q => by cases q; exact ns_live F'.ns⟩
    by_cases hji : j = i
    · subst hji; rw [hnew]; rfl
    · obtain ⟨o, ho, _⟩ := x.rel.mObj hj
      rw [k _ o ho (x.rel.off _ (.head _) L rfl j hj) (fun z => hji (x.rel.inj j i hj hi z))]; rfl
  refine ⟨⟨fun b o e => k b o (x.rel.keep b o e) (fun q => by rw [q, hB] at e; cases e) (fun q => by rw [q, hHi] at e; cases e), fun j ao' e => ?_, ?_, ?_, ?_, ?_, x.rel.gens, x.rel.os, Nat.le_trans F'.above (Nat.le_of_lt F'.ns.lt)⟩, F', by rw [hlen]; exact x.ext.trans E1⟩
  · rw [hlen]
    by_cases hj : j = i
    · subst hj
      rw [List.getElem?_set_self hi] at e; cases e
      exact ho G
    · rw [List.getElem?_set_ne (Ne.symm hj)] at e
      have hjl := (List.getElem?_eq_some_iff.mp e).1
      refine (x.rel.obj j ao' e).gr G hjl (fun o q => k _ o q (x.rel.off _ (.head _) L rfl j hjl) fun z => hj (x.rel.inj j i hjl hi z)) fun C q => k _ _ q (fun z => ns_notInst x.fr.ns (z ▸ q)) (x.rel.notInst hi q)
  · rw [hlen]; exact x.rel.fresh
  · rw [hlen]; exact x.rel.inj
  · exact funFrames_turn k F'.ns x.rel.frs (fun env he L' hL' => (x.rel.off env he L' hL' i hi).symm)
  · rw [hlen]; exact x.rel.off
theorem FR.get {w h r n x W es fs} (f : FR w h r n es fs) (hn : (fs.map (·.1)).Nodup) (hm : (x, W) ∈ fs) : ∃ v, getL x es = some (some v) ∧ VR h r n v W := by
  induction f with
  | nil => nomatch hm
  | @cons y t v W' es fs hv hr ih =>
    rw [List.map_cons, List.nodup_cons] at hn
    rcases List.mem_cons.mp hm with q | q
    · obtain ⟨rfl, rfl⟩ := Prod.mk.inj q
      exact ⟨v, by simp [getL, Value.isStr], hv⟩
    · obtain ⟨v', h1, h2⟩ := ih hn.2 q
      refine ⟨v', ?_, h2⟩
      have hne : y ≠ x := fun z => hn.1 (z ▸ List.mem_map_of_mem (f := (·.1)) q)
      unfold getL at h1 ⊢
      rw [List.find?_cons]
      have : (Value.str y t).isStr x = false := by simp [Value.isStr, hne]
      simp only [this]
      split at h1
      · rename_i e he; rw [he]; exact h1
      · split at h1 <;> cases h1
theorem FR.get_none {w h r n x es fs} (f : FR w h r n es fs) (hm : x ∉ fs.map (·.1)) : getL x es = some none := by
  induction f with
  | nil => rfl
  | @cons y t v W' es fs hv hr ih =>
    rw [List.map_cons, List.mem_cons, not_or] at hm
    have h1 := ih hm.2
    have : (Value.str y t).isStr x = false := by simp [Value.isStr, Ne.symm hm.1]
    unfold getL at h1 ⊢
    rw [List.find?_cons]
    simp only [this]
    split at h1
    · cases h1
    · rename_i he
      rw [he]
      have : (Value.str y t).isRef = false := rfl
      split at h1
      · cases h1
      · rename_i hh
        simp only [List.any_cons, DictEntry.refKey] at hh ⊢
        simp [hh]
theorem Rel.inst {Γ st σ R s i C fs} (x : Rel Γ st σ R s) (h : σ[i]? = some (.inst C fs)) : ∃ es ep, InstAt s.heap (R.r i) (instObj C (R.m i)) C (some (dictOf es ep)) ∧ s.heap.get? (R.m i) = some (dictOf es ep) ∧ FR Γ.w s.heap R.r σ.length es fs ∧ (fs.map (·.1)).Nodup := by
  have := x.obj i _ h
  cases this with
  | inst hx hm hf hn => exact ⟨_, _, ⟨hx, rfl, rfl, hm⟩, hm, hf, hn⟩
theorem Rel.dict {Γ st σ R s i fs} (x : Rel Γ st σ R s) (h : σ[i]? = some (.dict fs)) : ∃ kvs, R.r i = R.m i ∧ s.heap.DictOf (strKind Γ.prog Γ.w) (R.m i) kvs ∧ KR s.heap R.r σ.length kvs fs := by
  have := x.obj i _ h
  cases this with
  | dict hr hm hf => exact ⟨_, hr, hm, hf⟩
theorem KR.names {h r n kvs fs} (f : KR h r n kvs fs) : kvs.map (·.1) = fs.map (·.1) := by
  induction f with
  | nil => rfl
  | cons _ _ ih => exact congrArg (_ :: ·) ih
theorem KR.find {h r n x W kvs fs} (f : KR h r n kvs fs) (hn : (kvs.map (·.1)).Nodup) (hm : (x, W) ∈ fs) : ∃ v, valueAt kvs x = some v ∧ VR h r n v W := by
  induction f with
  | nil => nomatch hm
  | @cons y v W' kvs fs hv hr ih =>
    rw [List.map_cons, List.nodup_cons] at hn
    rcases List.mem_cons.mp hm with q | q
    · obtain ⟨rfl, rfl⟩ := Prod.mk.inj q; exact ⟨v, by simp [valueAt], hv⟩
    · obtain ⟨v', h1, h2⟩ := ih hn.2 q
      refine ⟨v', ?_, h2⟩
      have hne : ¬ y = x := fun z => hn.1 (by rw [hr.names]; exact z ▸ List.mem_map_of_mem (f := (·.1)) q)
      unfold valueAt at h1 ⊢
      rw [List.find?_cons]; simp only [hne, decide_false]; exact h1
structure DataAttr (K : Frag) (C : Addr) (x : Str) : Prop where
  get : plainGet K C x = true
  dict : hasDictIn K C = true
  none : findIn K (.ref C) x = some none
noncomputable def V.notBlt : V → Bool
  | .blt _ => false
  | _ => true
theorem handed_of {h r n v W} (x : VR h r n v W) (hb : W.notBlt = true) : handedIn v = true := by cases x <;> first | rfl | cases hb
inductive AttrK (Γ : Cx) (attr : Str) (o : V) (σ : List AObj) (Q : V → List AObj → Prop) : Prop
  | mk (i : Nat) (C : Addr) (fs : List (Str × V)) (W : V) (h1 : o = .obj i) (h2 : σ[i]? = some (.inst C fs)) (h3 : (attr, W) ∈ fs) (h4 : DataAttr Γ.K C attr) (h5 : W.notBlt = true) (h6 : Q W σ)
theorem attr_sound {attr : Str} {vo : Value} {o : V} {b : Bool} {σ' R' s'} (O : Γ.Ok) (P : Post Γ st F L m σ R s σ' R' s') (ho : VR s'.heap R'.r σ'.length vo o) (h : AttrK Γ attr o σ' Q) :
    wpAny Γ.M A (getAttr vo attr b) (QV Γ st F L m σ R s Q) (EX Γ st F L E) s' := by
  obtain ⟨i, C, fs, W, rfl, hi, hm, hd, hb, hq⟩ := h
  (obtain ⟨_, rfl⟩ := VR.inv ho)
  obtain ⟨es, ep, I, hm', hf, hn⟩ := P.rel.inst hi
  obtain ⟨v, hv, hr⟩ := hf.get hn hm
  exact get_own P.fr O.kin I hd.get hd.dict hd.none rfl hv (handed_of hr hb) ⟨_, _, _, P.tok _, hr, hq⟩
theorem We.attr {x xp attr pos} (O : Γ.Ok) (h : We Γ A st F L (.Name x xp) ℓ σ (fun a σ1 => AttrK Γ attr a σ1 Q) E) : We Γ A st F L (.Attribute (.Name x xp) attr pos) ℓ σ Q E := .mk fun s R m rl lc => by
  refine Attribute_Name_ (h.use rl lc fun va s1 a σ1 R1 P1 hva h1 l1 => attr_sound O P1 hva h1) rfl
noncomputable def GDict (Γ : Cx) (a : Addr) (x : Str) (W : V) : Prop := ∃ es n v, Γ.K.lookup a = some ⟨.type "dict", none, .dict es n, #[]⟩ ∧ KeysLit Γ.w.params es.toList ∧ nsIn Γ.K a x = some (some v) ∧ CR Γ.K v W
inductive ItS (x : Str) (k : Int) (σ : List AObj) (Q : V → List AObj → Prop) : Prop
  | mk (c : Nat) (h0 : 0 ≤ k) (h1 : k < 2 ^ 62) (hc : x.cps[k.toNat]? = some c) (hq : Q (.str ⟨#[c]⟩) σ)
inductive ItT (Ws : List V) (k : Int) (σ : List AObj) (Q : V → List AObj → Prop) : Prop
  | mk (W : V) (h0 : 0 ≤ k) (h1 : k < 2 ^ 62) (hc : Ws[k.toNat]? = some W) (hq : Q W σ)
inductive ItL (j : Nat) (k : Int) (σ : List AObj) (Q : V → List AObj → Prop) : Prop
  | mk (Ws : List V) (W : V) (h : σ[j]? = some (.list Ws)) (hc : (0 ≤ k ∧ k < 2 ^ 62 ∧ Ws[k.toNat]? = some W) ∨ (k = -1 ∧ Ws.getLast? = some W)) (hq : Q W σ)
inductive ItD (j : Nat) (x : Str) (σ : List AObj) (Q : V → List AObj → Prop) : Prop
  | mk (fs : List (Str × V)) (W : V) (h : σ[j]? = some (.dict fs)) (hm : (x, W) ∈ fs) (hq : Q W σ)
noncomputable def ItemK (Γ : Cx) (o i : V) (σ : List AObj) (Q : V → List AObj → Prop) : Prop := match o, i with
  | .str x, .int k => ItS x k σ Q
  | .tup Ws, .int k => ItT Ws k σ Q
  | .obj j, .int k => ItL j k σ Q
  | .obj j, .str x => ItD j x σ Q
  | .glob a, .str x => ∃ W, GDict Γ a x W ∧ Q W σ
  | _, _ => False
theorem subscripted_ops (slice : Expr) (o i : Value) : ∃ ops, subscripted slice false o i = operate ops (getItem o i) := by
  unfold subscripted
  split
  · exact ⟨_, rfl⟩
  · rename_i h; cases h
  · exact ⟨_, rfl⟩
theorem seqIndex_nn {k : Int} {n : Nat} (h0 : 0 ≤ k) (h : k.toNat < n) : seqIndex? k n = some k.toNat := by
  unfold seqIndex?
  simp only [show ¬ k < 0 by (exact ar378 h0), if_false]
  rw [if_pos (by simp only [Bool.and_eq_true, decide_eq_true_eq]; (exact ar71 h0 h))]
theorem item_sound {value slice : Expr} {vo vi : Value} {o i : V} {σ' R' s'} (O : Γ.Ok) (P : Post Γ st F L m σ R s σ' R' s') (ho : VR s'.heap R'.r σ'.length vo o) (hi : VR s'.heap R'.r σ'.length vi i) (h : ItemK Γ o i σ' Q) :
    wpAny Γ.M A (subscriptTail value slice vo vi) (QV Γ st F L m σ R s Q) (EX Γ st F L E) s' := by
  obtain ⟨ops, hops⟩ := subscripted_ops slice vo vi
  cases o <;> cases i <;> first | exact h.elim | skip
  · obtain ⟨c, h0, h1, hc, hq⟩ := h
    (obtain ⟨_, rfl⟩ := VR.inv ho); (obtain ⟨_, rfl⟩ := VR.inv hi)
    rename_i x t k u
    have hlt := (Array.getElem?_eq_some_iff.mp hc).1
    refine tail_any (typeIs_str _ _ _) PySem.F.slot_str_getitem.lookup (PySem.P.getItem_str (c := c) ?_ ?_ ⟨_, _, _, P.tok _, .str _ _, hq⟩) hops
    · simp only [Bool.or_eq_false_iff, decide_eq_false_iff_not]; (exact ar190 h0 h1)
    · rw [seqIndex_nn h0 (by exact hlt)]; exact hc
  · obtain ⟨W, h0, h1, hc, hq⟩ := h
    obtain ⟨a, vs, rfl, ht, hv⟩ := ho.isTup
    (obtain ⟨_, rfl⟩ := VR.inv hi)
    obtain ⟨v, e1, e2⟩ := hv.get hc
    have hlt := (List.getElem?_eq_some_iff.mp e1).1
    exact tail_any ht.typeIs slot_tuple_getitem.lookup (getItem_tuple ht (by exact ar343 h0) (by exact ar230 h1) (seqIndex_nn h0 (by simpa using hlt)) (by simpa using e1) ⟨_, _, _, P, e2, hq⟩) hops
  · obtain ⟨Ws, W, hl, hc, hq⟩ := h
    (obtain ⟨_, rfl⟩ := VR.inv ho); (obtain ⟨_, rfl⟩ := VR.inv hi)
    obtain ⟨l1, e1, r1, o1, v1⟩ := P.rel.list hl
    have L1 := isList_listOf o1
    rcases hc with ⟨h0, h1, hc⟩ | ⟨rfl, hc⟩
    · obtain ⟨v, e1, e2⟩ := v1.get hc
      exact tail_any L1.typeIs slot_list_getitem.lookup (wpAny_getItem_list L1 h0 (by exact ar230 h1) (by simpa using e1) ⟨_, _, _, P, e2, hq⟩) hops
    · rw [List.getLast?_eq_getElem?] at hc
      obtain ⟨v, e1, e2⟩ := v1.get hc
      have hlt := (List.getElem?_eq_some_iff.mp e1).1
      have hsz : l1.toArray.size = Ws.length := by simpa using v1.1
      refine tail_any L1.typeIs slot_list_getitem.lookup (wpAny_getItem_list_neg L1 (by exact ar412) (by rw [hsz]; have := v1.1; (exact ar216 hlt this)) (by exact ar413) (x := v) ?_ ⟨_, _, _, P, e2, hq⟩) hops
      have : ((-1 : Int) + (l1.toArray.size : Nat)).toNat = Ws.length - 1 := by rw [hsz]; (exact ar18)
      rw [this]; simpa using e1
  · obtain ⟨fs, W, hl, hm, hq⟩ := h
    (obtain ⟨_, rfl⟩ := VR.inv hi)
    rename_i x t
    (obtain ⟨_, rfl⟩ := VR.inv ho)
    obtain ⟨kvs, r1, hmo, hf⟩ := P.rel.dict hl
    have hnd : (kvs.map (·.1)).Nodup := by obtain ⟨_, _, _, _, _, _, _, _, q⟩ := hmo; exact q
    obtain ⟨v, e1, e2⟩ := hf.find hnd hm
    rw [r1]
    exact tail_any hmo.typeIs slot_dict_getitem.lookup (wpAny_getItem_of (strKind_is Γ.prog Γ.w x t) hmo.mapOf e1 ⟨_, _, _, P.tok _, e2, hq⟩) (r1 ▸ hops)
  · obtain ⟨W, ⟨es, n, v, h1, h2, h3, h4⟩, hq⟩ := h
    (obtain rfl := VR.inv ho); (obtain ⟨_, rfl⟩ := VR.inv hi)
    have hm := mapOf_K (prog := Γ.prog) (w := Γ.w) (O.kin.keeps P.fr.keep) h1 h2
    exact tail_any hm.typeIs slot_dict_getitem.lookup (topGetDict_K P.fr O.kin h1 h2 h3 ⟨_, _, _, P.tok _, h4.vr (O.kin.keeps P.fr.keep), hq⟩) hops
theorem We.item {o i : Expr} {pos} (O : Γ.Ok) (h : We Γ A st F L o ℓ σ (fun a σ1 => We Γ A st F L i ℓ σ1 (fun b σ2 => ItemK Γ a b σ2 Q) E) E) : We Γ A st F L (.Subscript o i pos) ℓ σ Q E := .mk fun s R m rl lc => by
  refine Subscript_ (h.use rl lc fun va s1 a σ1 R1 P1 hva h1 l1 => h1.use P1.rel l1 fun vb s2 b σ2 R2 P2 hvb h2 l2 => ?_)
  exact item_sound O (P1.trans P2) (hva.ext P2.ext) hvb h2
end
end
section
section
variable {Γ : Cx} {A : Around} {st : List Env} {F : Fn} {L : Addr} {e : Expr} {ℓ : List (Option V)} {σ : List AObj} {Q : V → List AObj → Prop} {E : Int → Prop}
  {s : Shared} {R : Mp} {m : Str → Option Value}
noncomputable def pick {α : Type} (l : List α) (lo hi : Option Int) : List α :=
  (sliceRange (sliceBounds lo hi none l.length).1 (sliceBounds lo hi none l.length).2.1 (sliceBounds lo hi none l.length).2.2).filterMap (l[·]?)
theorem slicePick_pick (l : List Value) (lo hi : Option Int) : (slicePick l.toArray lo hi none) = (pick l lo hi).toArray := by
  unfold slicePick pick; simp
theorem VRs.ix {h r n vs Vs} (a : VRs h r n vs Vs) (ix : List Nat) : VRs h r n (ix.filterMap (vs[·]?)) (ix.filterMap (Vs[·]?)) := by
  induction ix with
  | nil => exact .nil
  | cons i r ih =>
    rw [List.filterMap_cons, List.filterMap_cons]
    cases hv : Vs[i]? with
    | none =>
      have : vs[i]? = none := by rw [List.getElem?_eq_none_iff] at hv ⊢; rw [a.1]; exact hv
      rw [this]; exact ih
    | some W =>
      obtain ⟨v, e1, e2⟩ := a.get hv
      rw [e1]; exact .cons e2 ih
theorem VRs.pick {h r n vs Vs} (a : VRs h r n vs Vs) (lo hi : Option Int) : VRs h r n (pick vs lo hi) (pick Vs lo hi) := by
  unfold Mine.pick
  rw [a.1]
  exact a.ix _
theorem ht_str (value : Expr) (x : Str) (t : Tok) : ∀ r, letTemporaryGo value (.str x t) r = pure () := by intro r; cases value <;> rfl
noncomputable def tplaces (n : Nat) (lo hi : Option Int) : List Nat :=
  (List.range (Builtin.Slice.slicePlaces (Builtin.Slice.sliceAdjust lo hi 1 n).1 (Builtin.Slice.sliceAdjust lo hi 1 n).2 1)).map fun (k : Nat) => ((Builtin.Slice.sliceAdjust lo hi 1 n).1 + (k : Int) * 1).toNat
theorem getItem_tuple_slice {t sl : Addr} {items : Array Value} {va vb : Value} {lo hi : Option Int} {Q : Value → Shared → Prop} (ht : IsTup s.heap t items) (hs : s.heap.IsSliceOf sl va vb .none) (ha : IsPart va lo) (hb : IsPart vb hi)
    (hno : ((Builtin.Slice.sliceAdjust lo hi 1 items.size).1 == 0 && (1 : Int) == 1 && Builtin.Slice.slicePlaces (Builtin.Slice.sliceAdjust lo hi 1 items.size).1 (Builtin.Slice.sliceAdjust lo hi 1 items.size).2 1 == items.size) = false)
    (hsz : items.size ≤ 1000) (hp : (tplaces items.size lo hi).length ≤ 1000)
    (h : Q (.ref s.heap.objs.size) { s with heap := s.heap.push { cls := .type "tuple", data := .seq ((tplaces items.size lo hi).filterMap (items[·]?)).toArray } }) : wpAny Γ.M A (getItem (.ref t) (.ref sl)) Q E' s := by
  obtain ⟨os, hos, hcs, hds⟩ := id hs
  have hTs : s.TypeIs (.ref sl) "slice" := ⟨os, hos, hcs⟩
  have part : ∀ {v p} {A : Around} {E' : Value → Shared → Prop} {Q : Option Int → Shared → Prop}, IsPart v p → Q p s → wpAny Γ.M A (Builtin.Slice.slicePartIndex v) Q E' s := by
    intro v p A E' Q hp hq
    cases hp with
    | none => exact slicePart_none hq
    | int i t => exact slicePart_int hq
  unfold getItem
  refine wpAny_holding ?_
  refine wpAny_bind (wpAny_sequenceKey ht.typeIs (by decide) ?_)
  refine wpAny_bind (wpAny_callSpecial?_slot (name := Str.ofString "__getitem__") ht.typeIs slot_tuple_getitem
    (wpAny_call_entry slot_tuple_getitem ht.typeIs entry_tuple_getitem ?_ (args_tuple_getitem _ _)))
  show wpAny _ _ (Builtin.Tuple.tupleItemsOf (.ref t) >>= _) _ _ s
  refine wpAny_bind (tupleItemsOf_ ht ?_)
  refine wpAny_bind (wpAny_typeOf hTs ?_)
  rw [if_pos (by decide)]
  refine wpAny_bind ?_
  unfold Builtin.Slice.sliceApplied Builtin.Slice.sliceFields
  refine wpAny_bind (wpAny_bind (wpAny_field hos hds (x := va) rfl (wpAny_bind (wpAny_field hos hds (x := vb) rfl (wpAny_bind (wpAny_field hos hds (x := .none) rfl (wpAny_pure ?_)))))))
  refine wpAny_bind (slicePart_none ?_)
  show wpAny _ _ (if ((1 : Int) == 0) = true then _ else _) _ _ s
  rw [if_neg (by decide)]
  refine wpAny_bind (part ha (wpAny_bind (part hb (wpAny_bind (wpAny_pure ?_)))))
  refine wpAny_pure ?_
  show wpAny _ _ (if ((Builtin.Slice.sliceAdjust lo hi 1 (items.size : Int)).1 == 0 && (1 : Int) == 1 && Builtin.Slice.slicePlaces (Builtin.Slice.sliceAdjust lo hi 1 (items.size : Int)).1 (Builtin.Slice.sliceAdjust lo hi 1 (items.size : Int)).2 1 == items.size) = true then _ else _) _ _ s
  rw [if_neg (by rw [hno]; decide)]
  have e : ((List.range (Builtin.Slice.slicePlaces (Builtin.Slice.sliceAdjust lo hi 1 items.size).1 (Builtin.Slice.sliceAdjust lo hi 1 items.size).2 1)).filterMap fun (k : Nat) => items[((Builtin.Slice.sliceAdjust lo hi 1 items.size).1 + (k : Int) * 1).toNat]?) = (tplaces items.size lo hi).filterMap (items[·]?) := by
    unfold tplaces; rw [List.filterMap_map]; rfl
  show wpAny _ _ (Builtin.Tuple.tupleExact ((List.range (Builtin.Slice.slicePlaces (Builtin.Slice.sliceAdjust lo hi 1 items.size).1 (Builtin.Slice.sliceAdjust lo hi 1 items.size).2 1)).filterMap fun (k : Nat) => items[((Builtin.Slice.sliceAdjust lo hi 1 items.size).1 + (k : Int) * 1).toNat]?).toArray >>= fun x => ret x) _ _ s
  rw [e]
  refine wpAny_bind (m := Builtin.Tuple.tupleExact _) (wpAny_newObj_type (wpAny_bind (wpAny_pure (wpAny_pure ⟨_, rfl, wpAny_pure h⟩))) ?_)
  show (List.filterMap _ _).toArray.size ≤ sizeLine
  rw [List.size_toArray, sizeLine_eq]
  have := List.length_filterMap_le (items[·]?) (tplaces items.size lo hi)
  (exact ar279 hp this)
noncomputable def Wpart (Γ : Cx) (A : Around) (st : List Env) (F : Fn) (L : Addr) (x : Option Expr) (ℓ : List (Option V)) (σ : List AObj) (Q : Option Int → List AObj → Prop) (E : Int → Prop) : Prop := match x with
  | none => Q none σ
  | some e => We Γ A st F L e ℓ σ (fun a σ1 => IntQ a fun i => Q (some i) σ1) E
theorem Wpart.use {x : Option Expr} {Q : Option Int → List AObj → Prop} {C : Value → Shared → Prop} (h : Wpart Γ A st F L x ℓ σ Q E) (r : Rel Γ (F.env L :: st) σ R s) (l : Loc Γ F L ℓ σ.length R m s.heap)
    (k : ∀ v s1 p σ1 R1, Post Γ st F L m σ R s σ1 R1 s1 → IsPart v p → Q p σ1 → Loc Γ F L ℓ σ1.length R1 m s1.heap → C v s1) :
    wpAny Γ.M A (evalPart x (F.env L)) C (EX Γ st F L E) s := by
  cases x with
  | none => exact wpAny_pure (k _ _ _ _ _ (.refl r l) .none h l)
  | some e =>
    rw [evalPart_some]
    refine We.use h r l fun v s1 W σ1 R1 P hv hq l1 => ?_
    obtain ⟨i, rfl, hq⟩ := hq
    (obtain ⟨_, rfl⟩ := VR.inv hv)
    exact k _ _ _ _ _ P (.int _ _) hq l1
noncomputable def isName : Expr → Bool
  | .Name .. => true
  | _ => false
noncomputable def SliceK (base : Expr) (o : V) (lo hi : Option Int) (σ : List AObj) (Q : V → List AObj → Prop) : Prop := match o with
  | .str x => x.length ≤ sizeLim ∧ Q (.str (Txt.slice x lo hi)) σ
  | .tup Ws => ((Builtin.Slice.sliceAdjust lo hi 1 Ws.length).1 == 0 && (1 : Int) == 1 && Builtin.Slice.slicePlaces (Builtin.Slice.sliceAdjust lo hi 1 Ws.length).1 (Builtin.Slice.sliceAdjust lo hi 1 Ws.length).2 1 == Ws.length) = false ∧
      Ws.length ≤ 1000 ∧ (tplaces Ws.length lo hi).length ≤ 1000 ∧ Q (.tup ((tplaces Ws.length lo hi).filterMap (Ws[·]?))) σ
  | .obj j => isName base = true ∧ ∃ vs, σ[j]? = some (.list vs) ∧ vs.length ≤ sizeLim ∧ Q (.obj σ.length) (σ ++ [.list (pick vs lo hi)])
  | _ => False
theorem slice_sound {base : Expr} {lw up : Option Expr} {p : Pos} {vo va vb : Value} {o : V} {lo hi : Option Int} {σ' R' s'} (hB : Γ.H.get? L = none) (P : Post Γ st F L m σ R s σ' R' s') (ho : VR s'.heap R'.r σ'.length vo o) (ha : IsPart va lo) (hb : IsPart vb hi) (h : SliceK base o lo hi σ' Q) :
    wpAny Γ.M A (subscriptTail base (.Slice lw up none p) vo (.ref s'.heap.objs.size)) (QV Γ st F L m σ R s Q) (EX Γ st F L E) { s' with heap := s'.heap.push { cls := .type "slice", data := .fields #[va, vb, .none] } } := by
  cases o <;> first | exact h.elim | skip
  · (obtain ⟨_, rfl⟩ := VR.inv ho)
    rename_i x t
    have fin : ∀ h' t' k, Fr Γ.B L h' m → News Γ.B L h' (allNews Γ.B s'.heap L) → QV Γ st F L m σ R s Q (.str (Txt.slice x lo hi) t') { s' with heap := h', toks := k } := fun h' t' k F' N' => ⟨_, _, _, P.step (tk := k) F' N' hB, .str _ _, h.2⟩
    cases ha <;> cases hb
    · exact slice_strN_nn P.fr (allNews_ok _ _ _) fin (by with_unfolding_all rfl) (ht_str _ _ _) (Nat.le_trans h.1 sizeLim_le)
    · exact slice_strN_ns P.fr (allNews_ok _ _ _) fin (by with_unfolding_all rfl) (ht_str _ _ _) (Nat.le_trans h.1 sizeLim_le)
    · exact slice_strN_sn P.fr (allNews_ok _ _ _) fin (by with_unfolding_all rfl) (ht_str _ _ _) (Nat.le_trans h.1 sizeLim_le)
    · exact slice_strN_ss P.fr (allNews_ok _ _ _) fin (by with_unfolding_all rfl) (ht_str _ _ _) (Nat.le_trans h.1 sizeLim_le)
  · rename_i Ws
    obtain ⟨a, vs, rfl, ht, hv⟩ := ho.isTup
    obtain ⟨h1, h2, h3, h4⟩ := h
    have e1 : vs.toArray.size = Ws.length := by simpa using hv.1
    have ht' := ht.push { cls := .type "slice", data := .fields #[va, vb, .none] }
    refine tail_any (ops := [.ref s'.heap.objs.size, .ref a]) ht'.typeIs slot_tuple_getitem.lookup (getItem_tuple_slice (s := { s' with heap := s'.heap.push { cls := .type "slice", data := .fields #[va, vb, .none] } }) ht' (Heap.IsSliceOf.new ..) ha hb (by rw [e1]; exact h1) (by rw [e1]; exact h2) (by rw [e1]; exact h3) ?_) (by with_unfolding_all rfl)
    rw [e1]
    have N1 := News.push (P.fr.push { cls := .type "slice", data := .fields #[va, vb, .none] }) ((allNews_ok Γ.B s'.heap L).grown fun _ _ e => Heap.get?_push_of_some _ e) { cls := .type "tuple", data := .seq ((tplaces Ws.length lo hi).filterMap (vs.toArray[·]?)).toArray }
    have ho' := (N1 _ (.head _)).1
    have P2 := P.step (tk := s'.toks) ((P.fr.push { cls := .type "slice", data := .fields #[va, vb, .none] }).push _) (fun p hp => N1 p (.tail _ hp)) hB
    refine ⟨_, _, _, P2, .tup' ⟨_, ho', rfl, _, rfl⟩ ?_, h4⟩
    have := (hv.ix (tplaces Ws.length lo hi)).ext (KeepsL.ext P.rel rfl P.fr.ns P2.fr.ns (keepsL_of_news P2.fr P.fr.keep (fun p hp => N1 p (.tail _ hp))))
    simpa using this
  · obtain ⟨hn, vs, h1, h2, h3⟩ := h
    (obtain ⟨_, rfl⟩ := VR.inv ho)
    obtain ⟨l1, ep, e1, o1, v1⟩ := P.rel.list h1
    refine slice_list P.fr (allNews_ok _ _ _) (isList_listOf o1) ha hb (fun h' F' N' => ?_) (by with_unfolding_all rfl) (by intro r; cases base <;> first | rfl | cases hn) (by simpa [v1.1] using Nat.le_trans h2 sizeLim_le)
    have hfresh : s'.heap.get? (s'.heap.objs.size + 1) = none := get_none_ge (Nat.le_succ _)
    have ho' := (N' _ (.head _)).1
    rw [slicePick_pick] at ho'
    exact ⟨_, _, _, P.newList (tk := s'.toks) F' (fun p hp => N' p (.tail _ hp)) hB hfresh ho' (v1.pick lo hi), Post.vrNew, h3⟩
theorem We.slice {o : Expr} {a b : Option Expr} {p pos} (h : We Γ A st F L o ℓ σ (fun x σ1 => Wpart Γ A st F L a ℓ σ1 (fun i σ2 => Wpart Γ A st F L b ℓ σ2 (fun j σ3 => SliceK o x i j σ3 Q) E) E) E) :
    We Γ A st F L (.Subscript o (.Slice a b none p) pos) ℓ σ Q E := .mk fun s R m rl lc => by
  refine Subscript_ (h.use rl lc fun vo s1 x σ1 R1 P1 hvo h1 l1 => wpAny_Slice (Wpart.use h1 P1.rel l1 fun vi s2 i σ2 R2 P2 hvi h2 l2 => Wpart.use h2 P2.rel l2 fun vj s3 j σ3 R3 P3 hvj h3 l3 => wpAny_pure ?_))
  exact slice_sound lc.hB (P1.trans (P2.trans P3)) ((hvo.ext P2.ext).ext P3.ext) hvi hvj h3
end
end
section
section
variable {Γ : Cx} {A : Around} {st : List Env} {F : Fn} {L : Addr} {e : Expr} {ℓ : List (Option V)} {σ : List AObj} {Q : V → List AObj → Prop} {E : Int → Prop}
  {s : Shared} {R : Mp} {m : Str → Option Value}
noncomputable def Wf (Γ : Cx) (A : Around) (st : List Env) (F : Fn) (L : Addr) (fv : V) (args : List V) (σ : List AObj) (Q : V → List AObj → Prop) (E : Int → Prop) : Prop :=
  ∀ s R m v vs, Rel Γ (F.env L :: st) σ R s → Fr Γ.B L s.heap m → Γ.H.get? L = none → VR s.heap R.r σ.length v fv → VRs s.heap R.r σ.length vs args →
    wpAny Γ.M A (call v vs) (QV Γ st F L m σ R s Q) (EX Γ st F L E) s
inductive QC (Γ : Cx) (st : List Env) (σ : List AObj) (R : Mp) (s : Shared) (Q : V → List AObj → Prop) (r : Value) (s' : Shared) : Prop
  | mk (W : V) (σ' : List AObj) (R' : Mp) (P : Rel Γ st σ' R' s') (X : Ext none σ.length R s.heap σ'.length R' s'.heap) (hv : VR s'.heap R'.r σ'.length r W) (hq : Q W σ')
inductive EC (Γ : Cx) (st : List Env) (E : Int → Prop) (x : Value) (s' : Shared) : Prop
  | mk (k : Int) (h : ExcIn Γ st none x k s') (e : E k)
noncomputable def Wc (Γ : Cx) (A : Around) (st : List Env) (fv : V) (args : List V) (σ : List AObj) (Q : V → List AObj → Prop) (E : Int → Prop) : Prop :=
  ∀ s R v vs, Rel Γ st σ R s → VR s.heap R.r σ.length v fv → VRs s.heap R.r σ.length vs args →
    wpAny Γ.M A (call v vs) (QC Γ st σ R s Q) (EC Γ st E) s
theorem ExcIn.weak {Γ st x k s Lo} (h : ExcIn Γ st none x k s) : ExcIn Γ st Lo x k s := by
  obtain ⟨e, dx, vs, a1, a2, a3⟩ := h
  exact ⟨e, dx, vs, a1, a2, a3.imp id fun z => z.imp id fun hpt => by obtain ⟨L, hL, _⟩ := hpt; exact nomatch hL⟩
theorem Wf.of_Wc {fv : V} {args : List V} (O : Γ.Ok) (h : Wc Γ A (F.env L :: st) fv args σ Q E) : Wf Γ A st F L fv args σ Q E := fun s R m v vs r Fh hB hv hvs => by
  refine wpAny_mono (h s R v vs r hv hvs) (fun w s' hpat => ?_) fun x s' hpt => by obtain ⟨k, a, b⟩ := hpt; exact ⟨k, a.weak, b⟩
  obtain ⟨W, σ', R', r', x', hw, hq⟩ := hpat
  obtain ⟨oL, es, ep, hL, a2⟩ := Fh.ns
  have hL' := x'.keep L oL hL (fun i hi => (r.off _ (.head _) L rfl i hi).symm) (by simp)
  exact ⟨W, σ', R', ⟨r', ⟨⟨oL, es, ep, hL', a2⟩, fun b o e => r'.keep b o (O.bh b o e), Fh.above⟩, x'.weak (by rw [hL']; rfl)⟩, hw, hq⟩
theorem Wf.mono {fv : V} {args : List V} {Q' E'} (h : Wf Γ A st F L fv args σ Q E) (hQ : ∀ W σ', Q W σ' → Q' W σ') (hE : ∀ k, E k → E' k) : Wf Γ A st F L fv args σ Q' E' :=
  fun s R m v vs r f b x y => wpAny_mono (h s R m v vs r f b x y) (fun v s1 hpt => by obtain ⟨W, σ1, R1, P, hv, hq⟩ := hpt; exact ⟨W, σ1, R1, P, hv, hQ _ _ hq⟩) fun x s' hpt => by obtain ⟨k, a, b⟩ := hpt; exact ⟨k, a, hE k b⟩
theorem Wc.mono {fv : V} {args : List V} {Q' E'} (h : Wc Γ A st fv args σ Q E) (hQ : ∀ W σ', Q W σ' → Q' W σ') (hE : ∀ k, E k → E' k) : Wc Γ A st fv args σ Q' E' :=
  fun s R v vs r x y => wpAny_mono (h s R v vs r x y) (fun v s1 hpt => by obtain ⟨W, σ1, R1, P, b, hv, hq⟩ := hpt; exact ⟨W, σ1, R1, P, b, hv, hQ _ _ hq⟩) fun x s' hpt => by obtain ⟨k, a, b⟩ := hpt; exact ⟨k, a, hE k b⟩
noncomputable def KeepV (K : Frag) : V → Prop
  | .glob a => keepIn K (.ref a) = true
  | .blt _ => True
  | .typ _ => True
  | _ => False
theorem keeper_of {K : Frag} {M : Model} {v : Value} {W : V} {h r n} (hv : VR h r n v W) (hk : KeepV K W) : ∀ h', K.In h' → ∃ k, (k = Keeper.frame ∨ k = Keeper.machine ∨ k = Keeper.boundFrame) ∧ Looks M h' (keeperOf v) k := by
  intro h' X
  cases hv <;> first | exact hk.elim | skip
  · exact keeps_K hk h' X
  · exact ⟨.machine, .inr (.inl rfl), Looks.of_pure rfl⟩
  · exact ⟨.machine, .inr (.inl rfl), Looks.of_pure rfl⟩
theorem starEach_plain {es : List Expr} {env : Env} {pos : Pos} (hp : (starEach es env).any (·.1) = false) : (backTo pos (starEach es env)).any (·.1) = false := by
  unfold backTo
  rw [List.any_map]
  exact hp
theorem evalArgs_of {f : Value} {es : List Expr} {env : Env} {pos : Pos} {Q : Args → Shared → Prop} {E : Value → Shared → Prop} {M : Model} (hp : (starEach es env).any (·.1) = false)
    (h : wpAny M A (spliced (backTo pos (starEach es env))) (fun vs s' => Q ⟨vs, []⟩ s') E s) : wpAny M A (evalArgs f true (backTo pos (starEach es env)) []) Q E s := by
  have hp' := starEach_plain (pos := pos) hp
  revert h hp'
  generalize backTo pos (starEach es env) = l
  intro h hp'
  cases l with
  | nil =>
    unfold evalArgs
    show wpAny M A (spliced [] >>= _) Q E s
    refine wpAny_bind (wpAny_mono h (fun vs s' h' => ?_) fun _ _ x => x)
    refine wpAny_bind (wpAny_pure ?_)
    refine wpAny_holding ?_
    exact wpAny_bind (wpAny_pure (wpAny_bind (wpAny_pure (wpAny_pure h'))))
  | cons x r =>
    obtain ⟨b, t⟩ := x
    rw [List.any_cons, Bool.or_eq_false_iff] at hp'
    cases hp'.1
    exact evalArgs_plain h
theorem callWith_sound {f : Value} {fv : V} {first : List Value} {firstV : List V} {es : List Expr} {pos : Pos} {σ' R' s'} (O : Γ.Ok) (P : Post Γ st F L m σ R s σ' R' s') (l : Loc Γ F L ℓ σ'.length R' m s'.heap)
    (hf : VR s'.heap R'.r σ'.length f fv) (hfirst : VRs s'.heap R'.r σ'.length first firstV) (hk : KeepV Γ.K fv) (hp : (starEach es (F.env L)).any (·.1) = false)
    (h : Wes Γ A st F L es pos ℓ σ' (fun as σ2 => Wf Γ A st F L fv (firstV ++ as) σ2 Q E) E) :
    wpAny Γ.M A (callWith pos f first (backTo pos (starEach es (F.env L))) []) (QV Γ st F L m σ R s Q) (EX Γ st F L E) s' := by
  refine callWith_of (P := fun h => Γ.K.In h) (by show (_ || false) = false; rw [starEach_plain hp]; rfl) (fun h' X => keeper_of hf hk h' X) ?_
  refine evalArgs_of hp (h.use P.rel l fun vs s2 as σ2 R2 P2 hvs h2 l2 => ⟨O.kin.keeps l2.fr.keep, ?_⟩)
  refine wpAny_mono (h2 s2 R2 m f (first ++ vs) P2.rel P2.fr l.hB (hf.ext P2.ext) ((hfirst.ext P2.ext).append hvs)) (fun v s3 hpat => ?_) fun _ _ x => x
  obtain ⟨W, σ3, R3, P3, hv, hq⟩ := hpat
  exact ⟨W, σ3, R3, P.trans (P2.trans P3), hv, hq⟩
theorem We.call {x : Str} {xp : Pos} {es : List Expr} {pos : Pos} (O : Γ.Ok) (h : We Γ A st F L (.Name x xp) ℓ σ (fun fv σ1 => KeepV Γ.K fv ∧ Wes Γ A st F L es pos ℓ σ1 (fun as σ2 => Wf Γ A st F L fv as σ2 Q E) E) E)
    (hp : ∀ env, (starEach es env).any (·.1) = false := by intro; rfl) : We Γ A st F L (.Call (.Name x xp) es [] pos) ℓ σ Q E := .mk fun s R m rl lc => by
  show wpAny _ _ (do callWith pos (← eval (.Name x xp) (F.env L)) [] (backTo pos (starEach es (F.env L))) (backToKw pos (keywordEach [] (F.env L)))) _ _ _
  exact wpAny_bind (h.use rl lc fun vf s1 fv σ1 R1 P1 hvf h1 l1 => callWith_sound (firstV := []) O P1 l1 hvf .nil h1.1 (hp _) h1.2)
structure MethAt (K : Frag) (C : Addr) (x : Str) (f : Addr) : Prop where
  get : plainGet K C x = true
  cls : findIn K (.ref C) x = some (some (.ref f))
  fn : isFn K (.ref f) = true
inductive MethR (Γ : Cx) (σ : List AObj) : V → Str → V → Prop
  | inst {i C fs x f} (h : σ[i]? = some (.inst C fs)) (hm : MethAt Γ.K C x f) (hn : x ∉ fs.map (·.1)) : MethR Γ σ (.obj i) x (.glob f)
  | append {i vs} (h : σ[i]? = some (.list vs)) : MethR Γ σ (.obj i) "append" (.blt "list.append")
  | extend {i vs} (h : σ[i]? = some (.list vs)) : MethR Γ σ (.obj i) "extend" (.blt "list.extend")
  | pop {i vs} (h : σ[i]? = some (.list vs)) : MethR Γ σ (.obj i) "pop" (.blt "list.pop")
  | find {x} : MethR Γ σ (.str x) "find" (.blt "str.find")
  | startswith {x} : MethR Γ σ (.str x) "startswith" (.blt "str.startswith")
  | join {x} : MethR Γ σ (.str x) "join" (.blt "str.join")
  | get {a es n} (h : Γ.K.lookup a = some ⟨.type "dict", none, .dict es n, #[]⟩) : MethR Γ σ (.glob a) "get" (.blt "dict.get")
theorem meth_sound {x : Str} {ro : V} {vo : Value} {f : V} {pl : Sem Bool} {C : Value × List Value → Shared → Prop} {E' : Value → Shared → Prop} (O : Γ.Ok) (r : Rel Γ st σ R s) (F0 : Fr Γ.B L s.heap m) (hv : VR s.heap R.r σ.length vo ro) (h : MethR Γ σ ro x f)
    (k : ∀ fv, VR s.heap R.r σ.length fv f → C (fv, [vo]) s) : wpAny Γ.M A (getMethod vo x pl) C E' s := by
  have lst : ∀ {i vs}, σ[i]? = some (.list vs) → ∃ its ep, s.heap.get? (R.r i) = some (listOf its ep) := fun h => by obtain ⟨l, ep, _, ho, _⟩ := r.list h; exact ⟨_, _, ho⟩
  cases h with
  | inst h hm hn =>
    (obtain ⟨_, rfl⟩ := VR.inv hv)
    obtain ⟨es, ep, I, hmo, hf, hnn⟩ := r.inst h
    exact method_inst F0 O.kin I hm.get hm.cls hm.fn (hf.get_none hn) (k _ (.glob _))
  | append h =>
    (obtain ⟨_, rfl⟩ := VR.inv hv)
    obtain ⟨its, ep, ho⟩ := lst h
    exact getMethod_builtin ⟨_, ho, rfl⟩ PySem.F.plainAttrs_list PySem.F.slot_list_append PySem.F.type_list_append (fun a e => by cases e; exact ⟨_, ho, rfl⟩) (k _ (.blt _))
  | extend h =>
    (obtain ⟨_, rfl⟩ := VR.inv hv)
    obtain ⟨its, ep, ho⟩ := lst h
    exact getMethod_builtin ⟨_, ho, rfl⟩ PySem.F.plainAttrs_list PySem.F.slot_list_extend PySem.F.type_list_extend (fun a e => by cases e; exact ⟨_, ho, rfl⟩) (k _ (.blt _))
  | pop h =>
    (obtain ⟨_, rfl⟩ := VR.inv hv)
    obtain ⟨its, ep, ho⟩ := lst h
    exact getMethod_builtin ⟨_, ho, rfl⟩ PySem.F.plainAttrs_list PySem.F.slot_list_pop PySem.F.type_list_pop (fun a e => by cases e; exact ⟨_, ho, rfl⟩) (k _ (.blt _))
  | find => (obtain ⟨_, rfl⟩ := VR.inv hv); exact PySem.GM.find (k _ (.blt _))
  | startswith => (obtain ⟨_, rfl⟩ := VR.inv hv); exact PySem.GM.startswith (k _ (.blt _))
  | join => (obtain ⟨_, rfl⟩ := VR.inv hv); exact PySem.GM.join (k _ (.blt _))
  | get h =>
    (obtain rfl := VR.inv hv)
    have ho := (O.kin.keeps F0.keep) _ _ h
    exact getMethod_builtin ⟨_, ho, rfl⟩ PySem.F.plainAttrs_dict PySem.F.slot_dict_get PySem.F.type_dict_get (fun a e => by cases e; exact ⟨_, ho, rfl⟩) (k _ (.blt _))
inductive MethQ (Γ : Cx) (σ : List AObj) (r : V) (x : Str) (P : V → Prop) : Prop
  | mk (f : V) (h : MethR Γ σ r x f) (k : KeepV Γ.K f) (q : P f)
theorem We.meth {o : Expr} {x : Str} {apos pos : Pos} {es : List Expr} {pl : Env → Sem Bool} (O : Γ.Ok) (h : We Γ A st F L o ℓ σ (fun r σ1 => MethQ Γ σ1 r x fun f => Wes Γ A st F L es pos ℓ σ1 (fun as σ2 => Wf Γ A st F L f (r :: as) σ2 Q E) E) E)
    (he : ∀ env, eval (.Call (.Attribute o x apos) es [] pos) env = (do
      let ov ← eval o env
      standAt apos.atName
      let (f, first) ← holding [ov] (getMethod ov x (pl env))
      callWith pos f first (backTo pos (starEach es env)) []) := by intro; rfl)
    (hp : ∀ env, (starEach es env).any (·.1) = false := by intro; rfl) : We Γ A st F L (.Call (.Attribute o x apos) es [] pos) ℓ σ Q E := .mk fun s R m rl lc => by
  rw [he]
  refine wpAny_bind (h.use rl lc fun vo s1 ro σ1 R1 P1 hvo h1 l1 => wpAny_bind (wpAny_standAt (wpAny_bind (wpAny_holding ?_))))
  obtain ⟨f, hm, hk, h2⟩ := h1
  exact meth_sound O P1.rel P1.fr hvo hm fun fv hfv => callWith_sound (firstV := [ro]) O P1 l1 hfv (.cons hvo .nil) hk (hp _) h2
end
end
section
open Builtin Builtin.Str
section
variable {Γ : Cx} {A : Around} {st : List Env} {F : Fn} {L : Addr} {e : Expr} {ℓ : List (Option V)} {σ : List AObj} {Q : V → List AObj → Prop} {E : Int → Prop}
  {s : Shared} {R : Mp} {m : Str → Option Value}
theorem Post.self {fr : Fr Γ.B L s.heap m} (r : Rel Γ (F.env L :: st) σ R s) : Post Γ st F L m σ R s σ R s := ⟨r, fr, .refl r.live fun L' q => by cases q; exact ns_live fr.ns⟩
theorem lt_of_get {σ : List AObj} {i : Nat} {ao} (h : σ[i]? = some ao) : i < σ.length := (List.getElem?_eq_some_iff.mp h).1
theorem Wf.append {i : Nat} {vs : List V} {W : V} (O : Γ.Ok) (h : σ[i]? = some (.list vs)) (hz : vs.length ≤ sizeLim) (hq : Q .none (σ.set i (.list (vs ++ [W])))) : Wf Γ A st F L (.blt "list.append") [.obj i, W] σ Q E := by
  intro s R m v ws r F0 hB hv hvs
  obtain ⟨v1, r1, rfl, h1, h2⟩ := hvs.cons_iff
  obtain ⟨v2, r2, rfl, h3, h4⟩ := h2.cons_iff
  cases h4.nil_iff
  (obtain rfl := VR.inv hv); (obtain ⟨_, rfl⟩ := VR.inv h1)
  obtain ⟨l, ep, er, ho, hl⟩ := r.list h
  have hi := lt_of_get h
  rw [er] at ho ⊢
  refine append_K F0 (newsBut_ok ho (r.off _ (.head _) L rfl i hi) (get_none_of O.bh (r.fresh i hi))) upd_but (fun h' F' N' => ?_) (by simpa [hl.1] using Nat.le_trans hz sizeLim_le)
  have P := (Post.self (fr := F0) r).turn (tk := s.toks) (ao := .list (vs ++ [W])) O hB hi F' N' (.inl rfl) (fun _ q => nomatch q) fun G => ?_
  · exact ⟨_, _, _, P, .none, hq⟩
  · refine .list (ep := ep + 1) er ?_ ((hl.gr G).append (.cons (h3.gr G) .nil))
    rw [(N' _ (.head _)).1]; simp
theorem kl_last_append (y : Value) (l : List Value) : kl_last (l ++ [y]) = some (l, y) := by
  induction l with
  | nil => rfl
  | cons x r ih => show (match kl_last (r ++ [y]) with | some (p, z) => some (x :: p, z) | none => some ([], x)) = _; rw [ih]
theorem Wf.pop {i : Nat} {vs : List V} {W : V} (O : Γ.Ok) (h : σ[i]? = some (.list (vs ++ [W]))) (hz : vs.length ≤ sizeLim) (hq : Q W (σ.set i (.list vs))) : Wf Γ A st F L (.blt "list.pop") [.obj i] σ Q E := by
  intro s R m v ws r F0 hB hv hvs
  obtain ⟨v1, r1, rfl, h1, h2⟩ := hvs.cons_iff
  cases h2.nil_iff
  (obtain rfl := VR.inv hv); (obtain ⟨_, rfl⟩ := VR.inv h1)
  obtain ⟨l, ep, er, ho, hl⟩ := r.list h
  have hi := lt_of_get h
  rw [er] at ho ⊢
  obtain ⟨l', y, rfl⟩ : ∃ l' y, l = l' ++ [y] := by
    rcases List.eq_nil_or_concat l with q | ⟨l', y, q⟩
    · subst q; have := hl.1; simp at this
    · exact ⟨l', y, by simpa using q⟩
  have hlen : l'.length = vs.length := by have := hl.1; simpa using this
  have hy : VR s.heap R.r σ.length y W := hl.2 vs.length y W (by rw [← hlen]; simp) (by simp)
  have hl' : VRs s.heap R.r σ.length l' vs := ⟨hlen, fun k v X e1 e2 => hl.2 k v X (by rw [List.getElem?_append_left (List.getElem?_eq_some_iff.mp e1).1]; exact e1) (by rw [List.getElem?_append_left (List.getElem?_eq_some_iff.mp e2).1]; exact e2)⟩
  refine kl_pop F0 (newsBut_ok ho (r.off _ (.head _) L rfl i hi) (get_none_of O.bh (r.fresh i hi))) (by simpa using kl_last_append y l') upd_but (by simp; have := Nat.le_trans hz sizeLim_le; rw [sizeLine_eq] at *; unfold sizeLim at hz; (exact ar263 hz hlen)) fun h' F' N' => ?_
  have P := (Post.self (fr := F0) r).turn (tk := s.toks) (ao := .list vs) O hB hi F' N' (.inl rfl) (fun _ q => nomatch q) fun G => ?_
  · exact ⟨_, _, _, P, hy.ext P.ext |> fun z => by simpa using z, hq⟩
  · exact .list er (N' _ (.head _)).1 (hl'.gr G)
theorem Wf.extend {i j : Nat} {vs ws : List V} (O : Γ.Ok) (h : σ[i]? = some (.list vs)) (h' : σ[j]? = some (.list ws)) (hij : i ≠ j) (hz : vs.length + ws.length ≤ sizeLim) (hq : Q .none (σ.set i (.list (vs ++ ws)))) : Wf Γ A st F L (.blt "list.extend") [.obj i, .obj j] σ Q E := by
  intro s R m v xs r F0 hB hv hvs
  obtain ⟨v1, r1, rfl, h1, h2⟩ := hvs.cons_iff
  obtain ⟨v2, r2, rfl, h3, h4⟩ := h2.cons_iff
  cases h4.nil_iff
  (obtain rfl := VR.inv hv); (obtain ⟨_, rfl⟩ := VR.inv h1); (obtain ⟨_, rfl⟩ := VR.inv h3)
  obtain ⟨l, ep, er, ho, hl⟩ := r.list h
  obtain ⟨l2, ep2, er2, ho2, hl2⟩ := r.list h'
  have hi := lt_of_get h
  rw [er] at ho ⊢
  refine extend_in (own := []) F0 (newsBut_ok ho (r.off _ (.head _) L rfl i hi) (get_none_of O.bh (r.fresh i hi))) (fun _ q => nomatch q) newsBut_ne ho2 (fun h' n' F' N' => ?_) (by simpa [hl.1, hl2.1] using Nat.le_trans hz sizeLim_le)
  have P := (Post.self (fr := F0) r).turn (tk := s.toks) (ao := .list (vs ++ ws)) O hB hi F' N' (.inl rfl) (fun _ q => nomatch q) fun G => ?_
  · exact ⟨_, _, _, P, .none, hq⟩
  · refine .list (ep := n') er ?_ ((hl.gr G).append (hl2.gr G))
    rw [(N' _ (.head _)).1]
theorem gives_find4 (x y : Str) (i j : Int) (t u v w : Tok) : Gives («str.find» ⟨[.str x t, .str y u, .int i v, .int j w], []⟩)
    (.int (match occurrences x y (fromIndex x.length i) (min (fromIndex x.length j) x.length) 1 with | k :: _ => (k : Int) | [] => -1)) := by
  show Gives (match occurrences x y (fromIndex x.length i) (min (fromIndex x.length j) x.length) 1 with | k :: _ => retInt k | [] => (do rule "str.find.not-found"; retInt (-1))) _
  cases occurrences x y (fromIndex x.length i) (min (fromIndex x.length j) x.length) 1 with
  | nil => exact .rule (.of_eq rfl)
  | cons k _ => exact .of_eq rfl
theorem gives_startswith4 (x y : Str) (i j : Int) (t u v w : Tok) : Gives («str.startswith» ⟨[.str x t, .str y u, .int i v, .int j w], []⟩)
    (.val (.bool (fromIndex x.length i + y.length ≤ min (fromIndex x.length j) x.length && subAt x y (fromIndex x.length i)))) := by
  show Gives (ret (.bool (fromIndex x.length i + y.length ≤ min (fromIndex x.length j) x.length && subAt x y (fromIndex x.length i)))) _
  exact .of_eq rfl
theorem Wf.find4 {x y : Str} {i j : Int} (hq : Q (.int (match occurrences x y (fromIndex x.length i) (min (fromIndex x.length j) x.length) 1 with | k :: _ => (k : Int) | [] => -1)) σ) :
    Wf Γ A st F L (.blt "str.find") [.str x, .str y, .int i, .int j] σ Q E := by
  intro s R m v xs r F0 hB hv hvs
  obtain ⟨v1, r1, rfl, h1, h2⟩ := hvs.cons_iff
  obtain ⟨v2, r2, rfl, h3, h4⟩ := h2.cons_iff
  obtain ⟨v3, r3, rfl, h5, h6⟩ := h4.cons_iff
  obtain ⟨v4, r4, rfl, h7, h8⟩ := h6.cons_iff
  cases h8.nil_iff
  (obtain rfl := VR.inv hv); (obtain ⟨_, rfl⟩ := VR.inv h1); (obtain ⟨_, rfl⟩ := VR.inv h3); (obtain ⟨_, rfl⟩ := VR.inv h5); (obtain ⟨_, rfl⟩ := VR.inv h7)
  exact call_gives PySem.F.slot_str_find (typeIs_str _ _ _) PySem.F.entry_str_find (PySem.F.args_str_find_4 _ _ _ _) (gives_find4 x y i j _ _ _ _) ⟨_, _, _, (Post.self (fr := F0) r).tok _, .int _ _, hq⟩
theorem Wf.startswith4 {x y : Str} {i j : Int} (hq : Q (.bool (fromIndex x.length i + y.length ≤ min (fromIndex x.length j) x.length && subAt x y (fromIndex x.length i))) σ) :
    Wf Γ A st F L (.blt "str.startswith") [.str x, .str y, .int i, .int j] σ Q E := by
  intro s R m v xs r F0 hB hv hvs
  obtain ⟨v1, r1, rfl, h1, h2⟩ := hvs.cons_iff
  obtain ⟨v2, r2, rfl, h3, h4⟩ := h2.cons_iff
  obtain ⟨v3, r3, rfl, h5, h6⟩ := h4.cons_iff
  obtain ⟨v4, r4, rfl, h7, h8⟩ := h6.cons_iff
  cases h8.nil_iff
  (obtain rfl := VR.inv hv); (obtain ⟨_, rfl⟩ := VR.inv h1); (obtain ⟨_, rfl⟩ := VR.inv h3); (obtain ⟨_, rfl⟩ := VR.inv h5); (obtain ⟨_, rfl⟩ := VR.inv h7)
  exact call_gives PySem.F.slot_str_startswith (typeIs_str _ _ _) PySem.F.entry_str_startswith (PySem.F.args_str_startswith_4 _ _ _ _) (gives_startswith4 x y i j _ _ _ _) ⟨_, _, _, Post.self (fr := F0) r, .bool _, hq⟩
theorem strValues_of {h r n} {vs : List Value} {ys : List Str} (x : VRs h r n vs (ys.map V.str)) : ∃ l : List (Str × Tok), vs = strValues l ∧ l.map (·.1) = ys := by
  induction ys generalizing vs with
  | nil => exact ⟨[], x.nil_iff, rfl⟩
  | cons y ys ih =>
    obtain ⟨v, vs', rfl, a, b⟩ := x.cons_iff
    obtain ⟨_, rfl⟩ := VR.inv a
    obtain ⟨l, rfl, e⟩ := ih b
    exact ⟨(y, _) :: l, rfl, congrArg (y :: ·) e⟩
theorem Wf.join {x : Str} {i : Nat} {ys : List Str} (h : σ[i]? = some (.list (ys.map V.str))) (hok : JoinOk x ys = true) (hq : Q (.str (Txt.join x ys)) σ) : Wf Γ A st F L (.blt "str.join") [.str x, .obj i] σ Q E := by
  intro s R m v xs r F0 hB hv hvs
  obtain ⟨v1, r1, rfl, h1, h2⟩ := hvs.cons_iff
  obtain ⟨v2, r2, rfl, h3, h4⟩ := h2.cons_iff
  cases h4.nil_iff
  (obtain rfl := VR.inv hv); (obtain ⟨_, rfl⟩ := VR.inv h1); (obtain ⟨_, rfl⟩ := VR.inv h3)
  obtain ⟨l, ep, er, ho, hl⟩ := r.list h
  obtain ⟨l', rfl, e⟩ := strValues_of hl
  exact PySem.SC.join (isList_listOf ho) e hok fun t' k => ⟨_, _, _, (Post.self (fr := F0) r).tok _, .str _ _, hq⟩
theorem Wf.getDefault {a : Addr} {es : Array DictEntry} {n : Nat} {x : Str} {z : Int} {ro : Option Value} (O : Γ.Ok) (h : Γ.K.lookup a = some ⟨.type "dict", none, .dict es n, #[]⟩) (hk : KeysLit Γ.w.params es.toList) (lo : (a == sysModules) = false)
    (hn : nsIn Γ.K a x = some ro) {W : V} (hc : match ro with | some v => CR Γ.K v W | none => W = .int z) (hq : Q W σ) : Wf Γ A st F L (.blt "dict.get") [.glob a, .str x, .int z] σ Q E := by
  intro s R m v xs r F0 hB hv hvs
  obtain ⟨v1, r1, rfl, h1, h2⟩ := hvs.cons_iff
  obtain ⟨v2, r2, rfl, h3, h4⟩ := h2.cons_iff
  obtain ⟨v3, r3, rfl, h5, h6⟩ := h4.cons_iff
  cases h6.nil_iff
  (obtain rfl := VR.inv hv); (obtain rfl := VR.inv h1); (obtain ⟨_, rfl⟩ := VR.inv h3); (obtain ⟨_, rfl⟩ := VR.inv h5)
  have X := O.kin.keeps F0.keep
  have hm := mapOf_K (prog := Γ.prog) (w := Γ.w) X h hk
  refine call_meetsIn PySem.F.slot_dict_get hm.typeIs PySem.F.entry_dict_get (PySem.F.args_dict_get_3 _ _ _) (meets_dict_get_default (strKind Γ.prog Γ.w) a (strKind_is Γ.prog Γ.w x _) lo _) ⟨_, hm, ?_⟩
  rw [find_K h hn]
  refine ⟨_, _, _, (Post.self (fr := F0) r).tok _, ?_, hq⟩
  cases ro with
  | none => subst hc; exact .int _ _
  | some v => exact hc.vr X
theorem Wf.lenStr {x : Str} (hz : x.length ≤ sizeLim) (hq : Q (.int x.length) σ) : Wf Γ A st F L (.blt "len") [.str x] σ Q E := by
  intro s R m v xs r F0 hB hv hvs
  obtain ⟨v1, r1, rfl, h1, h2⟩ := hvs.cons_iff
  cases h2.nil_iff
  (obtain rfl := VR.inv hv); (obtain ⟨_, rfl⟩ := VR.inv h1)
  exact PySem.P.len_str (by unfold sizeLim at hz; (exact ar346 hz)) ⟨_, _, _, (Post.self (fr := F0) r).tok _, .int _ _, hq⟩
theorem Wf.lenList {i : Nat} {vs : List V} (h : σ[i]? = some (.list vs)) (hz : vs.length ≤ sizeLim) (hq : Q (.int vs.length) σ) : Wf Γ A st F L (.blt "len") [.obj i] σ Q E := by
  intro s R m v xs r F0 hB hv hvs
  obtain ⟨v1, r1, rfl, h1, h2⟩ := hvs.cons_iff
  cases h2.nil_iff
  (obtain rfl := VR.inv hv); (obtain ⟨_, rfl⟩ := VR.inv h1)
  obtain ⟨l, ep, er, ho, hl⟩ := r.list h
  have hsz : l.toArray.size = vs.length := by simpa using hl.1
  refine len_list (isList_listOf ho) (by rw [hsz]; unfold sizeLim at hz; (exact ar268 hz)) ⟨_, _, _, (Post.self (fr := F0) r).tok _, ?_, hq⟩
  rw [hsz]; exact .int _ _
noncomputable def isStrV : V → Option Bool
  | .str _ => some true
  | .int _ => some false
  | .tup _ => some false
  | _ => none
noncomputable def isTupV : V → Option Bool
  | .tup _ => some true
  | .str _ => some false
  | .int _ => some false
  | .none => some false
  | _ => none
theorem Wf.isStr {W : V} {b : Bool} (h : isStrV W = some b) (hq : Q (.bool b) σ) : Wf Γ A st F L (.blt "isinstance") [W, .typ "str"] σ Q E := by
  intro s R m v xs r F0 hB hv hvs
  obtain ⟨v1, r1, rfl, h1, h2⟩ := hvs.cons_iff
  obtain ⟨v2, r2, rfl, h3, h4⟩ := h2.cons_iff
  cases h4.nil_iff
  (obtain rfl := VR.inv hv); (obtain rfl := VR.inv h3)
  cases W <;> first | (cases h; done) | skip
  · cases h; (obtain ⟨_, rfl⟩ := VR.inv h1); exact PySem.IsiPair.int_str ⟨_, _, _, (Post.self (fr := F0) r).tok _, .bool _, hq⟩
  · cases h; (obtain ⟨_, rfl⟩ := VR.inv h1); exact PySem.IsiPair.str_str ⟨_, _, _, (Post.self (fr := F0) r), .bool _, hq⟩
  · cases h
    obtain ⟨a, vs, rfl, ⟨o, ho, hc, _⟩, hv⟩ := h1.isTup
    exact PySem.IsiPair.tuple_str ho hc ⟨_, _, _, (Post.self (fr := F0) r).tok _, .bool _, hq⟩
theorem Wf.isStrList {i : Nat} {vs : List V} (h : σ[i]? = some (.list vs)) (hq : Q (.bool false) σ) : Wf Γ A st F L (.blt "isinstance") [.obj i, .typ "str"] σ Q E := by
  intro s R m v xs r F0 hB hv hvs
  obtain ⟨v1, r1, rfl, h1, h2⟩ := hvs.cons_iff
  obtain ⟨v2, r2, rfl, h3, h4⟩ := h2.cons_iff
  cases h4.nil_iff
  (obtain rfl := VR.inv hv); (obtain rfl := VR.inv h3); (obtain ⟨_, rfl⟩ := VR.inv h1)
  obtain ⟨l, ep, er, ho, hl⟩ := r.list h
  exact PySem.IsiPair.list_str ho rfl ⟨_, _, _, (Post.self (fr := F0) r).tok _, .bool _, hq⟩
theorem Wf.intText {x : Str} {n : Int} (hn : PySem.intText? x = some n) (hl : x.length ≤ 640) (hq : Q (.int n) σ) : Wf Γ A st F L (.typ "int") [.str x] σ Q E := by
  intro s R m v xs r F0 hB hv hvs
  obtain ⟨v1, r1, rfl, h1, h2⟩ := hvs.cons_iff
  cases h2.nil_iff
  (obtain rfl := VR.inv hv); (obtain ⟨_, rfl⟩ := VR.inv h1)
  exact PySem.W.KIN.call_text hn hl ⟨_, _, _, (Post.self (fr := F0) r).tok _, .int _ _, hq⟩
theorem Wf.strInt {n : Int} (hn : n.natAbs.log2 < 1920) (hq : Q (.str (toString n)) σ) : Wf Γ A st F L (.typ "str") [.int n] σ Q E := by
  intro s R m v xs r F0 hB hv hvs
  obtain ⟨v1, r1, rfl, h1, h2⟩ := hvs.cons_iff
  cases h2.nil_iff
  (obtain rfl := VR.inv hv); (obtain ⟨_, rfl⟩ := VR.inv h1)
  exact PySem.P.str_of_int hn ⟨_, _, _, (Post.self (fr := F0) r).tok _, .str _ _, hq⟩
theorem Wf.tupleList {i : Nat} {vs : List V} (h : σ[i]? = some (.list vs)) (hz : vs.length ≤ sizeLim) (hq : Q (.tup vs) σ) : Wf Γ A st F L (.typ "tuple") [.obj i] σ Q E := by
  intro s R m v xs r F0 hB hv hvs
  obtain ⟨v1, r1, rfl, h1, h2⟩ := hvs.cons_iff
  cases h2.nil_iff
  (obtain rfl := VR.inv hv); (obtain ⟨_, rfl⟩ := VR.inv h1)
  obtain ⟨l, ep, er, ho, hl⟩ := r.list h
  refine call_tuple_list (isList_listOf ho) (fun h' hk => ?_) (by simpa [hl.1] using Nat.le_trans hz sizeLim_le)
  have k : KeepsL (some L) s.heap (h'.push { cls := .type "tuple", data := .seq l.toArray }) := fun b o e _ => Heap.get?_push_of_some _ (hk b o e)
  have F' : Fr Γ.B L (h'.push { cls := .type "tuple", data := .seq l.toArray }) m := by
    obtain ⟨oL, a1, a2, hL, a3⟩ := F0.ns
    exact ⟨⟨oL, a1, a2, Heap.get?_push_of_some _ (hk _ _ hL), a3⟩, fun b o e => Heap.get?_push_of_some _ (hk _ _ (F0.keep b o e)), F0.above⟩
  have E1 := KeepsL.ext r rfl F0.ns F'.ns k
  exact ⟨_, _, _, ⟨r.keepsL (tk := s.toks) (d := s.drawn) rfl hB F0.ns F'.ns k F0.above, F', E1⟩, .tup' ⟨_, Heap.get?_push_size _ rfl, rfl, _, rfl⟩ (hl.ext E1), hq⟩
end
end
section
inductive Fl where
  | next | brk | cont
  | ret (W : V)
inductive FlR (h : Heap) (r : Nat → Addr) (n : Nat) : Flow → Fl → Prop
  | next : FlR h r n .next .next
  | brk : FlR h r n .brk .brk
  | cont : FlR h r n .cont .cont
  | ret {v W} (hv : VR h r n v W) : FlR h r n (.ret v) (.ret W)
section
variable {Γ : Cx} {A : Around} {st : List Env} {F : Fn} {L : Addr} {e : Expr} {ℓ ℓ' : List (Option V)} {σ : List AObj} {E : Int → Prop}
  {s : Shared} {R : Mp} {m : Str → Option Value}
inductive QF (Γ : Cx) (st : List Env) (F : Fn) (L : Addr) (σ : List AObj) (R : Mp) (s : Shared) (Q : Fl → List (Option V) → List AObj → Prop) (f : Flow) (s' : Shared) : Prop
  | mk (f' : Fl) (ℓ' : List (Option V)) (σ' : List AObj) (R' : Mp) (m' : Str → Option Value) (r : Rel Γ (F.env L :: st) σ' R' s') (l : Loc Γ F L ℓ' σ'.length R' m' s'.heap) (x : Ext (some L) σ.length R s.heap σ'.length R' s'.heap) (hf : FlR s'.heap R'.r σ'.length f f') (q : Q f' ℓ' σ')
structure Ws (Γ : Cx) (A : Around) (st : List Env) (F : Fn) (L : Addr) (c : Stmt) (ℓ : List (Option V)) (σ : List AObj) (Q : Fl → List (Option V) → List AObj → Prop) (E : Int → Prop) : Prop where
  mk :: h : ∀ s R m, Rel Γ (F.env L :: st) σ R s → Loc Γ F L ℓ σ.length R m s.heap → wpAny Γ.M A (exec c (F.env L)) (QF Γ st F L σ R s Q) (EX Γ st F L E) s
structure Wx (Γ : Cx) (A : Around) (st : List Env) (F : Fn) (L : Addr) (c : List Stmt) (ℓ : List (Option V)) (σ : List AObj) (Q : Fl → List (Option V) → List AObj → Prop) (E : Int → Prop) : Prop where
  mk :: h : ∀ s R m, Rel Γ (F.env L :: st) σ R s → Loc Γ F L ℓ σ.length R m s.heap → wpAny Γ.M A (execs c (F.env L)) (QF Γ st F L σ R s Q) (EX Γ st F L E) s
noncomputable def ThenK (Q : Fl → List (Option V) → List AObj → Prop) (k : List (Option V) → List AObj → Prop) (f : Fl) (ℓ : List (Option V)) (σ : List AObj) : Prop := match f with
  | .next => k ℓ σ
  | f => Q f ℓ σ
variable {Q : Fl → List (Option V) → List AObj → Prop}
theorem QF.after {σ1 R1 s1 f s'} (x : Ext (some L) σ.length R s.heap σ1.length R1 s1.heap) (h : QF Γ st F L σ1 R1 s1 Q f s') : QF Γ st F L σ R s Q f s' := by
  obtain ⟨f', ℓ', σ', R', m', a, b, c, d, q⟩ := h
  exact ⟨f', ℓ', σ', R', m', a, b, x.trans c, d, q⟩
theorem Wx.nil (h : Q .next ℓ σ) : Wx Γ A st F L [] ℓ σ Q E := .mk fun s R m r l => wpAny_execs_nil ⟨_, _, _, _, _, r, l, (Post.refl r l).ext, .next, h⟩
theorem Wx.cons {c : Stmt} {rest : List Stmt} (h : Ws Γ A st F L c ℓ σ (ThenK Q fun ℓ1 σ1 => Wx Γ A st F L rest ℓ1 σ1 Q E) E) : Wx Γ A st F L (c :: rest) ℓ σ Q E := .mk fun s R m r l => by
  refine wpAny_execs_cons (wpAny_mono (h.1 s R m r l) (fun f s1 hpat => ?_) fun _ _ x => x)
  obtain ⟨f', ℓ1, σ1, R1, m1, r1, l1, x1, hf, q⟩ := hpat
  cases hf with
  | next => exact wpAny_mono (q.1 s1 R1 m1 r1 l1) (fun f s2 h2 => h2.after x1) fun _ _ x => x
  | brk => exact ⟨_, _, _, _, _, r1, l1, x1, .brk, q⟩
  | cont => exact ⟨_, _, _, _, _, r1, l1, x1, .cont, q⟩
  | ret hv => exact ⟨_, _, _, _, _, r1, l1, x1, .ret hv, q⟩
theorem Post.qf {σ' R' s'} (P : Post Γ st F L m σ R s σ' R' s') (l : Loc Γ F L ℓ σ.length R m s.heap) (h : Q .next ℓ σ') : QF Γ st F L σ R s Q .next s' := ⟨_, _, _, _, _, P.rel, l.post P, P.ext, .next, h⟩
theorem Ws.ret {v : Expr} {pos} (h : We Γ A st F L v ℓ σ (fun W σ1 => Q (.ret W) ℓ σ1) E) : Ws Γ A st F L (.Return (some v) pos) ℓ σ Q E := .mk fun s R m r l =>
  wpAny_Return_some (h.use r l fun vv s1 W σ1 R1 P hv hq l1 => ⟨_, _, _, _, _, P.rel, l1, P.ext, .ret hv, hq⟩)
theorem Ws.retNone {pos} (h : Q (.ret .none) ℓ σ) : Ws Γ A st F L (.Return none pos) ℓ σ Q E := .mk fun s R m r l =>
  wpAny_Return_none ⟨_, _, _, _, _, r, l, (Post.refl r l).ext, .ret .none, h⟩
theorem Ws.cont {pos} (h : Q .cont ℓ σ) : Ws Γ A st F L (.Continue pos) ℓ σ Q E := .mk fun s R m r l => wpAny_Continue ⟨_, _, _, _, _, r, l, (Post.refl r l).ext, .cont, h⟩
theorem Ws.if {t : Expr} {a b : List Stmt} {pos} (h : Wt Γ A st F L t ℓ σ (fun c σ1 => if c then Wx Γ A st F L a ℓ σ1 Q E else Wx Γ A st F L b ℓ σ1 Q E) E) : Ws Γ A st F L (.If t a b pos) ℓ σ Q E := .mk fun s R m r l => by
  refine wpAny_If (h.use r l fun c s1 σ1 R1 P h1 l1 => ?_)
  cases c with
  | true => exact wpAny_mono ((show Wx Γ A st F L a ℓ σ1 Q E by simpa using h1).1 s1 R1 m P.rel l1) (fun f s2 h2 => h2.after P.ext) fun _ _ x => x
  | false => exact wpAny_mono ((show Wx Γ A st F L b ℓ σ1 Q E by simpa using h1).1 s1 R1 m P.rel l1) (fun f s2 h2 => h2.after P.ext) fun _ _ x => x
theorem Ws.expr {v : Expr} {pos} (O : FnOk F) (h : We Γ A st F L v ℓ σ (fun W σ1 => Q .next ℓ σ1) E) (hs : ∀ env, swapsWith v none pos.line env = pure false := by intro; rfl) : Ws Γ A st F L (.Expr v pos) ℓ σ Q E := .mk fun s R m r l => by
  have hi : interactive (F.env L) = false := by
    show (F.scope.kind == .module && _) = false
    rw [O.kind]; rfl
  exact wpAny_Expr_any (h.use r l fun vv s1 W σ1 R1 P hv hq l1 => P.qf l hq) hi (hs _)
inductive Put : List (Str × NameKind) → List (Option V) → Str → V → List (Option V) → Prop
  | head {x W o ks ℓ} : Put ((x, .local) :: ks) (o :: ℓ) x W (some W :: ℓ)
  | tail {x W y o ks ℓ ℓ'} (h : Put ks ℓ x W ℓ') : Put (y :: ks) (o :: ℓ) x W (o :: ℓ')
theorem Put.mem {ks ℓ x W ℓ'} (h : Put ks ℓ x W ℓ') : (x, NameKind.local) ∈ ks := by
  induction h with
  | head => exact .head _
  | tail _ ih => exact .tail _ ih
theorem Put.get {ks ℓ x W ℓ'} (h : Put ks ℓ x W ℓ') (hn : (ks.map (·.1)).Nodup) : ∀ (k : Nat) y kd W', ks[k]? = some (y, kd) → ℓ'[k]? = some (some W') → (y = x ∧ W' = W) ∨ (y ≠ x ∧ ℓ[k]? = some (some W')) := by
  induction h with
  | head =>
    intro k y kd W' e1 e2
    rw [List.map_cons, List.nodup_cons] at hn
    cases k with
    | zero => simp at e1 e2; exact .inl ⟨e1.1.symm, e2.symm⟩
    | succ k =>
      simp at e1 e2
      refine .inr ⟨fun q => hn.1 ?_, by simpa using e2⟩
      exact q ▸ List.mem_map_of_mem (f := (·.1)) (List.mem_of_getElem? e1)
  | @tail x W y o ks ℓ ℓ' h ih =>
    intro k z kd W' e1 e2
    rw [List.map_cons, List.nodup_cons] at hn
    cases k with
    | zero =>
      simp at e1 e2
      refine .inr ⟨fun q => hn.1 ?_, by simpa using e2⟩
      subst q
      have := List.mem_map_of_mem (f := (·.1)) h.mem
      rw [e1]; exact this
    | succ k =>
      simp at e1 e2
      rcases ih hn.2 k z kd W' e1 e2 with q | ⟨q1, q2⟩
      · exact .inl q
      · exact .inr ⟨q1, by simpa using q2⟩
theorem store_sound {x : Str} {v : Value} {W : V} {C : Unit → Shared → Prop} {E' : Value → Shared → Prop} (O : FnOk F) (r : Rel Γ (F.env L :: st) σ R s) (l : Loc Γ F L ℓ σ.length R m s.heap) (hv : VR s.heap R.r σ.length v W) (hp : Put F.scope.names ℓ x W ℓ')
    (k : ∀ s' m', Rel Γ (F.env L :: st) σ R s' → Loc Γ F L ℓ' σ.length R m' s'.heap → Ext (some L) σ.length R s.heap σ.length R s'.heap → C () s') : wpAny Γ.M A (storeName (F.env L) x v) C E' s := by
  refine wpAny_storeName_local (O.kindOf hp.mem) l.fr.ns (fun h' hn hs => ?_) (by show (F.scope.kind == .class || (F.scope.kind == .module && L != mainGlobals)) = false; rw [O.kind]; rfl)
  have F' : Fr Γ.B L h' (fun y => if y = x then some v else m y) := l.fr.set hn hs
  have kk : KeepsL (some L) s.heap h' := fun b o e hX => (hs.2 b (fun q => hX (congrArg some q))).trans e
  have E1 := KeepsL.ext r rfl l.fr.ns hn kk
  refine k _ _ (r.keepsL (d := s.drawn) rfl l.hB l.fr.ns hn kk l.fr.above) ⟨F', l.hB, fun i y kd W' e1 e2 => ?_⟩ E1
  rcases hp.get O.nodup i y kd W' e1 e2 with ⟨rfl, rfl⟩ | ⟨q1, q2⟩
  · exact ⟨v, by simp, hv.ext E1⟩
  · obtain ⟨v', hv', hr'⟩ := l.loc i y kd W' e1 q2
    exact ⟨v', by simp [q1, hv'], hr'.ext E1⟩
inductive PutQ (ks : List (Str × NameKind)) (ℓ : List (Option V)) (x : Str) (W : V) (P : List (Option V) → Prop) : Prop
  | mk (ℓ' : List (Option V)) (h : Put ks ℓ x W ℓ') (q : P ℓ')
theorem Ws.assign {x : Str} {xp pos} {v : Expr} (O : FnOk F) (h : We Γ A st F L v ℓ σ (fun W σ1 => PutQ F.scope.names ℓ x W fun ℓ' => Q .next ℓ' σ1) E) (hs : ∀ env, swapsWith v (some (.Name x xp)) pos.line env = pure false := by intro; rfl) : Ws Γ A st F L (.Assign [.Name x xp] v pos) ℓ σ Q E := .mk fun s R m r l => by
  refine wpAny_Assign_Name (h.use r l fun vv s1 W σ1 R1 P hv hq l1 => ?_) (hs _)
  obtain ⟨ℓ', hp, hq⟩ := hq
  exact store_sound O P.rel l1 hv hp fun s2 m2 r2 l2 x2 => ⟨_, _, _, _, _, r2, l2, P.ext.trans x2, .next, hq⟩
theorem Post.turn' {h' tk} {σ' R' s'} {i : Nat} {ao : AObj} {o' : Obj} (x : Post Γ st F L m σ R s σ' R' s') (O : Γ.Ok) (hB : Γ.H.get? L = none) (hi : i < σ'.length) (hs : Heap.SameBut (R'.m i) s'.heap h')
    (hn : h'.get? (R'.m i) = some o') (hcls : o'.cls = .type "list" ∨ o'.cls = .type "dict") (hdat : ∀ vs, o'.data ≠ .fields vs)
    (ho : Gr σ'.length R' s'.heap σ'.length R' h' → OR Γ.prog Γ.w h' R' σ'.length i ao) :
    Post Γ st F L m σ R s (σ'.set i ao) R' { s' with heap := h', toks := tk } := by
  have hoffL : R'.m i ≠ L := x.rel.off _ (.head _) L rfl i hi
  have hBi := get_none_of O.bh (x.rel.fresh i hi)
  refine x.turn O hB hi ⟨x.fr.ns.sameBut hs hoffL.symm, fun b o e => (hs.2 b (fun q => by rw [q, hBi] at e; cases e)).trans (x.fr.keep b o e), x.fr.above⟩ ?_ hcls hdat ho
  rintro ⟨b, o⟩ hp
  rcases List.mem_cons.mp hp with q | q
  · cases q; exact ⟨hn, hoffL, hBi⟩
  · obtain ⟨⟨h1, h2, h3⟩, h4⟩ := mem_newsBut.mp q
    exact ⟨(hs.2 b h4).trans h1, h2, h3⟩
inductive Rep : List (Str × V) → Str → V → List (Str × V) → Prop
  | head {x W W' fs} : Rep ((x, W') :: fs) x W ((x, W) :: fs)
  | tail {x W y fs fs'} (h : Rep fs x W fs') : Rep (y :: fs) x W (y :: fs')
theorem Rep.mem {fs x W fs'} (h : Rep fs x W fs') : x ∈ fs.map (·.1) := by
  induction h with
  | head => simp
  | tail _ ih => rw [List.map_cons]; exact .tail _ ih
theorem Rep.kr {h r n fs x W fs'} (p : Rep fs x W fs') {v : Value} (hv : VR h r n v W) : ∀ {kvs}, KR h r n kvs fs → (fs.map (·.1)).Nodup → KR h r n (stored kvs x v) fs' := by
  have key : ∀ {kvs}, KR h r n kvs fs → (fs.map (·.1)).Nodup → KR h r n (kvs.map fun kv => if kv.1 = x then (kv.1, v) else kv) fs' := by
    induction p with
    | @head x W W' fs =>
      intro kvs k hn
      cases k with
      | @cons _ v0 _ es _ hv' hr =>
      rw [List.map_cons, List.nodup_cons] at hn
      rw [List.map_cons]
      simp only [if_true]
      refine .cons hv ?_
      have : es.map (fun kv => if kv.1 = x then (kv.1, v) else kv) = es := map_store_of_not_mem es x v (by rw [hr.names]; exact hn.1)
      rw [this]; exact hr
    | @tail x W y fs fs' p ih =>
      intro kvs k hn
      cases k with
      | @cons x' v0 W0 es _ hv' hr =>
      rw [List.map_cons, List.nodup_cons] at hn
      rw [List.map_cons]
      have : ¬ x' = x := fun q => hn.1 (q ▸ p.mem)
      simp only [this, if_false]
      exact .cons hv' (ih hv hr hn.2)
  intro kvs k hn
  unfold stored
  rw [if_pos]
  · exact key k hn
  · rw [List.any_eq_true]
    have := p.mem
    rw [← k.names] at this
    obtain ⟨kv, h1, h2⟩ := List.mem_map.mp this
    exact ⟨kv, h1, by simp [h2]⟩
end
end
section
section
variable {Γ : Cx} {A : Around} {st : List Env} {F : Fn} {L : Addr} {s : Shared} {E' : Value → Shared → Prop}
noncomputable def UpTo (st : List Env) (X : List Addr) (h h' : Heap) : Prop := ∀ b o, h.get? b = some o → b ∉ X → ∃ sl, h'.get? b = some { o with slots := sl } ∧ ((∀ env ∈ st, env.frame ≠ some b) → sl = o.slots)
theorem UpTo.of_keep {st X h h'} (k : ∀ b o, h.get? b = some o → b ∉ X → h'.get? b = some o) : UpTo st X h h' := fun b o e hX => ⟨o.slots, k b o e hX, fun _ => rfl⟩
theorem UpTo.of_slots {st X h h'} (x : Heap.SlotsOnly (st.filterMap (·.frame)) h h') : UpTo st X h h' := fun b o e _ => by
  obtain ⟨sl, e1⟩ := x.2.2 b o e
  refine ⟨sl, e1, fun q => ?_⟩
  have : b ∉ st.filterMap (·.frame) := fun hm => by
    obtain ⟨env, he, hf⟩ := List.mem_filterMap.mp hm
    exact q env he hf
  have e2 := x.2.1 b this
  rw [e1, e] at e2
  have := congrArg Obj.slots (Option.some.inj e2)
  exact this
theorem funFrames_upTo {B h h' : Heap} {st0 : List Env} {X : List Addr} (u : UpTo st0 X h h') {st : List Env} (x : h.FunFrames B st) (off : ∀ env ∈ st, ∀ b, env.frame = some b → b ∉ X) : h'.FunFrames B st := by
  induction st with
  | nil => trivial
  | cons env r ih =>
    obtain ⟨a, ⟨b, o, hf, e0, ho, hd⟩, x⟩ := x
    obtain ⟨sl, e1, _⟩ := u b o ho (off env (.head _) b hf)
    exact ⟨a, ⟨b, _, hf, e0, e1, hd⟩, ih x fun e he => off e (.tail _ he)⟩
theorem ExcCore.move {e dx : Addr} {vs vs' : Array Value} {k : Int} {h' : Heap} {X : List Addr} {tk d} (x : ExcCore Γ st e dx vs k s) (u : UpTo st X s.heap h') (hX : ∀ b ∈ X, Γ.H.get? b = none ∧ b ≠ dx ∧ ∀ env ∈ st, env.frame ≠ some b)
    (ho : ExcObj h' e dx vs') (hsz : 1 < vs'.size) : ExcCore Γ st e dx vs' k { s with heap := h', toks := tk, drawn := d } := by
  refine ⟨ho, hsz, x.eH, ?_, x.dH, x.ne, x.off, fun b o eb => ?_, funFrames_upTo u x.frs fun env he b hb hm => (hX b hm).2.2 env he hb, x.gens, x.os⟩
  · obtain ⟨od, es, ep, t, h1, h2, h3⟩ := x.dict
    obtain ⟨sl, e1, _⟩ := u dx od h1 (fun hm => (hX dx hm).2.1 rfl)
    exact ⟨_, es, ep, t, e1, h2, h3⟩
  · obtain ⟨sl, e1, k1⟩ := x.up b o eb
    obtain ⟨sl2, e2, k2⟩ := u b _ e1 (fun hm => by rw [(hX b hm).1] at eb; cases eb)
    exact ⟨sl2, e2, fun q => (k2 q).trans (k1 q)⟩
theorem ExcCore.pop {env : Env} {e dx : Addr} {vs : Array Value} {k : Int} (x : ExcCore Γ (env :: st) e dx vs k s) (hL : ∀ b, env.frame = some b → Γ.H.get? b = none) : ExcCore Γ st e dx vs k s := by
  refine ⟨x.obj, x.size, x.eH, x.dict, x.dH, x.ne, fun e' he => x.off e' (.tail _ he), fun b o eb => ?_, x.frs.2.2, x.gens, x.os⟩
  obtain ⟨sl, e1, k1⟩ := x.up b o eb
  refine ⟨sl, e1, fun q => k1 fun e' he => ?_⟩
  rcases List.mem_cons.mp he with rfl | he
  · intro hf; rw [hL b hf] at eb; cases eb
  · exact q e' he
theorem notFrame_of_fields {B h : Heap} {b : Addr} {o : Obj} {vs} (hb : h.get? b = some o) (hd : o.data = .fields vs) {st : List Env} (hs : h.FunFrames B st) : ∀ env ∈ st, env.frame ≠ some b := by
  induction st with
  | nil => intro env he; cases he
  | cons e0 st ih =>
    intro env he hq
    have hs2 : e0.scope.kind ≠ .module ∧ (∃ L o, e0.frame = some L ∧ B.get? L = none ∧ h.get? L = some o ∧ ∀ vs, o.data ≠ .fields vs) ∧ h.FunFrames B st := hs
    obtain ⟨_, ⟨L, o', hf, _, ho, hn⟩, r⟩ := hs2
    rcases List.mem_cons.mp he with rfl | he
    · rw [hf] at hq; cases hq; rw [hb] at ho; cases ho; exact hn vs hd
    · exact ih r env he hq
theorem get_update_ne {h : Heap} {a b : Addr} (f : Obj → Obj) (hb : b ≠ a) : (h.update a f).get? b = h.get? b := Heap.get?_update_other _ _ (Ne.symm hb)
theorem setFlight_sound {e dx : Addr} {vs : Array Value} {k : Int} {v3 : Value} {fr : Option Addr} {C : Unit → Shared → Prop} (x : ExcCore Γ st e dx vs k s) (t : Tr Γ s.heap e dx vs v3)
    (c : ∀ h', ExcCore Γ st e dx vs k { s with heap := h' } → Tr Γ h' e dx vs (fr.elim .none fun f => rawInt f) → C () { s with heap := h' }) : wpAny Γ.M A (setFlight (.ref e) fr) C E' s := by
  obtain ⟨oe, he, hc, hd, hf⟩ := x.obj
  obtain ⟨T, oT, ts, t1, t2, t3, t4, t5, t6, t7⟩ := t
  unfold setFlight
  refine wpAny_bind (wpAny_field he hf t1 ?_)
  rw [if_pos (show (Value.ref T != Value.none) = true from by simp)]
  refine wpAny_setField t5 t6 (Array.getElem?_eq_some_iff.mp t7).1 ?_
  have hT' := Heap.get?_update_self (Obj.mapFields (·.setIfInBounds 3 (fr.elim Value.none fun f => rawInt f))) t5 (Obj.isFreed_of_fields (Obj.data_mapFields t6 _))
  have nT := notFrame_of_fields t5 t6 x.frs
  refine c _ (x.move (X := [T]) (.of_keep fun b o eb hb => (get_update_ne _ (by simpa using hb)).trans eb) (fun b hb => ?_) ⟨oe, (get_update_ne _ (Ne.symm t3)).trans he, hc, hd, hf⟩ x.size)
    ⟨T, _, _, t1, t2, t3, t4, hT', Obj.data_mapFields t6 _, ?_⟩
  · rw [List.mem_singleton] at hb; subst hb; exact ⟨t2, t4, nT⟩
  · have := (Array.getElem?_eq_some_iff.mp t7).1
    simp [this]
theorem newEntry_sound {e dx : Addr} {vs : Array Value} {k : Int} {head : Value} {b0 : Bool} {C : Unit → Shared → Prop} (hA : A.frames = some (F.env L :: st)) (x : ExcCore Γ (F.env L :: st) e dx vs k s)
    (c : ∀ h' vs', ExcCore Γ (F.env L :: st) e dx vs' k { s with heap := h' } → Tr Γ h' e dx vs' (rawInt L) → C () { s with heap := h' }) :
    wpAny Γ.M A (do setField (.ref e) 1 (← EntryCells.newEntry head (← frameOf (F.env L)) .none (rawInt L) .none (← entryPlaceOf L b0))) C E' s := by
  obtain ⟨oe, he, hc, hd, hf⟩ := x.obj
  have ne := notFrame_of_fields he hf x.frs
  refine wpAny_bind (wpAny_frameOf_fun hA x.frs rfl fun h₁ hs₁ => ?_)
  have u1 : UpTo (F.env L :: st) [] s.heap h₁ := .of_slots hs₁
  have he₁ : h₁.get? e = some oe := (hs₁.2.1 e (fun hm => by
    obtain ⟨env, h1, h2⟩ := List.mem_filterMap.mp hm
    exact ne env h1 h2)).trans he
  have x1 : ExcCore Γ (F.env L :: st) e dx vs k { s with heap := h₁, toks := s.toks, drawn := s.drawn } := x.move (X := []) u1 (fun _ q => nomatch q) ⟨oe, he₁, hc, hd, hf⟩ x.size
  refine wpAny_bind (wpAny_entryPlaceOf fun pl hpl => ?_)
  unfold EntryCells.newEntry newFields
  refine wpAny_bind (wpAny_newObj_type ?_ (hpl.sizeOk5 _ _ _ _ _))
  have he₂ := Heap.get?_push_of_some (h := h₁) { cls := .type "traceback", dict := none, data := .fields ([head, .ref L, .none, rawInt L, .none] ++ (if pl.isEmpty then List.replicate 6 Value.none else pl)).toArray } he₁
  have hT₂ := Heap.get?_push_size h₁ (o := { cls := .type "traceback", dict := none, data := .fields ([head, .ref L, .none, rawInt L, .none] ++ (if pl.isEmpty then List.replicate 6 Value.none else pl)).toArray }) rfl
  have hnT := get_size_none h₁
  have hH : Γ.H.get? h₁.objs.size = none := by
    cases q : Γ.H.get? h₁.objs.size with
    | none => rfl
    | some o => obtain ⟨sl, e1, _⟩ := x1.up _ o q; rw [show ({ s with heap := h₁, toks := s.toks, drawn := s.drawn } : Shared).heap = h₁ from rfl, hnT] at e1; cases e1
  have hTe : h₁.objs.size ≠ e := fun q => by rw [q, he₁] at hnT; cases hnT
  have hTd : h₁.objs.size ≠ dx := fun q => by
    obtain ⟨od, _, _, _, h1, _⟩ := x1.dict
    rw [q, show h₁.get? dx = some od from h1] at hnT; cases hnT
  refine wpAny_setField he₂ hf x.size ?_
  have hd₃ := Obj.data_mapFields hf (·.setIfInBounds 1 (Value.ref h₁.objs.size))
  have he₃ := Heap.get?_update_self (Obj.mapFields (·.setIfInBounds 1 (Value.ref h₁.objs.size))) he₂ (Obj.isFreed_of_fields hd₃)
  refine c _ _ (x1.move (X := [e]) (vs' := vs.setIfInBounds 1 (Value.ref h₁.objs.size)) (.of_keep fun b o eb hb => (get_update_ne _ (by simpa using hb)).trans (Heap.get?_push_of_some _ eb)) (fun b hb => ?_) ⟨_, he₃, ?_, ?_, hd₃⟩ (by simpa using x.size))
    ⟨h₁.objs.size, _, _, by have := x.size; simp [this], hH, hTe, hTd, (get_update_ne _ hTe).trans hT₂, rfl, by simp⟩
  · rw [List.mem_singleton] at hb; subst hb; exact ⟨x.eH, Ne.symm x.ne, ne⟩
  · rw [Obj.cls_mapFields]; exact hc
  · rw [← hd]; cases oe with | mk c d dt sl => cases dt <;> rfl
theorem note_sound {x : Value} {k : Int} {C : Unit → Shared → Prop} (hA : A.frames = some (F.env L :: st)) (h : ExcIn Γ (F.env L :: st) (some L) x k s)
    (c : ∀ h' e dx vs, x = .ref e → ExcCore Γ (F.env L :: st) e dx vs k { s with heap := h' } → Tr Γ h' e dx vs (rawInt L) → C () { s with heap := h' }) : wpAny Γ.M A (noteFrame x (F.env L)) C E' s := by
  obtain ⟨e, dx, vs, rfl, x, t⟩ := h
  obtain ⟨oe, he, hc, hd, hf⟩ := x.obj
  unfold noteFrame
  show wpAny _ _ (do
    let head ← field (.ref e) 1
    if head != .none then
      if (← field head 3) == rawInt L then return
      setField head 3 .none
    setField (.ref e) 1 (← EntryCells.newEntry head (← frameOf (F.env L)) .none (rawInt L) .none (← entryPlaceOf L (head != .none)))) _ _ _
  rcases t with t | t | ⟨L', hL', t⟩
  · refine wpAny_bind (wpAny_field he hf t ?_)
    rw [if_neg (by decide)]
    exact newEntry_sound hA x fun h' vs' a b => c h' e dx vs' rfl a b
  · obtain ⟨T, oT, ts, t1, t2, t3, t4, t5, t6, t7⟩ := t
    refine wpAny_bind (wpAny_field he hf t1 ?_)
    rw [if_pos (show (Value.ref T != Value.none) = true from by simp)]
    refine wpAny_bind (wpAny_field t5 t6 t7 ?_)
    rw [if_neg (show ¬ ((Value.none == rawInt L) = true) from by simp [rawInt])]
    refine wpAny_bind (wpAny_setField t5 t6 (Array.getElem?_eq_some_iff.mp t7).1 ?_)
    have nT := notFrame_of_fields t5 t6 x.frs
    have x1 : ExcCore Γ (F.env L :: st) e dx vs k { s with heap := s.heap.update T (Obj.mapFields (·.setIfInBounds 3 Value.none)), toks := s.toks, drawn := s.drawn } :=
      x.move (X := [T]) (.of_keep fun b o eb hb => (get_update_ne _ (by simpa using hb)).trans eb) (fun b hb => by rw [List.mem_singleton] at hb; subst hb; exact ⟨t2, t4, nT⟩) ⟨oe, (get_update_ne _ (Ne.symm t3)).trans he, hc, hd, hf⟩ x.size
    exact newEntry_sound hA x1 fun h' vs' a b => c h' e dx vs' rfl a b
  · cases hL'
    have t' := t
    obtain ⟨T, oT, ts, t1, t2, t3, t4, t5, t6, t7⟩ := t
    refine wpAny_bind (wpAny_field he hf t1 ?_)
    rw [if_pos (show (Value.ref T != Value.none) = true from by simp)]
    refine wpAny_bind (wpAny_field t5 t6 t7 ?_)
    rw [if_pos (show ((rawInt L == rawInt L) = true) from by simp)]
    exact wpAny_pure (c s.heap e dx vs rfl x t')
theorem leaving_sound {x : Value} {k : Int} {C : Unit → Shared → Prop} (hA : A.frames = some (F.env L :: st)) (hL : Γ.H.get? L = none) (h : ExcIn Γ (F.env L :: st) (some L) x k s) (c : ∀ s', ExcIn Γ st none x k s' → C () s') :
    wpAny Γ.M A (leaving (F.env L) x) C E' s := by
  unfold leaving
  refine wpAny_bind (note_sound hA h fun h' e dx vs hx core t => ?_)
  subst hx
  exact setFlight_sound core t fun h2 core2 t2 => c _ ⟨e, dx, vs, rfl, core2.pop (fun b hb => by cases hb; exact hL), .inr (.inl t2)⟩
theorem cameBack_sound {e dx : Addr} {vs : Array Value} {k : Int} {E : Int → Prop} (core : ExcCore Γ (F.env L :: st) e dx vs k s) (t : Tr Γ s.heap e dx vs (rawInt L)) (hE : E k) : cameBackBy Γ.M A (F.env L) (EX Γ st F L E) (.ref e) s := by
  obtain ⟨oe, he, hc, hd, hf⟩ := core.obj
  obtain ⟨T, oT, ts, t1, tr⟩ := id t
  unfold cameBackBy
  refine wpAny_bind (wpAny_field he hf t1 ?_)
  rw [if_neg (show ¬ ((Value.ref T == Value.none) = true) from by simp)]
  exact setFlight_sound core t fun h' core' t' => ⟨k, ⟨e, dx, vs, rfl, core', .inr (.inr ⟨L, rfl, t'⟩)⟩, hE⟩
end
end
section
section
variable {Γ : Cx} {A : Around} {st : List Env} {F : Fn} {L : Addr} {s : Shared} {σ : List AObj} {Q : V → List AObj → Prop} {E : Int → Prop} {R : Mp} {m : Str → Option Value} {ℓ : List (Option V)}
inductive FnDef (K : Frag) (F : Fn) (ps : List Str) (body : List Stmt) (dv : List Value) : Prop
  | mk (name : Str) (params : Arguments) (dV kV doc pm : Value) (an : Option Addr) (ct oc : Value) (od : Option Addr) (osl : Array (Option Value)) (h1 : K.lookup F.f = some ⟨oc, od, .func (fnOf name F.q params body F.scope dV kV doc pm an F.cd ct), osl⟩)
    (h2 : ∀ (s : Shared), K.In s.heap → ∀ vs : List Value, vs.length + dv.length = ps.length → BindsTo s (fnOf name F.q params body F.scope dV kV doc pm an F.cd ct) ⟨vs, []⟩ (ps.zip (vs ++ dv)))
structure FnAt (K : Frag) (F : Fn) (ps : List Str) (body : List Stmt) (dv : List Value := []) (dV : List V := []) : Prop where
  at_ : FnDef K F ps body dv
  dflt : ∀ h r n, VRs h r n dv dV
  code : codeIn K F.cd F.q = true
  ok : FnOk F
  cell : ∀ x ∈ F.scope.names, x.2 ≠ .cell
  co : F.scope.isCoroutine = false
  gen : F.scope.isGenerator = false
  first : F.scope.names.take ps.length = ps.map (·, NameKind.local)
noncomputable def init (F : Fn) (Ws : List V) : List (Option V) := Ws.map some ++ List.replicate (F.scope.names.length - Ws.length) none
noncomputable def RetK (Q : V → List AObj → Prop) (f : Fl) (_ : List (Option V)) (σ : List AObj) : Prop := match f with
  | .ret W => Q W σ
  | .next => Q .none σ
  | _ => False
theorem lookup_zip {ps : List Str} {vs : List Value} (hl : vs.length = ps.length) (hn : ps.Nodup) {k : Nat} {x : Str} {v : Value} (e1 : ps[k]? = some x) (e2 : vs[k]? = some v) : (ps.zip vs).reverse.lookup x = some v := by
  have hm : (x, v) ∈ (ps.zip vs).reverse := by
    rw [List.mem_reverse]
    exact List.mem_of_getElem? (i := k) (by rw [List.getElem?_zip_eq_some]; exact ⟨e1, e2⟩)
  have hnd : ((ps.zip vs).reverse.map (·.1)).Nodup := by
    rw [List.map_reverse]
    refine List.pairwise_reverse.mpr (List.Pairwise.imp (fun h => Ne.symm h) ?_)
    have : (ps.zip vs).map (·.1) = ps := List.map_fst_zip (by exact ar212 hl)
    rw [this]; exact hn
  revert hm hnd
  generalize (ps.zip vs).reverse = l
  intro hm hnd
  induction l with
  | nil => cases hm
  | cons y r ih =>
    obtain ⟨y1, y2⟩ := y
    rw [List.map_cons, List.nodup_cons] at hnd
    rw [List.lookup_cons]
    rcases List.mem_cons.mp hm with q | q
    · cases q; simp
    · have : (x == y1) = false := by
        rw [beq_eq_false_iff_ne]; rintro rfl
        exact hnd.1 (List.mem_map_of_mem (f := (·.1)) q)
      rw [this]; exact ih q hnd.2
theorem nodup_take {α} {l : List α} (h : l.Nodup) (n : Nat) : (l.take n).Nodup := h.sublist (List.take_sublist n l)
theorem AOk.deeper {b} (h : AOk A st (b + 1)) (env : Env) : AOk (A.deeper env) (env :: st) b := by
  refine ⟨Around.frames_deeper h.frames, h.handled, ?_, ?_⟩
  · have := h.depth
    show A.depth + 1 + b < recursionLimit
    (exact ar50 this)
  · have := h.units
    show A.units + 3 + 10 * b < cLine
    (exact ar139 this)
theorem AOk.le {b b'} (h : AOk A st b) (hb : b' ≤ b) : AOk A st b' := ⟨h.frames, h.handled, by have := h.depth; (exact ar154 hb this), by have := h.units; (exact ar127 hb this)⟩
noncomputable def Wk (Γ : Cx) (A : Around) (st : List Env) (fv : V) (args : List V) (σ : List AObj) (Q : V → List AObj → Prop) (E : Int → Prop) : Prop :=
  ∀ s R v vs, Rel Γ st σ R s → VR s.heap R.r σ.length v fv → VRs s.heap R.r σ.length vs args →
    codeAny Γ.M A (.call v ⟨vs, []⟩) (fun r s' => match r with
      | .ok (.ret r) => QC Γ st σ R s Q r s'
      | .ok _ => False
      | .error x => EC Γ st E x s') s
theorem Wc.of_Wk {fv : V} {args : List V} (h : Wk Γ A st fv args σ Q E) : Wc Γ A st fv args σ Q E := fun s R v vs r hv hvs => wpAny_call (codeAny_mono (h s R v vs r hv hvs) fun r s' h' => by
  rcases r with e | (v | _ | _ | _) <;> exact h')
theorem Wk.fn {ps : List Str} {body : List Stmt} {args : List V} {dv : List Value} {dV : List V} {b : Nat} (O : Γ.Ok) (hA : AOk A st (b + 1)) (X : FnAt Γ.K F ps body dv dV) (hl : args.length + dV.length = ps.length)
    (h : ∀ L A', AOk A' (F.env L :: st) b → Γ.H.get? L = none → Wx Γ A' st F L body (init F (args ++ dV)) σ (RetK Q) E) : Wk Γ A st (.glob F.f) args σ Q E := by
  intro s R v vs0 r hv hvs0
  (obtain rfl := VR.inv hv)
  have hdv := X.dflt s.heap R.r σ.length
  have hvs := hvs0.append hdv
  obtain ⟨name, params, dfV, kV, doc, pm, an, ct, oc, od, osl, ho, hb⟩ := X.at_
  have KX : Γ.K.In s.heap := O.kin.keeps fun b o e => r.keep b o (O.bh b o e)
  have hl' : (args ++ dV).length = ps.length := by simpa using hl
  have hvl0 : vs0.length + dv.length = ps.length := by rw [hvs0.1, hdv.1]; exact hl
  have hvl : (vs0 ++ dv).length = ps.length := by simpa using hvl0
  generalize hgv : vs0 ++ dv = vs at hvs hvl
  generalize hga : args ++ dV = args' at hvs hl' h
  have hlp : ps.length ≤ F.scope.names.length := by
    have := congrArg List.length X.first
    simp at this; (exact ar114 this)
  refine codeAny_call_def (fd := fnOf name F.q params body F.scope dfV kV doc pm an F.cd ct) (body := body) (binds := ps.zip vs) (by have := hA.depth; (exact ar86 this)) (KX _ _ ho) rfl (O.nolimit.keeps fun b o e => r.keep b o (O.bh b o e)) (codeRec_of KX X.code) rfl (by have := hb s KX vs0 hvl0; rw [hgv] at this; exact this) X.cell ?_ (fun h₁ hns hk₁ => ?_) X.co X.gen X.ok.kind
  · intro y hy
    have hy1 : (y.1, NameKind.local) ∈ F.scope.names := by
      have : (y.1, NameKind.local) ∈ F.scope.names.take ps.length := by
        rw [X.first]; exact List.mem_map.mpr ⟨y.1, (List.of_mem_zip (a := y.1) (b := y.2) hy).1, rfl⟩
      exact List.mem_of_mem_take this
    exact lookup_of_mem X.ok.nodup hy1
  · have hLn : s.heap.get? s.heap.objs.size = none := get_size_none _
    have hLH : Γ.H.get? s.heap.objs.size = none := by
      cases q : Γ.H.get? s.heap.objs.size with
      | none => rfl
      | some o => rw [r.keep _ o q] at hLn; cases hLn
    have k0 : KeepsL none s.heap h₁ := fun b o e _ => hk₁ b o e
    have r1 : Rel Γ st σ R { s with heap := h₁, toks := s.toks + (ps.zip vs).length, drawn := s.drawn } := r.keeps k0 (Nat.le_trans r.top (Nat.le_of_lt hns.lt))
    have E0 := KeepsL.ext0 r k0
    have F1 : Fr Γ.B s.heap.objs.size h₁ (fun x => (ps.zip vs).reverse.lookup x) := ⟨hns, fun b o e => hk₁ b o (r.keep b o (O.bh b o e)), r.top⟩
    have r2 : Rel Γ (F.env s.heap.objs.size :: st) σ R { s with heap := h₁, toks := s.toks + (ps.zip vs).length, drawn := s.drawn } := by
      refine ⟨r1.keep, r1.obj, r1.fresh, r1.inj, .cons (by show F.scope.kind ≠ .module; rw [X.ok.kind]; decide) rfl hns (get_none_of O.bh hLH) r1.frs, fun env he L hL i hi q => ?_, r1.gens, r1.os, r1.top⟩
      rcases List.mem_cons.mp he with rfl | he
      · cases hL
        have := r.live i hi
        rw [q, hLn] at this; cases this
      · exact r1.off env he L hL i hi q
    have l2 : Loc Γ F s.heap.objs.size (init F args') σ.length R (fun x => (ps.zip vs).reverse.lookup x) h₁ := by
      refine ⟨F1, hLH, fun k x kd W e1 e2 => ?_⟩
      have hka : k < args'.length := by
        by_cases hk : k < args'.length
        · exact hk
        · unfold init at e2
          rw [List.getElem?_append_right (by simp; (exact ar185 hk))] at e2
          rw [List.getElem?_replicate] at e2
          split at e2 <;> cases e2
      have hW : args'[k]? = some W := by
        unfold init at e2
        rw [List.getElem?_append_left (by simpa using hka), List.getElem?_map] at e2
        cases q : args'[k]? with
        | none => rw [q] at e2; cases e2
        | some w => rw [q] at e2; simpa using e2
      obtain ⟨v, hv1, hv2⟩ := hvs.get hW
      have hx : ps[k]? = some x := by
        have e3 : (F.scope.names.take ps.length)[k]? = some (x, kd) := by rw [List.getElem?_take, if_pos (by exact ar165 hl' hka)]; exact e1
        rw [X.first, List.getElem?_map] at e3
        cases q : ps[k]? with
        | none => rw [q] at e3; cases e3
        | some w => rw [q] at e3; simp at e3; rw [e3.1]
      refine ⟨v, lookup_zip hvl ?_ hx hv1, hv2.ext E0⟩
      have : (F.scope.names.take ps.length).map (·.1) = ps := by rw [X.first, List.map_map]; simp [Function.comp_def]
      rw [← this, List.map_take]; exact nodup_take X.ok.nodup _
    have AA := hA.deeper (F.env s.heap.objs.size)
    refine wpAny_mono ((h _ _ AA hLH).1 _ _ _ r2 l2) (fun f s' hpat => ?_) fun x s' hpt => by obtain ⟨k, a, b⟩ := hpt; exact leaving_sound AA.frames hLH a fun s'' hx => ⟨k, hx, b⟩
    obtain ⟨f', ℓ', σ', R', m', r', l', x', hf, q⟩ := hpat
    have r3 : Rel Γ st σ' R' s' := ⟨r'.keep, r'.obj, r'.fresh, r'.inj, r'.frs.2.2, fun env he => r'.off env (.tail _ he), r'.gens, r'.os, r'.top⟩
    have x3 : Ext none σ.length R s.heap σ'.length R' s'.heap := by
      refine ⟨x'.le, x'.r, x'.m, fun b o e hb _ => x'.keep b o (hk₁ b o e) hb (fun z => ?_), fun a items hpt => by obtain ⟨o, ho, rr⟩ := hpt; exact x'.tup a items ⟨o, hk₁ _ _ ho, rr⟩, fun i a b => ?_, x'.live, fun _ z => nomatch z⟩
      · cases z; rw [hLn] at e; cases e
      · have := x'.new i a b
        cases q : s.heap.get? (R'.m i) with
        | none => rfl
        | some o => rw [show ({ s with heap := h₁, toks := s.toks + (ps.zip vs).length, drawn := s.drawn } : Shared).heap = h₁ from rfl, hk₁ _ o q] at this; cases this
    cases hf with
    | next => exact ⟨.none, σ', R', r3, x3, .none, q⟩
    | brk => exact q.elim
    | cont => exact q.elim
    | ret hv => exact ⟨_, σ', R', r3, x3, hv, q⟩
theorem Wc.fn {ps : List Str} {body : List Stmt} {args : List V} {dv : List Value} {dV : List V} {b : Nat} (O : Γ.Ok) (hA : AOk A st (b + 1)) (X : FnAt Γ.K F ps body dv dV) (hl : args.length + dV.length = ps.length)
    (h : ∀ L A', AOk A' (F.env L :: st) b → Γ.H.get? L = none → Wx Γ A' st F L body (init F (args ++ dV)) σ (RetK Q) E) : Wc Γ A st (.glob F.f) args σ Q E := .of_Wk (.fn O hA X hl h)
end
end
section
section
variable {Γ : Cx} {A : Around} {st : List Env} {F : Fn} {L : Addr} {e : Expr} {ℓ ℓ' : List (Option V)} {σ : List AObj} {E : Int → Prop}
  {s : Shared} {R : Mp} {m : Str → Option Value}
theorem loopErr {x : Value} (hA : A.frames = some (F.env L :: st)) (h : EX Γ st F L E x s) : notedBy Γ.M A (F.env L) (cameBackBy Γ.M A (F.env L) (EX Γ st F L E)) x s := by
  obtain ⟨k, hx, hE⟩ := h
  unfold notedBy
  exact note_sound hA hx fun h' e dx vs hx' core t => by subst hx'; exact cameBack_sound core t hE
variable {Q : Fl → List (Option V) → List AObj → Prop}
noncomputable def LR (Γ : Cx) (A : Around) (st : List Env) (F : Fn) (L : Addr) (σ : List AObj) (R : Mp) (s : Shared) (Q : Fl → List (Option V) → List AObj → Prop) (E : Int → Prop) (r : Result) (s' : Shared) : Prop := match r with
  | .ok f => QF Γ st F L σ R s Q f s'
  | .error e => cameBackBy Γ.M A (F.env L) (EX Γ st F L E) e s'
theorem LR.after {σ1 R1 s1 r s'} (x : Ext (some L) σ.length R s.heap σ1.length R1 s1.heap) (h : LR Γ A st F L σ1 R1 s1 Q E r s') : LR Γ A st F L σ R s Q E r s' := by
  cases r with
  | ok f => exact QF.after x h
  | error e => exact h
noncomputable def Wl (Γ : Cx) (A : Around) (st : List Env) (F : Fn) (L : Addr) (test : Expr) (body : List Stmt) (ℓ : List (Option V)) (σ : List AObj) (Q : Fl → List (Option V) → List AObj → Prop) (E : Int → Prop) : Prop :=
  ∀ s R m, Rel Γ (F.env L :: st) σ R s → Loc Γ F L ℓ σ.length R m s.heap → codeAny Γ.M A (.whileLoop test body [] (F.env L)) (LR Γ A st F L σ R s Q E) s
noncomputable def LoopK (Q : Fl → List (Option V) → List AObj → Prop) (k : List (Option V) → List AObj → Prop) (f : Fl) (ℓ : List (Option V)) (σ : List AObj) : Prop := match f with
  | .next => k ℓ σ
  | .cont => k ℓ σ
  | .brk => Q .next ℓ σ
  | .ret W => Q (.ret W) ℓ σ
theorem Wl.step {test : Expr} {body : List Stmt} (hA : A.frames = some (F.env L :: st)) (h : Wt Γ A st F L test ℓ σ (fun c σ1 => if c then Wx Γ A st F L body ℓ σ1 (LoopK Q fun ℓ2 σ2 => Wl Γ A st F L test body ℓ2 σ2 Q E) E else Q .next ℓ σ1) E) :
    Wl Γ A st F L test body ℓ σ Q E := fun s R m r l => by
  refine codeAny_of_tree ?_
  show wpAny Γ.M A ((whileTurn test body [] (F.env L)).onRaise (fun x => do noteFrame x (F.env L); theTreesLotGoes x)) _ _ s
  refine wpAny_noted ?_
  simp only [whileTurn]
  refine wpAny_bind (wpAny_mono (h.1 s R m r l) (fun b s1 hpat => ?_) fun x s' hx => loopErr hA hx)
  obtain ⟨σ1, R1, P, hb⟩ := hpat
  cases b with
  | false =>
    simp only [Bool.false_eq_true, if_false] at hb ⊢
    exact wpAny_bind (wpAny_execs_nil (wpAny_pure (P.qf l hb)))
  | true =>
    simp only [if_true] at hb ⊢
    refine wpAny_bind (wpAny_mono (hb.1 s1 R1 m P.rel (l.post P)) (fun f s2 hpat => ?_) fun x s' hx => loopErr hA hx)
    obtain ⟨f', ℓ2, σ2, R2, m2, r2, l2, x2, hf, q⟩ := hpat
    cases hf with
    | next => exact wpAny_pure ⟨rfl, codeAny_mono (q s2 R2 m2 r2 l2) fun r s3 h3 => (h3.after x2).after P.ext⟩
    | cont => exact wpAny_pure ⟨rfl, codeAny_mono (q s2 R2 m2 r2 l2) fun r s3 h3 => (h3.after x2).after P.ext⟩
    | brk => exact wpAny_pure ⟨_, _, _, _, _, r2, l2, P.ext.trans x2, .next, q⟩
    | ret hv => exact wpAny_pure ⟨_, _, _, _, _, r2, l2, P.ext.trans x2, .ret hv, q⟩
theorem Ws.while {test : Expr} {body : List Stmt} {pos} (h : Wl Γ A st F L test body ℓ σ Q E) : Ws Γ A st F L (.While test body [] pos) ℓ σ Q E := .mk fun s R m r l =>
  wpAny_While (codeAny_mono (h s R m r l) fun r s' h' => by cases r <;> exact h')
inductive It where
  | list (j k : Nat)
  | tup (Ws : List V) (k : Nat)
  | range (x left : Int)
noncomputable def It.at (I : It) (h : Heap) (R : Mp) (n : Nat) (it : Addr) : Prop := match I with
  | .list j k => j < n ∧ h.IsListIter it (R.r j) k
  | .tup Ws k => ∃ t items, IsTup h t items.toArray ∧ VRs h R.r n items Ws ∧ h.IsTupleIter it t k
  | .range x left => IsRangeIter h it x left 1
inductive ItNext (σ : List AObj) : It → V → It → Prop
  | list {j k vs W} (h : σ[j]? = some (.list vs)) (e : vs[k]? = some W) : ItNext σ (.list j k) W (.list j (k + 1))
  | tup {Ws k W} (e : Ws[k]? = some W) : ItNext σ (.tup Ws k) W (.tup Ws (k + 1))
  | range {x left} (h : 0 < left) : ItNext σ (.range x left) (.int x) (.range (x + 1) (left - 1))
inductive ItEnd (σ : List AObj) : It → Prop
  | list {j k vs} (h : σ[j]? = some (.list vs)) (e : vs[k]? = none) : ItEnd σ (.list j k)
  | tup {Ws k} (e : Ws[k]? = none) : ItEnd σ (.tup Ws k)
  | range {x left} (h : left ≤ 0) : ItEnd σ (.range x left)
theorem It.obj {I : It} {h R n it} (x : I.at h R n it) : ∃ o c vs, h.get? it = some o ∧ o.cls = .type c ∧ o.data = .fields vs ∧ c ≠ "tuple" ∧ c ≠ "list" ∧ c ≠ "dict" := by
  cases I with
  | list j k => obtain ⟨_, o, ho, hc, hd⟩ := x; exact ⟨o, _, _, ho, hc, hd, by decide, by decide, by decide⟩
  | tup Ws k => obtain ⟨_, _, _, _, o, ho, hc, hd⟩ := x; exact ⟨o, _, _, ho, hc, hd, by decide, by decide, by decide⟩
  | range a b => exact ⟨_, _, _, x, rfl, rfl, by decide, by decide, by decide⟩
theorem It.at_gr {I : It} {n R h n' R' h' it} (G : Gr n R h n' R' h') (k : ∀ o, h.get? it = some o → h'.get? it = some o) (x : I.at h R n it) : I.at h' R' n' it := by
  cases I with
  | list j k' => obtain ⟨hj, o, ho, r⟩ := x; exact ⟨Nat.lt_of_lt_of_le hj G.le, o, k _ ho, by rw [G.r j hj]; exact r⟩
  | tup Ws k' => obtain ⟨t, items, ht, hv, o, ho, r⟩ := x; exact ⟨t, items, G.tup _ _ ht, hv.gr G, o, k _ ho, r⟩
  | range a b => exact k _ x
theorem Rel.side {st σ R s h' it o c vs} (x : Rel Γ st σ R s) (ho : s.heap.get? it = some o) (hc : o.cls = .type c) (hd : o.data = .fields vs) (c1 : c ≠ "tuple") (c2 : c ≠ "list") (c3 : c ≠ "dict") (hH : Γ.H.get? it = none)
    (k : Heap.ExtBut it s.heap h') (hsz : Γ.B.objs.size ≤ h'.objs.size) (tk d) : Rel Γ st σ R { s with heap := h', toks := tk, drawn := d } ∧ Gr σ.length R s.heap σ.length R h' ∧ (∀ i, i < σ.length → R.m i ≠ it) := by
  have hm : ∀ i, i < σ.length → R.m i ≠ it := fun i hi q => by
    obtain ⟨o', ho', hc', _⟩ := x.mObj hi
    rw [q, ho] at ho'; cases ho'
    rcases hc' with z | z <;> rw [hc] at z <;> cases z
    · exact c2 rfl
    · exact c3 rfl
  have G : Gr σ.length R s.heap σ.length R h' := ⟨Nat.le_refl _, fun _ _ => rfl, fun _ _ => rfl, fun a items hpt => by obtain ⟨o', ho', hc', r⟩ := hpt; exact ⟨o', k a o' (fun q => by subst q; rw [ho] at ho'; cases ho'; rw [hc] at hc'; cases hc'; exact c1 rfl) ho', hc', r⟩⟩
  have nf := notFrame_of_fields ho hd x.frs
  refine ⟨⟨fun b o' e => k b o' (fun q => by subst q; rw [hH] at e; cases e) (x.keep b o' e), fun i ao e => ?_, x.fresh, x.inj, ?_, x.off, x.gens, x.os, ?_⟩, G, hm⟩
  · have hi := (List.getElem?_eq_some_iff.mp e).1
    refine (x.obj i ao e).gr G hi (fun o' q => k _ o' (hm i hi) q) fun C q => k _ _ (fun z => ?_) q
    rw [z, ho] at q; cases q; cases hc
  · exact funFrames_upTo (st0 := st) (X := [it]) (.of_keep fun b o' e hb => k b o' (by simpa using hb) e) x.frs fun env he b hb hmem => nf env he (by rw [List.mem_singleton] at hmem; subst hmem; exact hb)
  · exact hsz
noncomputable def Wfr (Γ : Cx) (A : Around) (st : List Env) (F : Fn) (L : Addr) (x : Str) (xp : Pos) (I : It) (body : List Stmt) (ℓ : List (Option V)) (σ : List AObj) (Q : Fl → List (Option V) → List AObj → Prop) (E : Int → Prop) : Prop :=
  ∀ (σ0 : List AObj) R0 (s0 : Shared) s R m it, Rel Γ (F.env L :: st) σ R s → Loc Γ F L ℓ σ.length R m s.heap → Ext (some L) σ0.length R0 s0.heap σ.length R s.heap → s0.heap.get? it = none → Γ.H.get? it = none → I.at s.heap R σ.length it →
    codeAny Γ.M A (.forLoop (.Name x xp) (.ref it) body [] (F.env L)) (LR Γ A st F L σ0 R0 s0 Q E) s
theorem side_loc {h' it o c vs} (r : Rel Γ (F.env L :: st) σ R s) (l : Loc Γ F L ℓ σ.length R m s.heap) (ho : s.heap.get? it = some o) (hc : o.cls = .type c) (hd : o.data = .fields vs) (hH : Γ.H.get? it = none) (k : Heap.ExtBut it s.heap h')
    (G : Gr σ.length R s.heap σ.length R h') (O : Γ.Ok) : Loc Γ F L ℓ σ.length R m h' := by
  have hL : L ≠ it := fun q => notFrame_of_fields ho hd r.frs _ (.head _) (by rw [← q]; rfl)
  obtain ⟨oL, es, ep, hL', a2⟩ := l.fr.ns
  exact ⟨⟨⟨oL, es, ep, k _ _ hL hL', a2⟩, fun b o' e => k b o' (fun q => by rw [q, get_none_of O.bh hH] at e; cases e) (l.fr.keep b o' e), l.fr.above⟩, l.hB, fun i y kd W e1 e2 => let ⟨v, a, b⟩ := l.loc i y kd W e1 e2; ⟨v, a, b.gr G⟩⟩
theorem side_ext {h' : Heap} {σ0 : List AObj} {R0 it} {s0 : Shared} (r : Rel Γ (F.env L :: st) σ R s) (x : Ext (some L) σ0.length R0 s0.heap σ.length R s.heap) (h0 : s0.heap.get? it = none) (k : Heap.ExtBut it s.heap h')
    (G : Gr σ.length R s.heap σ.length R h') (hm : ∀ i, i < σ.length → R.m i ≠ it) (hL : (h'.get? L).isSome = true) : Ext (some L) σ0.length R0 s0.heap σ.length R h' :=
  ⟨x.le, x.r, x.m, fun b o e hb hX => k b o (fun q => by rw [q, h0] at e; cases e) (x.keep b o e hb hX), fun a items e => G.tup _ _ (x.tup _ _ e), x.new, fun i hi => by
    obtain ⟨o, ho, _⟩ := r.mObj hi
    rw [k _ o (hm i hi) ho]; rfl, fun L' q => by cases q; exact hL⟩
theorem next_item {I I' : It} {W : V} {it : Addr} {E' : Value → Shared → Prop} {C : Option Value → Shared → Prop} (r : Rel Γ (F.env L :: st) σ R s) (hI : I.at s.heap R σ.length it) (hn : ItNext σ I W I')
    (h : ∀ v h' tk, Heap.SameBut it s.heap h' → (Gr σ.length R s.heap σ.length R h' → VR h' R.r σ.length v W ∧ I'.at h' R σ.length it) → C (some v) { s with heap := h', toks := tk }) : wpAny Γ.M A (pyNext (.ref it)) C E' s := by
  cases hn with
  | list h1 e =>
    obtain ⟨hj, hit⟩ := hI
    obtain ⟨l1, ep, er, ho, hv⟩ := r.list h1
    obtain ⟨v, e1, e2⟩ := hv.get e
    exact wpAny_pyNext_list_item hit (isList_listOf ho) (by simpa using e1) fun h' hit' hs => h v h' s.toks hs fun G => ⟨e2.gr G, hj, hit'⟩
  | tup e =>
    obtain ⟨t, items, ht, hv, hit⟩ := hI
    obtain ⟨v, e1, e2⟩ := hv.get e
    exact wpAny_pyNext_tuple_item hit ht (by simpa using e1) fun h' hit' hs => h v h' s.toks hs fun G => ⟨e2.gr G, t, items, G.tup _ _ ht, hv.gr G, hit'⟩
  | range hl => exact wpAny_pyNext_range_item hI hl fun h' hit' hs => h _ h' _ hs fun G => ⟨.int _ _, hit'⟩
theorem next_end {I : It} {it : Addr} {E' : Value → Shared → Prop} {C : Option Value → Shared → Prop} (hh : A.handled = none) (r : Rel Γ (F.env L :: st) σ R s) (hI : I.at s.heap R σ.length it) (hn : ItEnd σ I)
    (h : ∀ h', Heap.ExtBut it s.heap h' → C none { s with heap := h' }) : wpAny Γ.M A (pyNext (.ref it)) C E' s := by
  cases hn with
  | list h1 e =>
    obtain ⟨hj, hit⟩ := hI
    obtain ⟨l1, ep, er, ho, hv⟩ := r.list h1
    refine wpAny_pyNext_list_end hh hit (isList_listOf ho) ?_ h
    rw [List.getElem?_eq_none_iff] at e
    have := hv.1
    simp; (exact ar147 e this)
  | tup e =>
    obtain ⟨t, items, ht, hv, hit⟩ := hI
    refine wpAny_pyNext_tuple_end hh hit ht ?_ h
    rw [List.getElem?_eq_none_iff] at e
    have := hv.1
    simp; (exact ar147 e this)
  | range hl => exact wpAny_pyNext_range_end hh hI hl h
theorem Wfr.step {x : Str} {xp : Pos} {I I' : It} {W : V} {body : List Stmt} (O : Γ.Ok) (OF : FnOk F) (hA : A.frames = some (F.env L :: st)) (hn : ItNext σ I W I')
    (h : PutQ F.scope.names ℓ x W fun ℓ1 => Wx Γ A st F L body ℓ1 σ (LoopK Q fun ℓ2 σ2 => Wfr Γ A st F L x xp I' body ℓ2 σ2 Q E) E) : Wfr Γ A st F L x xp I body ℓ σ Q E := by
  intro σ0 R0 s0 s R m it r l x0 h0 hH hI
  obtain ⟨ℓ1, hp, h⟩ := h
  obtain ⟨oi, c, vsi, ho, hc, hd, c1, c2, c3⟩ := It.obj hI
  refine codeAny_of_tree ?_
  show wpAny Γ.M A ((forTurn (.Name x xp) (.ref it) body [] (F.env L)).onRaise (fun x => do noteFrame x (F.env L); theTreesLotGoes x)) _ _ s
  refine wpAny_noted ?_
  simp only [forTurn]
  refine wpAny_bind (wpAny_standAt (wpAny_bind (wpAny_onRaise (next_item r hI hn fun v h1 tk hs hv => ?_))))
  have hLs : (h1.get? L).isSome = true := by
    have hL : L ≠ it := fun q => notFrame_of_fields ho hd r.frs _ (.head _) (by rw [← q]; rfl)
    obtain ⟨oL, es, ep, hL', a2⟩ := l.fr.ns
    rw [hs.extBut _ _ hL hL']; rfl
  have hsz : Γ.B.objs.size ≤ h1.objs.size := by
    obtain ⟨oL, hoL⟩ := Option.isSome_iff_exists.mp hLs
    exact Nat.le_trans l.fr.above (Nat.le_of_lt (Heap.lt_size hoL))
  obtain ⟨r1, G1, hm1⟩ := r.side ho hc hd c1 c2 c3 hH hs.extBut hsz tk s.drawn
  have l1 := side_loc r l ho hc hd hH hs.extBut G1 O
  have x1 := side_ext r x0 h0 hs.extBut G1 hm1 hLs
  obtain ⟨hvr, hI1⟩ := hv G1
  refine wpAny_bind (wpAny_pure (wpAny_bind (PyProof.Rows.assign_Name (store_sound OF r1 l1 hvr hp fun s2 m2 r2 l2 x2 => ?_))))
  refine wpAny_bind (wpAny_mono (h.1 s2 R m2 r2 l2) (fun f s3 hpat => ?_) fun x s' hx => loopErr hA hx)
  obtain ⟨f', ℓ3, σ3, R3, m3, r3, l3, x3, hf, q⟩ := hpat
  have hI2 : I'.at s2.heap R σ.length it := It.at_gr x2.gr (fun o' ho' => x2.keep _ _ ho' (fun i hi => (hm1 i hi).symm) (fun q => by cases q; exact notFrame_of_fields ho hd r.frs _ (.head _) rfl)) hI1
  have hm3 : I'.at s3.heap R3 σ3.length it := by
    obtain ⟨o2, c', vs', ho2, hc2, hd2, _⟩ := It.obj hI2
    exact It.at_gr x3.gr (fun o' ho' => x3.keep _ _ ho' (fun i hi => (hm1 i hi).symm) (fun q => by cases q; exact notFrame_of_fields ho hd r.frs _ (.head _) rfl)) hI2
  have x03 := (x1.trans x2).trans x3
  cases hf with
  | next => exact wpAny_pure ⟨rfl, q σ0 R0 s0 s3 R3 m3 it r3 l3 x03 h0 hH hm3⟩
  | cont => exact wpAny_pure ⟨rfl, q σ0 R0 s0 s3 R3 m3 it r3 l3 x03 h0 hH hm3⟩
  | brk => exact wpAny_pure ⟨_, _, _, _, _, r3, l3, x03, .next, q⟩
  | ret hv => exact wpAny_pure ⟨_, _, _, _, _, r3, l3, x03, .ret hv, q⟩
theorem Wfr.done {x : Str} {xp : Pos} {I : It} {body : List Stmt} (O : Γ.Ok) (hh : A.handled = none) (hn : ItEnd σ I) (h : Q .next ℓ σ) : Wfr Γ A st F L x xp I body ℓ σ Q E := by
  intro σ0 R0 s0 s R m it r l x0 h0 hH hI
  obtain ⟨oi, c, vsi, ho, hc, hd, c1, c2, c3⟩ := It.obj hI
  refine codeAny_of_tree ?_
  show wpAny Γ.M A ((forTurn (.Name x xp) (.ref it) body [] (F.env L)).onRaise (fun x => do noteFrame x (F.env L); theTreesLotGoes x)) _ _ s
  refine wpAny_noted ?_
  simp only [forTurn]
  refine wpAny_bind (wpAny_standAt (wpAny_bind (wpAny_onRaise (next_end hh r hI hn fun h1 hs => ?_))))
  have hLs : (h1.get? L).isSome = true := by
    have hL : L ≠ it := fun q => notFrame_of_fields ho hd r.frs _ (.head _) (by rw [← q]; rfl)
    obtain ⟨oL, es, ep, hL', a2⟩ := l.fr.ns
    rw [hs _ _ hL hL']; rfl
  have hsz : Γ.B.objs.size ≤ h1.objs.size := by
    obtain ⟨oL, hoL⟩ := Option.isSome_iff_exists.mp hLs
    exact Nat.le_trans l.fr.above (Nat.le_of_lt (Heap.lt_size hoL))
  obtain ⟨r1, G1, hm1⟩ := r.side ho hc hd c1 c2 c3 hH hs hsz s.toks s.drawn
  exact wpAny_pure ⟨rfl, codeAny_block (wpAny_execs_nil ⟨_, _, _, _, _, r1, side_loc r l ho hc hd hH hs G1 O, side_ext r x0 h0 hs G1 hm1 hLs, .next, h⟩)⟩
inductive ItOf (σ : List AObj) : V → It → Prop
  | list {j vs} (h : σ[j]? = some (.list vs)) : ItOf σ (.obj j) (.list j 0)
  | tup {Ws} : ItOf σ (.tup Ws) (.tup Ws 0)
theorem Ws.for {x : Str} {xp pos : Pos} {iter : Expr} {body : List Stmt} (O : Γ.Ok) (h : We Γ A st F L iter ℓ σ (fun W σ1 => ∃ I, ItOf σ1 W I ∧ Wfr Γ A st F L x xp I body ℓ σ1 Q E) E) (hs : ∀ env x, foldedSetIterable iter env x = pure x := by intro _ _; rfl) :
    Ws Γ A st F L (.For (.Name x xp) iter body [] pos) ℓ σ Q E := .mk fun s R m r l => by
  refine wpAny_For (h.use r l fun v s1 W σ1 R1 P hv hq l1 => ?_) (hs _)
  obtain ⟨I, hI, h2⟩ := hq
  have key : ∀ (o : Obj), o.isFreed = false → I.at (s1.heap.push o) R1 σ1.length s1.heap.objs.size → codeAny Γ.M A (.forLoop (.Name x xp) (.ref s1.heap.objs.size) body [] (F.env L)) (fun r s' => match r with | .ok f => QF Γ st F L σ R s Q f s' | .error e => cameBackBy Γ.M A (F.env L) (EX Γ st F L E) e s') { s1 with heap := s1.heap.push o } := by
    intro o hof hI'
    have N1 := News.push (P.fr) (allNews_ok Γ.B s1.heap L) o hof
    have P2 := P.step (tk := s1.toks) (P.fr.push o) (fun p hp => N1 p (.tail _ hp)) l.hB
    have fr := P.fresh (get_size_none s1.heap)
    have h0 : s.heap.get? s1.heap.objs.size = none := by
      cases q : s.heap.get? s1.heap.objs.size with
      | none => rfl
      | some o' =>
        have e1 := get_size_none s1.heap
        by_cases hL : L = s1.heap.objs.size
        · have := ns_live P.fr.ns; rw [hL, e1] at this; cases this
        · by_cases hi : ∃ i, i < σ.length ∧ s1.heap.objs.size = R.m i
          · obtain ⟨i, hi, hq⟩ := hi
            exact absurd (by rw [P.ext.m i hi, hq]) (fr.1 i (Nat.lt_of_lt_of_le hi P.ext.le))
          · rw [P.ext.keep _ o' q (fun i hi' hq => hi ⟨i, hi', hq⟩) (fun hq => hL (Option.some.inj hq).symm)] at e1; cases e1
    exact codeAny_mono (h2 σ R s _ R1 m _ P2.rel (l.post P2) P2.ext h0 fr.2.1 hI') fun r s' h' => by cases r <;> exact h'
  cases hI with
  | @list j vs h3 =>
    (obtain ⟨_, rfl⟩ := VR.inv hv)
    obtain ⟨l1', ep, er, ho, hv'⟩ := P.rel.list h3
    exact wpAny_pyIter_list (isList_listOf ho) (key _ rfl ⟨(List.getElem?_eq_some_iff.mp h3).1, _, Heap.get?_push_size _ rfl, rfl, rfl⟩)
  | @tup Ws =>
    obtain ⟨a, vs, rfl, ht, hv'⟩ := hv.isTup
    exact wpAny_pyIter_tuple ht (key _ rfl ⟨a, vs, ht.push _, hv'.gr ⟨Nat.le_refl _, fun _ _ => rfl, fun _ _ => rfl, fun _ _ z => z.push _⟩, _, Heap.get?_push_size _ rfl, rfl, rfl⟩)
end
end
section
section
variable {Γ : Cx} {A : Around} {st : List Env} {F : Fn} {L : Addr} {e : Expr} {ℓ ℓ' : List (Option V)} {σ : List AObj} {E : Int → Prop}
  {s : Shared} {R : Mp} {m : Str → Option Value}
inductive PutF : List (Str × V) → Str → V → List (Str × V) → Prop
  | nil {x W} : PutF [] x W [(x, W)]
  | head {x W W' fs} : PutF ((x, W') :: fs) x W ((x, W) :: fs)
  | tail {x W y fs fs'} (hy : y.1 ≠ x) (h : PutF fs x W fs') : PutF (y :: fs) x W (y :: fs')
theorem PutF.fr {w h r n fs x W fs'} (p : PutF fs x W fs') {v : Value} {tk : Tok} (hv : VR h r n v W) : ∀ {es}, FR w h r n es fs → FR w h r n (putL x (PyData.keyHash w.params x) (.str x tk) v es) fs' ∧ (getL x es).isSome = true := by
  induction p with
  | nil => intro es f; cases f; exact ⟨.cons hv .nil, rfl⟩
  | @head x W W' fs =>
    intro es f
    cases f with
    | cons hv' hr =>
      refine ⟨?_, ?_⟩
      · unfold putL; simp only [Value.isStr, beq_self_eq_true, if_true]; exact .cons hv hr
      · unfold getL; simp [Value.isStr]
  | @tail x W y fs fs' hy p ih =>
    intro es f
    obtain ⟨y1, y2⟩ := y
    cases f with
    | @cons _ t v' _ es _ hv' hr =>
      obtain ⟨a, b⟩ := ih hv hr
      have hk : (Value.str y1 t).isStr x = false := by simp [Value.isStr]; exact hy
      refine ⟨?_, ?_⟩
      · unfold putL; simp only [hk, Bool.false_eq_true, if_false]; exact .cons hv' a
      · unfold getL at b ⊢
        rw [List.find?_cons]; simp only [hk]
        cases q : es.find? (·.key.isStr x) with
        | some e => rfl
        | none =>
          rw [q] at b
          have : (Value.str y1 t).isRef = false := rfl
          simp only [List.any_cons, DictEntry.refKey] at b ⊢
          simpa using b
theorem PutF.mem {fs x W fs'} (p : PutF fs x W fs') : ∀ y, y ∈ fs'.map (·.1) → y = x ∨ y ∈ fs.map (·.1) := by
  induction p with
  | nil => intro y hy; simp at hy; exact .inl hy
  | head => intro y hy; right; simpa using hy
  | tail hy p ih =>
    intro z hz
    rw [List.map_cons, List.mem_cons] at hz
    rcases hz with rfl | hz
    · right; simp
    · rcases ih z hz with q | q
      · exact .inl q
      · right; rw [List.map_cons]; exact .tail _ q
theorem PutF.nodup {fs x W fs'} (p : PutF fs x W fs') : (fs.map (·.1)).Nodup → (fs'.map (·.1)).Nodup := by
  induction p with
  | nil => intro; simp
  | head => intro h; simpa using h
  | @tail x W y fs fs' hy p ih =>
    intro h
    rw [List.map_cons, List.nodup_cons] at h ⊢
    refine ⟨fun hm => ?_, ih h.2⟩
    rcases p.mem _ hm with q | q
    · exact hy q
    · exact h.1 q
theorem FR.len {w h r n es fs} (f : FR w h r n es fs) : es.length = fs.length := by
  induction f with
  | nil => rfl
  | cons _ _ ih => exact congrArg (· + 1) ih
theorem PutF.len {fs x W fs'} (p : PutF fs x W fs') : fs'.length ≤ fs.length + 1 := by
  induction p with
  | nil => simp
  | head => simp
  | tail _ _ ih => simp; (assumption)
structure SetAttr (K : Frag) (C : Addr) (x : Str) : Prop where
  set : findIn K (.ref C) "__setattr__" = some (some (.builtin "object.__setattr__"))
  plain : plainOver K C = true
  taker : takerIn K C x = some none
  dict : hasDictIn K C = true
inductive SetK (Γ : Cx) (attr : Str) (o W : V) (σ : List AObj) (Q : List AObj → Prop) : Prop
  | mk (i : Nat) (C : Addr) (fs fs' : List (Str × V)) (h1 : o = .obj i) (h2 : σ[i]? = some (.inst C fs)) (h3 : PutF fs attr W fs') (h4 : fs.length ≤ 100) (h5 : SetAttr Γ.K C attr) (h6 : Q (σ.set i (.inst C fs')))
inductive QA (Γ : Cx) (st : List Env) (F : Fn) (L : Addr) (m : Str → Option Value) (σ : List AObj) (R : Mp) (s : Shared) (Q : List AObj → Prop) (s' : Shared) : Prop
  | mk (σ' : List AObj) (P : Post Γ st F L m σ R s σ' R s') (q : Q σ')
theorem setAttr_sound {attr : Str} {vo vv : Value} {o W : V} {Q : List AObj → Prop} {E' : Value → Shared → Prop} (O : Γ.Ok) (r : Rel Γ (F.env L :: st) σ R s) (l : Loc Γ F L ℓ σ.length R m s.heap) (ho : VR s.heap R.r σ.length vo o) (hv : VR s.heap R.r σ.length vv W) (h : SetK Γ attr o W σ Q) :
    wpAny Γ.M A (setAttr vo attr vv) (fun _ s' => QA Γ st F L m σ R s Q s') E' s := by
  obtain ⟨i, C, fs, fs', rfl, hi, hp, hlen, S, hq⟩ := h
  (obtain ⟨_, rfl⟩ := VR.inv ho)
  obtain ⟨es, ep, I, hm', hf, hn⟩ := r.inst hi
  have hil := lt_of_get hi
  obtain ⟨hf', hl⟩ := hp.fr (tk := s.toks + 1) hv hf
  have hoff := r.off _ (.head _) L rfl i hil
  refine set_dict l.fr O.kin (newsBut_ok hm' hoff (get_none_of O.bh (r.fresh i hil))) I rfl S.set S.plain S.taker S.dict hl rfl upd_but (by rw [FR.len hf']; have := hp.len; (exact ar302 hlen this)) fun h' F' N' => ?_
  refine ⟨_, (Post.refl r l).turn (tk := s.toks + 2) (ao := .inst C fs') O l.hB hil F' N' (.inr rfl) (fun _ q => nomatch q) fun G => ?_, hq⟩
  refine .inst ?_ (N' _ (.head _)).1 (hp.fr (hv.gr G) (hf.gr G)).1 (hp.nodup hn)
  have hx := I.1
  have k : ∀ b o, s.heap.get? b = some o → b ≠ L → b ≠ R.m i → h'.get? b = some o := fun b o e hL hd => by
    cases q : Γ.B.get? b with
    | none => exact (N' (b, o) (.tail _ (mem_newsBut.mpr ⟨⟨e, hL, q⟩, hd⟩))).1
    | some o2 => have := l.fr.keep b o2 q; rw [e] at this; cases this; exact F'.keep b o q
  exact k _ _ hx (fun z => ns_notInst l.fr.ns (z ▸ hx)) (r.notInst hil hx)
inductive QS (Γ : Cx) (st : List Env) (F : Fn) (L : Addr) (σ : List AObj) (R : Mp) (s : Shared) (Q : List (Option V) → List AObj → Prop) (s' : Shared) : Prop
  | mk (ℓ' : List (Option V)) (σ' : List AObj) (R' : Mp) (m' : Str → Option Value) (r : Rel Γ (F.env L :: st) σ' R' s') (l : Loc Γ F L ℓ' σ'.length R' m' s'.heap) (x : Ext (some L) σ.length R s.heap σ'.length R' s'.heap) (q : Q ℓ' σ')
theorem QS.after {σ1 R1 s1 s'} {Q : List (Option V) → List AObj → Prop} (x : Ext (some L) σ.length R s.heap σ1.length R1 s1.heap) (h : QS Γ st F L σ1 R1 s1 Q s') : QS Γ st F L σ R s Q s' := by
  obtain ⟨ℓ', σ', R', m', a, b, c, q⟩ := h
  exact ⟨ℓ', σ', R', m', a, b, x.trans c, q⟩
noncomputable def Wa (Γ : Cx) (A : Around) (st : List Env) (F : Fn) (L : Addr) (t : Env → Value → Sem Unit) (W : V) (ℓ : List (Option V)) (σ : List AObj) (Q : List (Option V) → List AObj → Prop) (E : Int → Prop) : Prop :=
  ∀ s R m v, Rel Γ (F.env L :: st) σ R s → Loc Γ F L ℓ σ.length R m s.heap → VR s.heap R.r σ.length v W → wpAny Γ.M A (t (F.env L) v) (fun _ s' => QS Γ st F L σ R s Q s') (EX Γ st F L E) s
variable {Q : List (Option V) → List AObj → Prop} {W : V}
noncomputable abbrev tgt (t : Expr) : Env → Value → Sem Unit := fun env v => assign t env v
theorem Wa.name {x : Str} {xp : Pos} (OF : FnOk F) (h : PutQ F.scope.names ℓ x W fun ℓ' => Q ℓ' σ) : Wa Γ A st F L (tgt (.Name x xp)) W ℓ σ Q E := fun s R m v r l hv => by
  obtain ⟨ℓ', hp, hq⟩ := h
  exact PyProof.Rows.assign_Name (store_sound OF r l hv hp fun s2 m2 r2 l2 x2 => ⟨_, _, _, _, r2, l2, x2, hq⟩)
theorem Wa.bind {x : Str} (OF : FnOk F) (h : PutQ F.scope.names ℓ x W fun ℓ' => Q ℓ' σ) : Wa Γ A st F L (fun env v => bindName env x v) W ℓ σ Q E := fun s R m v r l hv => by
  obtain ⟨ℓ', hp, hq⟩ := h
  exact PyProof.Rows.bindName_ (store_sound OF r l hv hp fun s2 m2 r2 l2 x2 => ⟨_, _, _, _, r2, l2, x2, hq⟩)
theorem Wa.attr {o : Expr} {attr : Str} {pos : Pos} (O : Γ.Ok) (h : We Γ A st F L o ℓ σ (fun b σ1 => SetK Γ attr b W σ1 fun σ2 => Q ℓ σ2) E) : Wa Γ A st F L (tgt (.Attribute o attr pos)) W ℓ σ Q E := fun s R m v r l hv => by
  show wpAny _ _ (assign (.Attribute o attr pos) (F.env L) v) _ _ _
  rw [assign_Attribute]
  refine wpAny_bind (wpAny_holding (h.use r l fun vo s1 b σ1 R1 P1 hvo h1 l1 => wpAny_bind (wpAny_standAt (wpAny_bind (wpAny_holding ?_)))))
  exact wpAny_mono (setAttr_sound O P1.rel l1 hvo (hv.ext P1.ext) h1) (fun _ s2 hpt => by obtain ⟨σ2, P2, hq⟩ := hpt; exact wpAny_release ⟨_, _, _, _, P2.rel, l1.post P2, P1.ext.trans P2.ext, hq⟩) fun _ _ x => x
inductive PutK (o i W : V) (σ : List AObj) (Q : List AObj → Prop) : Prop
  | mk (j : Nat) (fs : List (Str × V)) (x : Str) (fs' : List (Str × V)) (h1 : o = .obj j) (h2 : i = .str x) (h3 : σ[j]? = some (.dict fs)) (h4 : Rep fs x W fs') (h5 : fs.length ≤ 100) (h6 : Q (σ.set j (.dict fs')))
theorem KR.len {h r n kvs fs} (f : KR h r n kvs fs) : kvs.length = fs.length := by
  induction f with
  | nil => rfl
  | cons _ _ ih => exact congrArg (· + 1) ih
theorem setItem_sound {vo vi vv : Value} {o i W : V} {Q : List AObj → Prop} {E' : Value → Shared → Prop} (O : Γ.Ok) (r : Rel Γ (F.env L :: st) σ R s) (l : Loc Γ F L ℓ σ.length R m s.heap) (ho : VR s.heap R.r σ.length vo o) (hi : VR s.heap R.r σ.length vi i) (hv : VR s.heap R.r σ.length vv W) (h : PutK o i W σ Q) :
    wpAny Γ.M A (setItem vo vi vv) (fun _ s' => QA Γ st F L m σ R s Q s') E' s := by
  obtain ⟨j, fs, x, fs', rfl, rfl, hj, hp, hlen, hq⟩ := h
  (obtain ⟨_, rfl⟩ := VR.inv ho); (obtain ⟨_, rfl⟩ := VR.inv hi)
  rename_i t
  obtain ⟨kvs, er, hm, hk⟩ := r.dict hj
  have hjl := lt_of_get hj
  have hnd : (kvs.map (·.1)).Nodup := by obtain ⟨_, _, _, _, _, _, _, _, q⟩ := hm; exact q
  rw [er]
  refine wpAny_setItem_pairs (strKind_is Γ.prog Γ.w x t) hm (fun h' hm' hs => ?_) (by rw [hk.len, sizeLine_eq]; (exact Nat.le_trans (by assumption) (by decide)))
  have hm0 := hm'
  obtain ⟨od, es, ep, h1, h2, h3, _⟩ := hm0
  refine ⟨_, (Post.refl r l).turn' (tk := s.toks + 1) (ao := .dict fs') O l.hB hjl hs h1 (.inr h2.1) (fun vs q => by rw [h3] at q; cases q) fun G => ?_, hq⟩
  exact .dict er hm' (hp.kr (hv.gr G) (hk.gr G) (by rw [← hk.names]; exact hnd))
theorem Wa.item {o i : Expr} {pos : Pos} (O : Γ.Ok) (h : We Γ A st F L o ℓ σ (fun b σ1 => We Γ A st F L i ℓ σ1 (fun c σ2 => PutK b c W σ2 fun σ3 => Q ℓ σ3) E) E) : Wa Γ A st F L (tgt (.Subscript o i pos)) W ℓ σ Q E := fun s R m v r l hv => by
  show wpAny _ _ (assign (.Subscript o i pos) (F.env L) v) _ _ _
  rw [assign_Subscript]
  refine wpAny_bind (wpAny_holding (h.use r l fun vo s1 b σ1 R1 P1 hvo h1 l1 => wpAny_bind (wpAny_holding (h1.use P1.rel l1 fun vi s2 c σ2 R2 P2 hvi h2 l2 => wpAny_bind (wpAny_standAt (wpAny_bind (wpAny_holding ?_)))))))
  exact wpAny_mono (setItem_sound O P2.rel l2 (hvo.ext P2.ext) hvi ((hv.ext P1.ext).ext P2.ext) h2) (fun _ s3 hpt => by obtain ⟨σ3, P3, hq⟩ := hpt; exact wpAny_release ⟨_, _, _, _, P3.rel, l2.post P3, (P1.ext.trans P2.ext).trans P3.ext, hq⟩) fun _ _ x => x
noncomputable def Was (Γ : Cx) (A : Around) (st : List Env) (F : Fn) (L : Addr) (E : Int → Prop) : List (Env → Value → Sem Unit) → List V → List (Option V) → List AObj → (List (Option V) → List AObj → Prop) → Prop
  | [], [], ℓ, σ, Q => Q ℓ σ
  | t :: ts, W :: Ws, ℓ, σ, Q => Wa Γ A st F L t W ℓ σ (fun ℓ1 σ1 => Was Γ A st F L E ts Ws ℓ1 σ1 Q) E
  | _, _, _, _, _ => False
theorem Was.sound {ts : List (Env → Value → Sem Unit)} {Ws : List V} {ℓ σ s R m vs} (h : Was Γ A st F L E ts Ws ℓ σ Q) (r : Rel Γ (F.env L :: st) σ R s) (l : Loc Γ F L ℓ σ.length R m s.heap) (hv : VRs s.heap R.r σ.length vs Ws) :
    wpAny Γ.M A (assignInOrder (ts.map fun t => t (F.env L)) vs) (fun u s' => QS Γ st F L σ R s Q s') (EX Γ st F L E) s := by
  induction ts generalizing Ws ℓ σ s R m vs with
  | nil =>
    cases Ws with
    | nil => obtain rfl := hv.nil_iff; exact assignInOrder_nil ⟨_, _, _, _, r, l, (Post.refl r l).ext, h⟩
    | cons W Ws => exact h.elim
  | cons t ts ih =>
    cases Ws with
    | nil => exact h.elim
    | cons W Ws =>
      obtain ⟨v, vs', rfl, h1, h2⟩ := hv.cons_iff
      exact assignInOrder_cons (wpAny_mono (h s R m v r l h1) (fun u s1 hpt => by obtain ⟨ℓ1, σ1, R1, m1, r1, l1, x1, q⟩ := hpt; exact wpAny_mono (ih q r1 l1 (h2.ext x1)) (fun u s2 h3 => h3.after x1) fun u s x => x) fun u s x => x)
end
section
variable {Γ : Cx} {A : Around} {st : List Env} {F : Fn} {L : Addr} {ℓ : List (Option V)} {σ : List AObj} {E : Int → Prop} {Q : Fl → List (Option V) → List AObj → Prop}
theorem Ws.assignAttr {o : Expr} {attr : Str} {tp pos : Pos} {v : Expr} (O : Γ.Ok) (h : We Γ A st F L v ℓ σ (fun W σ1 => We Γ A st F L o ℓ σ1 (fun b σ2 => SetK Γ attr b W σ2 fun σ3 => Q .next ℓ σ3) E) E) (hs : ∀ env, swapsWith v (some (.Attribute o attr tp)) pos.line env = pure false := by intro; rfl) :
    Ws Γ A st F L (.Assign [.Attribute o attr tp] v pos) ℓ σ Q E := .mk fun s R m r l => by
  refine plainObj_wpAny_Assign_Attribute (h.use r l fun vv s1 W σ1 R1 P1 hv h1 l1 => h1.use P1.rel l1 fun vo s2 b σ2 R2 P2 hvo h2 l2 => ?_) (hs _)
  exact wpAny_mono (setAttr_sound O P2.rel l2 hvo (hv.ext P2.ext) h2) (fun _ s3 hpt => by obtain ⟨σ3, P3, hq⟩ := hpt; exact ⟨_, _, _, _, _, P3.rel, l2.post P3, (P1.ext.trans P2.ext).trans P3.ext, .next, hq⟩) fun _ _ x => x
theorem Ws.assignItem {o i : Expr} {tp pos : Pos} {v : Expr} (O : Γ.Ok) (h : We Γ A st F L v ℓ σ (fun W σ1 => We Γ A st F L o ℓ σ1 (fun b σ2 => We Γ A st F L i ℓ σ2 (fun c σ3 => PutK b c W σ3 fun σ4 => Q .next ℓ σ4) E) E) E) (hs : ∀ env, swapsWith v (some (.Subscript o i tp)) pos.line env = pure false := by intro; rfl) :
    Ws Γ A st F L (.Assign [.Subscript o i tp] v pos) ℓ σ Q E := .mk fun s R m r l => by
  refine wpAny_Assign_Subscript (h.use r l fun vv s1 W σ1 R1 P1 hv h1 l1 => h1.use P1.rel l1 fun vo s2 b σ2 R2 P2 hvo h2 l2 => h2.use P2.rel l2 fun vi s3 c σ3 R3 P3 hvi h3 l3 => ?_) (hs _)
  exact wpAny_mono (setItem_sound O P3.rel l3 (hvo.ext P3.ext) hvi ((hv.ext P2.ext).ext P3.ext) h3) (fun _ s4 hpt => by obtain ⟨σ4, P4, hq⟩ := hpt; exact ⟨_, _, _, _, _, P4.rel, l3.post P4, ((P1.ext.trans P2.ext).trans P3.ext).trans P4.ext, .next, hq⟩) fun _ _ x => x
inductive AugQ (ks : List (Str × NameKind)) (ℓ : List (Option V)) (x : Str) (op : Operator) (W b : V) (P : List (Option V) → Prop) : Prop
  | mk (h0 : op = .Add) (i j : Int) (ℓ' : List (Option V)) (h1 : W = .int i) (h2 : b = .int j) (h3 : Put ks ℓ x (.int (i + j)) ℓ') (q : P ℓ')
inductive AugA (op : Operator) (a b : V) (P : Int → Prop) : Prop
  | mk (h0 : op = .Add) (i j : Int) (h1 : a = .int i) (h2 : b = .int j) (q : P (i + j))
inductive TupQ (W : V) (n : Nat) (P : List V → Prop) : Prop
  | mk (Ws : List V) (h : W = .tup Ws) (hl : n = Ws.length) (q : P Ws)
theorem Ws.augName {x : Str} {xp pos : Pos} {op : Operator} {v : Expr} {W : V} (OF : FnOk F) (ha : At F.scope.names ℓ x W) (h : We Γ A st F L v ℓ σ (fun b σ1 => AugQ F.scope.names ℓ x op W b fun ℓ' => Q .next ℓ' σ1) E) :
    Ws Γ A st F L (.AugAssign (.Name x xp) op v pos) ℓ σ Q E := .mk fun s R m r l => by
  refine wpAny_AugAssign_Name ?_
  obtain ⟨k, h1, h2⟩ := ha.get
  obtain ⟨vx, hv, hr⟩ := l.loc k x _ W h1 h2
  refine wpAny_loadName_local OF.kind (OF.kindOf (List.mem_of_getElem? h1)) l.fr.ns hv ?_
  · refine h.use r l fun vb s1 b σ1 R1 P1 hvb hq l1 => ?_
    obtain ⟨rfl, i, j, ℓ', rfl, rfl, hp, hq⟩ := hq
    (obtain ⟨_, rfl⟩ := VR.inv hr); (obtain ⟨_, rfl⟩ := VR.inv hvb)
    refine PyProof.Rows.iadd_int (store_sound OF (P1.rel.tok _) (l1.post (((Post.refl P1.rel l1).tok _))) (.int _ _) hp fun s2 m2 r2 l2 x2 => ⟨_, _, _, _, _, r2, l2, P1.ext.trans x2, .next, hq⟩)
theorem Ws.augAttr {x attr : Str} {xp tp pos : Pos} {op : Operator} {v : Expr} (O : Γ.Ok) (h : We Γ A st F L (.Name x xp) ℓ σ (fun o σ1 => AttrK Γ attr o σ1 fun a σ2 => We Γ A st F L v ℓ σ2 (fun b σ3 => AugA op a b fun k => SetK Γ attr o (.int k) σ3 fun σ4 => Q .next ℓ σ4) E) E) :
    Ws Γ A st F L (.AugAssign (.Attribute (.Name x xp) attr tp) op v pos) ℓ σ Q E := .mk fun s R m r l => by
  refine wpAny_AugAssign_AttributeAny (h.use r l fun vo s1 o σ1 R1 P1 hvo h1 l1 => ?_)
  refine wpAny_mono (attr_sound (E := E) O (Post.refl P1.rel l1) hvo h1) (fun va s2 hpat => ?_) fun _ _ x => x
  obtain ⟨a, σ2, R2, P2, hva, h2⟩ := hpat
  refine h2.use P2.rel (l1.post P2) fun vb s3 b σ3 R3 P3 hvb hq l3 => ?_
  obtain ⟨rfl, i, j, rfl, rfl, h3⟩ := hq
  (obtain ⟨_, rfl⟩ := VR.inv hva); (obtain ⟨_, rfl⟩ := VR.inv hvb)
  refine PyProof.Rows.iadd_int ?_
  exact wpAny_mono (setAttr_sound (s := { s3 with toks := s3.toks + 1 }) O (P3.rel.tok _) (l3.post ((Post.refl P3.rel l3).tok _)) ((hvo.ext P2.ext).ext P3.ext) (.int _ _) h3) (fun _ s4 hpt => by obtain ⟨σ4, P4, hq⟩ := hpt; exact ⟨_, _, _, _, _, P4.rel, (l3.post ((Post.refl P3.rel l3).tok _)).post P4, ((P1.ext.trans P2.ext).trans P3.ext).trans P4.ext, .next, hq⟩) fun _ _ x => x
theorem Ws.assignTup {elts : List Expr} {k tp pos} {v : Expr} (hh : A.handled = none) (h : We Γ A st F L v ℓ σ (fun W σ1 => TupQ W elts.length fun Ws => Was Γ A st F L E (elts.map tgt) Ws ℓ σ1 (Q .next)) E)
    (hs : ∀ env, swapsWithSole [.Tuple elts k tp] v pos.line env = pure false := by intro; rfl) (hw : swappedStores [.Tuple elts k tp] v (F.env L) = pure none := by rfl)
    (he : ∀ env, assignEach elts env = elts.map fun t => (false, PySem.assign t env) := by intro; rfl) : Ws Γ A st F L (.Assign [.Tuple elts k tp] v pos) ℓ σ Q E := .mk fun s R m r l => by
  refine Assign_Tuple (h.use r l fun vv s1 W σ1 R1 P1 hv hq l1 => ?_) (hs _) hw
  obtain ⟨Ws, rfl, hl, h1⟩ := hq
  obtain ⟨a, vs, rfl, ht, hvs⟩ := hv.isTup
  refine unpackN_ l1.fr (allNews_ok _ _ _) ht hh (by rw [he]; simp [hl, hvs.1]) (by rw [he]; simp) fun h' F' N' => ?_
  have P2 := P1.step (tk := s1.toks) F' N' l.hB
  rw [he]
  have e : (elts.map fun t => (false, PySem.assign t (F.env L))).map (·.2) = (elts.map tgt).map fun t => t (F.env L) := by rw [List.map_map, List.map_map]; rfl
  rw [e]
  have E2 := KeepsL.ext P1.rel rfl P1.fr.ns F'.ns (keepsL_of_news F' P1.fr.keep N')
  refine wpAny_mono (Was.sound h1 P2.rel (l.post P2) (by simpa using hvs.ext E2)) (fun _ s3 hpat => ?_) fun _ _ x => x
  obtain ⟨ℓ3, σ3, R3, m3, r3, l3, x3, q⟩ := hpat
  exact ⟨_, _, _, _, _, r3, l3, P2.ext.trans x3, .next, q⟩
theorem Ws.assignSwap {elts : List Expr} {names : List Str} {k tp pos} {v : Expr} (hh : A.handled = none) (h : We Γ A st F L v ℓ σ (fun W σ1 => TupQ W names.length fun Ws => Was Γ A st F L E (names.reverse.map fun n env v => bindName env n v) Ws.reverse ℓ σ1 (Q .next)) E)
    (hs : ∀ env, swapsWithSole [.Tuple elts k tp] v pos.line env = pure false := by intro; rfl) (hw : swappedStores [.Tuple elts k tp] v (F.env L) = pure (some names)) : Ws Γ A st F L (.Assign [.Tuple elts k tp] v pos) ℓ σ Q E := .mk fun s R m r l => by
  refine Assign_Tuple_swapped (h.use r l fun vv s1 W σ1 R1 P1 hv hq l1 => ?_) (hs _) hw
  obtain ⟨Ws, rfl, hl, h1⟩ := hq
  obtain ⟨a, vs, rfl, ht, hvs⟩ := hv.isTup
  refine unpackItemsN_ l1.fr (allNews_ok _ _ _) ht hh (by simp [hl, hvs.1]) fun h' F' N' => ?_
  have P2 := P1.step (tk := s1.toks) F' N' l.hB
  have E2 := KeepsL.ext P1.rel rfl P1.fr.ns F'.ns (keepsL_of_news F' P1.fr.keep N')
  have hr : VRs h' R1.r σ1.length vs.reverse Ws.reverse := by
    have := hvs.ext E2
    refine ⟨by simp [this.1], fun i x X e1 e2 => ?_⟩
    have h1 : i < vs.length := by have := (List.getElem?_eq_some_iff.mp e1).1; simpa using this
    have h2 : i < Ws.length := by have := (List.getElem?_eq_some_iff.mp e2).1; simpa using this
    rw [List.getElem?_reverse h1] at e1
    rw [List.getElem?_reverse h2] at e2
    rw [this.1] at e1
    exact this.2 _ x X e1 e2
  have e : (names.reverse.map fun n => bindName (F.env L) n) = (names.reverse.map fun n env v => bindName env n v).map fun t => t (F.env L) := by rw [List.map_map]; rfl
  rw [e]
  refine wpAny_mono (Was.sound h1 P2.rel (l.post P2) (by simpa using hr)) (fun _ s3 hpat => ?_) fun _ _ x => x
  obtain ⟨ℓ3, σ3, R3, m3, r3, l3, x3, q⟩ := hpat
  exact ⟨_, _, _, _, _, r3, l3, P2.ext.trans x3, .next, q⟩
end
end
section
section
variable {Γ : Cx} {A : Around} {st : List Env} {F : Fn} {L : Addr} {e : Expr} {ℓ ℓ' : List (Option V)} {σ : List AObj} {Q : V → List AObj → Prop} {E : Int → Prop}
  {s : Shared} {R : Mp} {m : Str → Option Value}
structure ClsAt (K : Frag) (C f : Addr) : Prop where
  makes : makesIn K C = true
  init : findIn K (.ref C) "__init__" = some (some (.ref f))
  fn : typeIn K (.ref f) = some (.type "function")
theorem Wk.make {C f : Addr} {args : List V} {b : Nat} (O : Γ.Ok) (hA : AOk A st (b + 1)) (X : ClsAt Γ.K C f)
    (h : ∀ A', AOk A' st b → Wk Γ A' st (.glob f) (.obj σ.length :: args) (σ ++ [.inst C []]) (fun W σ' => W = .none ∧ Q (.obj σ.length) σ') E) : Wk Γ A st (.glob C) args σ Q E := by
  intro s R v vs r hv hvs
  (obtain rfl := VR.inv hv)
  have KX : Γ.K.In s.heap := O.kin.keeps fun b o e => r.keep b o (O.bh b o e)
  obtain ⟨hh, g, d, t, os⟩ := s
  refine make_core (makes_of KX X.makes) (looks_findIn KX X.init) (fun self => bind_fn KX self X.fn) (.inl rfl) ?_
  have k0 : KeepsL none hh ((hh.push emptyDict).push (instObj C hh.objs.size)) := fun b o e _ => Heap.get?_push_of_some _ (Heap.get?_push_of_some _ e)
  have e1 : ((hh.push emptyDict).push (instObj C hh.objs.size)).get? hh.objs.size = some emptyDict := Heap.get?_push_of_some _ (Heap.get?_push_size _ rfl)
  have e2 : ((hh.push emptyDict).push (instObj C hh.objs.size)).get? (hh.objs.size + 1) = some (instObj C hh.objs.size) := by heap_get
  have hn := get_size_none hh
  have r1 : Rel Γ st σ R { heap := (hh.push emptyDict).push (instObj C hh.objs.size), gens := g, drawn := d, toks := t, os := os } := r.keeps (s := ⟨hh, g, d, t, os⟩) k0 (Nat.le_trans r.top (by rw [Heap.size_push, Heap.size_push]; exact Nat.le_trans (Nat.le_succ _) (Nat.le_succ _)))
  have E0 := KeepsL.ext0 (s := ⟨hh, g, d, t, os⟩) r k0
  have r2 := r1.enter (a := hh.objs.size + 1) (b := hh.objs.size) (ao := .inst C []) (fun i hi q => by
      have := r.live i hi; rw [q] at this; rw [show (⟨hh, g, d, t, os⟩ : Shared).heap = hh from rfl, hn] at this; cases this)
    (by cases q : Γ.H.get? hh.objs.size with
        | none => rfl
        | some o => have := r.keep _ o q; rw [show (⟨hh, g, d, t, os⟩ : Shared).heap = hh from rfl, hn] at this; cases this)
    (fun env he L' hL' q => by have := funFrames_live r.frs env he L' hL'; rw [← q, show (⟨hh, g, d, t, os⟩ : Shared).heap = hh from rfl, hn] at this; cases this)
    (.inst (es := []) (ep := 0) (by rw [Mp.set_r, Mp.set_m]; exact e2) (by rw [Mp.set_m]; exact e1) .nil (by simp))
  have E1 : Ext none σ.length R hh (σ.length + 1) (R.set σ.length (hh.objs.size + 1) hh.objs.size) ((hh.push emptyDict).push (instObj C hh.objs.size)) := E0.set hn (by rw [e1]; rfl)
  have AA : AOk (A.under (.builtin "type.__call__" ⟨.ref C :: vs, []⟩)) st b := by
    obtain ⟨a1, a2, a3, a4⟩ := hA
    refine ⟨?_, a2, ?_, ?_⟩
    · show pushEnvs [] A.frames = _; rw [a1]; rfl
    · show A.depth + 1 + b < _; (exact ar50 a3)
    · show A.units + _ + _ < _
      have : (Code.builtin "type.__call__" ⟨.ref C :: vs, []⟩).cUnits ≤ 5 := by first | exact (show (1 : Nat) ≤ 5 by decide) | exact (show (4 : Nat) ≤ 5 by decide)
      (exact ar103 a4 this)
  refine codeAny_mono (h _ AA _ _ _ _ r2 (.glob f) (.cons Post.vrNew (by have := hvs.ext E1; simpa using this))) fun r s' h' => ?_
  rcases r with e | f
  · exact h'
  cases f with
  | ret v =>
    obtain ⟨W, σ', R', r', x', hw, rfl, hq⟩ := h'
    (obtain rfl := VR.inv hw)
    have x2 := E1.trans (by simpa using x')
    refine ⟨rfl, _, σ', R', r', x2, ?_, hq⟩
    have hlt : σ.length < σ'.length := by have := x'.le; simp at this; (assumption)
    have := VR.obj (h := s'.heap) (r := R'.r) σ.length hlt
    rw [x'.r σ.length (by simp), Mp.set_r] at this
    exact this
  | next => exact h'.elim
  | brk => exact h'.elim
  | cont => exact h'.elim
end
end
section
open Builtin Builtin.ObjectAttr
section
variable {prog : Program} {w : World} {A : Around} {E : Value → Shared → Prop} {s : Shared} {K : Frag} {x C : Addr} {mA : Str → Option Value} {name : Str} {v : Value} {cd : ClassData}
inductive Kept (h h' : Heap) (x : Addr) (o₀ : Obj) : Prop
  | mk (o₁ : Obj) (h1 : h'.get? x = some o₁) (h2 : o₁.cls = o₀.cls) (h3 : o₁.data = o₀.data) (h4 : o₁.slots = o₀.slots) (h5 : ∀ dx, o₀.dict = some dx → o₁.dict = some dx) (h6 : o₀.dict = none → ∀ dx, o₁.dict = some dx → h.get? dx = none)
theorem exc_set {Q : Unit → Shared → Prop} {ns : List Str} (X : K.In s.heap) (hcd : clsIn K C = some cd) (hl : ∀ self, refuseLoop self "__setattr__" cd.mro = pure ()) (hobj : cd.mro.contains (.type "object") = true) (hne : cd.mro.isEmpty = false)
    (hs : findIn K (.ref C) "__setattr__" = some (some (.builtin "object.__setattr__"))) (ht : takerIn K C name = some none) (hdict : cd.hasDict = true) (I : s.heap.Inst x C mA) (hw : Within mA ns) (hsz : ns.length + 1 ≤ 1000)
    (hq : ∀ h' tk', h'.Inst x C (fun y => if y = name then some v else mA y) →
      (∀ b o, b ≠ x → (∀ o₀ dx, s.heap.get? x = some o₀ → o₀.dict = some dx → b ≠ dx) → s.heap.get? b = some o → h'.get? b = some o) →
      (∀ o₀, s.heap.get? x = some o₀ → Kept s.heap h' x o₀) → Q () { s with heap := h', toks := tk' }) :
    wpAny (model prog w) A (setAttr (.ref x) name v) Q E s := by
  obtain ⟨h, g, d, t, os⟩ := s
  obtain ⟨o, hx, hc, hnc, hd⟩ := I
  replace X : K.In h := X
  have Lt : Looks (model prog w) h (typeOf (.ref x)) (.ref C) := hc ▸ (Looks.ld hx).andThen .now
  refine wpAny_bind (wpAny_mkText (wpAny_bind (wpAny_bind (wpAny_bind (Lt _ _ _ _ (fun _ _ e => e) (looks_findIn X hs _ _ _ _ (fun _ _ e => e) (wpAny_holding ?_)))))))
  rw [PySem.F.store_object.slot.bind]
  have SF := PySem.F.store_object
  have Lm : Looks (model prog w) h (mroOf (.ref C)) cd.mro := (looks_clsIn X hcd).andThen .now
  have sub : Looks (model prog w) h (isInstance (.ref x) (.type "object")) true := Lt.andThen (looks_mroIn X (by unfold mroIn; rw [hcd, Option.bind_some, if_neg (by rw [hne]; decide), hobj]))
  refine wpAny_bind (wpAny_pure (wpAny_bind (wpAny_call (codeAny_call_builtin SF.slot.plain SF.entry (@check_slot (model prog w) _ _ ⟨h, g, d, t + 1, os⟩ "object.__setattr__" "object" "__setattr__" (.ref x) [.str name t, v] [] _ SF.kind SF.split sub (SF.args (.ref x) (.str name t) v) ?_)))))
  obtain ⟨attr, ha, hr⟩ := Option.bind_eq_some_iff.mp ht
  have L3 : Looks (model prog w) h (storeTaker? attr) none := by
    cases attr with
    | none => exact .now
    | some a =>
      obtain ⟨b, hb, hb2⟩ := Option.map_eq_some_iff.mp hr
      refine (looks_takesIn X hb).andThen ?_
      cases b
      · exact .now
      · cases hb2
  show wpAny _ _ (Builtin.«object.__setattr__» ⟨[.ref x, .str name t, v], []⟩) _ _ _
  rw [osa_eq, refuse_eq]
  refine wpAny_bind (wpAny_bind (Lt.at (wpAny_bind (Lm.at ?_))))
  rw [hl]
  refine wpAny_pure (wpAny_bind (Lt.at (wpAny_bind ((looks_findIn X ha).at (wpAny_bind (L3.at ?_))))))
  refine wpAny_bind (wpAny_pure (wpAny_bind ?_))
  show wpAny _ _ (instanceDict x true) _ _ _
  unfold instanceDict
  refine wpAny_bind (wpAny_loadPart hx ?_)
  rw [hc]
  refine wpAny_bind ((looks_clsIn X hcd).at ?_)
  simp only [hdict, Bool.not_true, Bool.false_eq_true, if_false]
  rcases hd with ⟨hdn, hmA⟩ | ⟨dx, hdx, hnex, hns⟩
  · rw [hdn]
    dsimp only
    rw [if_neg (by simp [typeHasDict])]
    first
    | done
    | skip
    · have hx₁ : (h.push { cls := .type "dict", data := .dict #[] }).get? x = some o := Heap.get?_push_of_some _ hx
      have hxs : x ≠ h.objs.size := Nat.ne_of_lt (Heap.lt_size hx)
      refine wpAny_bind (wpAny_alloc' ?_)
      refine wpAny_bind (wpAny_update' hx₁ ?_)
      refine wpAny_pure ?_
      have hgd : ((h.push { cls := .type "dict", data := .dict #[] }).update x fun o => { cls := o.cls, dict := some h.objs.size, data := o.data, slots := o.slots }).get? h.objs.size
          = some { cls := .type "dict", data := .dict #[] } :=
        (Heap.get?_update_ne _ _ _ _ hxs.symm).trans (Heap.get?_push_at rfl rfl)
      have hnd : ((h.push { cls := .type "dict", data := .dict #[] }).update x fun o => { cls := o.cls, dict := some h.objs.size, data := o.data, slots := o.slots }).Ns h.objs.size (fun _ => none) :=
        ⟨_, #[], _, hgd, rfl, fun e he => absurd he (by simp), fun _ => rfl⟩
      show wpAny _ _ (storeInDict h.objs.size (.str name t) name v) _ _ _
      unfold storeInDict newKeyGuard
      refine wpAny_bind (wpAny_pure (wpAny_bind (wpAny_nsSet1 (Heap.Ns1.of_empty hnd) fun h' hn' hs => ?_)))
      obtain ⟨oD, esD, epD, hoD, hdD, hcD⟩ := hn'.count (Within.cons name v Within.nil)
      refine wpAny_bind (wpAny_lookBehind hoD (by rw [hdD]; exact pastItsLine_dict (Nat.le_trans hcD (by rw [List.length_cons, List.length_nil, sizeLine_eq]; (exact ar414)))) ?_)
      have hx' : h'.get? x = some { cls := o.cls, dict := some h.objs.size, data := o.data, slots := o.slots } := by
        refine (hs.2 x hxs).trans (Heap.get?_update_self _ hx₁ ?_)
        have hfr := (Heap.get?_some_iff.mp hx).2
        obtain ⟨oc, od, odt, osl⟩ := o
        cases odt <;> first | rfl | exact hfr
      refine wpAny_pure (wpAny_pure (wpAny_pure (hq h' _ ⟨{ cls := o.cls, dict := some h.objs.size, data := o.data, slots := o.slots }, hx', hc, hnc, .inr ⟨h.objs.size, rfl, hxs.symm, ?_⟩⟩ (fun b ob hbx _ hb => ?_)
        (fun o₀ h₀ => by obtain rfl : o = o₀ := Option.some.inj (hx.symm.trans h₀); exact ⟨_, hx', rfl, rfl, rfl, (fun dx e => by rw [hdn] at e; cases e), (fun _ dx e => by cases e; exact get_size_none h)⟩))))
      · obtain ⟨o', es, ep, e1, e2, e3, eu, e4⟩ := hn'
        exact ⟨o', es, ep, e1, e2, e3, eu, fun y => by rw [e4 y]; by_cases hy : y = name <;> simp [hy, hmA]⟩
      · exact (hs.2 b (Nat.ne_of_lt (Heap.lt_size hb))).trans ((Heap.get?_update_ne _ _ _ _ hbx).trans (Heap.get?_push_of_some _ hb))
  · rw [hdx]
    refine wpAny_pure ?_
    show wpAny _ _ (storeInDict dx (.str name t) name v) _ _ _
    unfold storeInDict newKeyGuard
    refine wpAny_bind (wpAny_pure (wpAny_bind (wpAny_nsSet1 hns fun h' hn' hs => ?_)))
    obtain ⟨oD, esD, epD, hoD, hdD, hcD⟩ := hn'.count (Within.cons name v hw)
    refine wpAny_bind (wpAny_lookBehind hoD (by rw [hdD]; exact pastItsLine_dict (Nat.le_trans hcD (by rw [List.length_cons, sizeLine_eq]; (exact Nat.le_trans (by assumption) (by decide))))) ?_)
    refine wpAny_pure (wpAny_pure (wpAny_pure (hq h' _ ⟨o, (hs.2 x hnex.symm).trans hx, hc, hnc, .inr ⟨dx, hdx, hnex, hn'⟩⟩ (fun b ob _ hbd hb => ?_)
      (fun o₀ h₀ => ⟨o₀, (hs.2 x hnex.symm).trans h₀, rfl, rfl, rfl, fun _ e => e, fun e => ?_⟩))))
    · exact (hs.2 b (hbd o dx hx hdx)).trans hb
    · obtain rfl : o = o₀ := Option.some.inj (hx.symm.trans h₀)
      rw [hdx] at e; cases e
end
end
section
open Builtin
theorem slot_wd_get : Slot "wrapper_descriptor" "__get__" "wrapper_descriptor.__get__" := .of (owner := "wrapper_descriptor") (n := "__get__") (by rw [typeLookup_type, builtinLookup_eq_fast]; kernel_rfl) (by decide +kernel) (by decide +kernel) (by decide +kernel)
  (by first | exact .inl (by decide +kernel) | exact .inr (by decide +kernel)) (by rw [isSubtype_type]; kernel_rfl)
theorem entry_wd_get : entryFor table "wrapper_descriptor.__get__" = some Builtin.«wrapper_descriptor.__get__» := entryFor_of_tree (by kernel_rfl)
theorem args_wd_get (a b c : Value) : argsOk "wrapper_descriptor.__get__" ⟨[a, b, c], []⟩ := by unfold argsOk; kernel_rfl
theorem type_exc_init : typeOf (.builtin "Exception.__init__") = pure (.type "wrapper_descriptor") := by kernel_rfl
noncomputable abbrev wrapObj (x : Addr) : Obj := { cls := .type "method-wrapper", dict := none, data := .fields #[.builtin "Exception.__init__", .ref x], slots := #[] }
noncomputable abbrev superObj (D x C : Addr) : Obj := { cls := .type "super", dict := none, data := .fields #[.ref D, .ref x, .ref C], slots := #[] }
section
variable {prog : Program} {w : World} {M : Model} {A : Around} {E : Value → Shared → Prop} {h : Heap} {g : Array GenState} {d : Drawn} {t : Nat} {os : OsState} {K : Frag}
set_option maxHeartbeats 1000000 in
theorem super_ga_exc {so D x C : Addr} {l₀ l : List Value} {tk : Tok} {Q : Fin → Shared → Prop}
    (hso : h.get? so = some (superObj D x C)) (hno : Looks (model prog w) h (opaqueClassAbove (.ref C)) none)
    (hC : Looks (model prog w) h (mroOf (.ref C)) l₀) (hl : (l₀.dropWhile (· != .ref D)).drop 1 = l) (X : K.In h)
    (hf : alongIn K "__init__" l = some (some (.builtin "Exception.__init__"))) {ox : Obj} (hx : h.get? x = some ox) (hxc : ox.cls = .ref C) (hI : Looks (model prog w) h (isSubtype (.ref C) (.type "Exception")) true) (hxC : x ≠ C)
    (hq : Q (.done (.ret (.ref h.objs.size))) ⟨h.push (wrapObj x), g, d, t, os⟩) :
    wpAny (model prog w) A (Builtin.«super.__getattribute__» ⟨[.ref so, .str "__init__" tk], []⟩) Q E ⟨h, g, d, t, os⟩ := by
  have hlk := slot_wd_get.lookup
  have hne : (Value.ref x == Value.ref C) = false := by simp [hxC]
  have hn : (("__init__" : Str) == ("__class__" : Str)) = false := by decide
  have hTf : (⟨h, g, d, t, os⟩ : Shared).TypeIs (.builtin "Exception.__init__") "wrapper_descriptor" := type_exc_init
  have hdt : (superObj D x C).data = .fields #[.ref D, .ref x, .ref C] := rfl
  have f0 : (#[.ref D, .ref x, .ref C] : Array Value)[0]? = some (.ref D) := rfl
  have f1 : (#[.ref D, .ref x, .ref C] : Array Value)[1]? = some (.ref x) := rfl
  have f2 : (#[.ref D, .ref x, .ref C] : Array Value)[2]? = some (.ref C) := rfl
  unfold Builtin.«super.__getattribute__»
  repeat (first
    | (with_reducible refine wpAny_field hso hdt f0 ?_) | (with_reducible refine wpAny_field hso hdt f1 ?_) | (with_reducible refine wpAny_field hso hdt f2 ?_)
    | (with_reducible refine ks_wpAny_notOpaque hno ?_)
    | (with_reducible refine Looks.at hC ?_; rw [hl])
    | (refine ks_forIn_along X (fun _ _ => rfl) rfl ?_ hf)
    | (with_reducible refine wpAny_typeOf hTf ?_)
    | (with_reducible refine wpAny_call_entry slot_wd_get hTf entry_wd_get ?_ (args_wd_get _ _ _))
    | (with_reducible refine ⟨_, rfl, ?_⟩)
    | (simp only [hn, hne, Bool.or_false, Bool.false_eq_true, if_false])
    | wp_step
    | dsimp only)
  have own : ".".intercalate ("Exception.__init__".cutAt '.').dropLast = "Exception" := by decide +kernel
  rw [hxc, own]
  refine Looks.at hI ?_
  refine wpAny_ite ?_
  rw [if_neg (by decide)]
  refine wpAny_pure ?_
  unfold newFields
  refine wpAny_bind (wpAny_newObj_type ?_ (by size_fits))
  refine wpAny_pure ⟨_, rfl, ?_⟩
  refine wpAny_bind (wpAny_pure (wpAny_pure (wpAny_pure ?_)))
  exact hq
theorem getMethod_super_exc {so D x C : Addr} {l₀ l : List Value} {pl : Sem Bool} {Q : Value × List Value → Shared → Prop}
    (hso : h.get? so = some (superObj D x C)) (hno : Looks (model prog w) h (opaqueClassAbove (.ref C)) none)
    (hC : Looks (model prog w) h (mroOf (.ref C)) l₀) (hl : (l₀.dropWhile (· != .ref D)).drop 1 = l) (X : K.In h)
    (hf : alongIn K "__init__" l = some (some (.builtin "Exception.__init__"))) {ox : Obj} (hx : h.get? x = some ox) (hxc : ox.cls = .ref C) (hI : Looks (model prog w) h (isSubtype (.ref C) (.type "Exception")) true) (hxC : x ≠ C)
    (hq : Q (.ref h.objs.size, []) ⟨h.push (wrapObj x), g, d, t + 1, os⟩) :
    wpAny (model prog w) A (getMethod (.ref so) "__init__" pl) Q E ⟨h, g, d, t, os⟩ := by
  have hlk := PySem.F.ks_slot_super_ga.lookup
  have hcan := PySem.F.ks_canon_super_ga
  have hT : ∀ t', (⟨h, g, d, t', os⟩ : Shared).TypeIs (.ref so) "super" := fun _ => ⟨_, hso, rfl⟩
  unfold getMethod
  refine wpAny_bind (wpAny_specialOf (hT _) hlk ?_)
  show wpAny _ _ (if (Manifest.canonical "super.__getattribute__" != "object.__getattribute__") = true then _ else _) _ _ _
  rw [if_pos hcan]
  unfold getAttr getAttrBy
  refine wpAny_bind (wpAny_bind (wpAny_mkText (wpAny_holding (wpAny_bind (wpAny_typeOf (hT _) (wpAny_bind (wpAny_of_eq hlk ?_)))))))
  show wpAny _ _ (getAttrByItsOwn (.ref so) (.str "__init__" t) (.type "super") (.builtin "super.__getattribute__") true false) _ _ _
  unfold getAttrByItsOwn hookBefore callGetattribute boundAndCalled
  refine wpAny_bind (wpAny_of_eq (show (if onTheHeap (.type "super") then typeLookup (.type "super") "__getattr__" else pure none) = pure none from rfl) ?_)
  refine wpAny_bind (wpAny_attempt (wpAny_holding ?_))
  show wpAny _ _ (bindSpecial (.builtin "super.__getattribute__") (.ref so) >>= _) _ _ _
  refine wpAny_bind (wpAny_of_eq (PySem.F.ks_slot_super_ga.bind _) ?_)
  refine wpAny_mono (Q := fun v s' => v = .ref h.objs.size ∧ s' = ⟨h.push (wrapObj x), g, d, t + 1, os⟩) (E := fun _ _ => False)
    (wpAny_call_entry PySem.F.ks_slot_super_ga (hT _) PySem.F.ks_entry_super_ga (super_ga_exc hso hno hC hl X hf hx hxc hI hxC ⟨_, rfl, rfl, rfl⟩) (PySem.F.ks_gaArgs_super _ _)) (fun v s' hv => ?_) fun _ _ z => z.elim
  obtain ⟨rfl, rfl⟩ := hv
  exact wpAny_pure (wpAny_pure hq)
theorem keeper_wrap {mw x : Addr} {Q : Keeper → Shared → Prop} (ho : h.get? mw = some (wrapObj x)) (hq : Q .machine ⟨h, g, d, t, os⟩) : wpAny M A (keeperOf (.ref mw)) Q E ⟨h, g, d, t, os⟩ := by
  unfold keeperOf
  refine wpAny_bind (wpAny_load ho ?_)
  simp only [wrapObj, show (Value.type "method-wrapper" != Value.type "method") = true by decide, show (Value.type "method-wrapper" == Value.type "builtin_function_or_method" || Value.type "method-wrapper" == Value.type "method-wrapper") = true by decide, if_true]
  exact wpAny_pure hq
theorem check_exc_init {x C : Addr} {a : Value} {ox : Obj} {dd : Option Addr} {cd : ClassData} {sl : Array (Option Value)} {Q : Unit → Shared → Prop} (hx : h.get? x = some ox) (hxc : ox.cls = .ref C) (hC : h.get? C = some ⟨.type "type", dd, .cls cd, sl⟩)
    (hq : Q () ⟨h, g, d, t, os⟩) : wpAny M A (checkBoundCall "Exception.__init__" ⟨[.ref x, a], []⟩) Q E ⟨h, g, d, t, os⟩ := by
  have FX := PySem.F.excBase_Exception
  have hshort := FX.noStar
  simp only [checkBoundCall, FX.initKind, FX.initRow]
  refine wpAny_ite ?_
  rw [if_pos (by decide)]
  repeat (first | (with_reducible refine wpAny_loadPart_at hx ?_; rw [hxc]) | with_reducible refine wpAny_loadPart_at hC ?_ | wp_step | (rw [hxc]) | dsimp only)
  exact hq
inductive Made (h' : Heap) (x : Addr) (ox : Obj) (vs : Array Value) : Prop
  | mk (o' : Obj) (h1 : h'.get? x = some o') (h2 : o'.cls = ox.cls) (h3 : o'.dict = ox.dict) (h4 : o'.slots = ox.slots) (tp' : Addr) (h5 : o'.data = .fields (vs.setIfInBounds 0 (.ref tp')))
theorem call_wrap {mw x tp : Addr} {a : Value} {ox : Obj} {vs : Array Value} {Q : Value → Shared → Prop} (ho : h.get? mw = some (wrapObj x)) (hx : h.get? x = some ox) (hd : ox.data = .fields vs) (h0 : vs[0]? = some (.ref tp)) {C : Addr} {dd : Option Addr} {cd : ClassData} {sl : Array (Option Value)} (hxc : ox.cls = .ref C) (hC : h.get? C = some ⟨.type "type", dd, .cls cd, sl⟩)
    (hq : ∀ h', Heap.ExtBut x h h' → Made h' x ox vs → Q .none ⟨h', g, d, t, os⟩) :
    wpAny (model prog w) A (call (.ref mw) [a]) Q E ⟨h, g, d, t, os⟩ := by
  refine wpAny_call (codeAny_of_tree ?_)
  show wpAny _ A.in1 (callAny (.ref mw) ⟨[a], []⟩) _ _ _
  simp only [callAny]
  refine wpAny_bind (wpAny_load ho ?_)
  simp only [wrapObj, show (Value.type "method-wrapper" == Value.type "method" || Value.type "method-wrapper" == Value.type "builtin_function_or_method" || Value.type "method-wrapper" == Value.type "method-wrapper") = true by decide, if_true]
  show wpAny _ _ (do checkBoundCall "Exception.__init__" ⟨[.ref x, a], []⟩; again (.builtin "Exception.__init__" ⟨[.ref x, a], []⟩)) _ _ _
  have FX := PySem.F.excBase_Exception
  refine wpAny_bind (check_exc_init hx hxc hC (wpAny_pure ⟨plainId_quiet FX.init.plain _, codeAny_builtin FX.initEntry ?_⟩))
  unfold Builtin.«BaseException.__init__»
  repeat (first | wp_step | dsimp only)
  rw [hd]
  refine wpAny_pure ?_
  rw [h0]
  refine wpAny_pure ?_
  have hx1 := Heap.get?_push_of_some { cls := .type "tuple", data := .seq [a].toArray } hx
  refine wpAny_bind (wpAny_setField hx1 hd (Array.getElem?_eq_some_iff.mp h0).1 ?_)
  refine wpAny_letGo (wpAny_pure (hq _ (fun b o hb e => ?_) ⟨_, Heap.get?_update_self _ hx1 ?_, Obj.cls_mapFields .., ?_, ?_, _, Obj.data_mapFields hd _⟩))
  · exact (get_update_ne _ hb).trans (Heap.get?_push_of_some _ e)
  · exact Obj.isFreed_of_fields (Obj.data_mapFields hd _)
  · obtain ⟨c, d, dt, sl⟩ := ox; cases dt <;> rfl
  · obtain ⟨c, d, dt, sl⟩ := ox; cases dt <;> rfl
end
noncomputable def DOf (h : Heap) (e b : Addr) : Prop := ∃ o, h.get? e = some o ∧ o.dict = some b
structure KE (e : Addr) (h h' : Heap) : Prop where
  keep : ∀ b o, h.get? b = some o → b ≠ e → ¬ DOf h e b → h'.get? b = some o
  nd : ∀ b, (h.get? b).isSome = true → b ≠ e → ¬ DOf h e b → ¬ DOf h' e b
theorem KE.trans {e h h' h''} (a : KE e h h') (b : KE e h' h'') : KE e h h'' := by
  refine ⟨fun c o hc hne hd => b.keep c o (a.keep c o hc hne hd) hne (a.nd c (by rw [hc]; rfl) hne hd), fun c hc hne hd => ?_⟩
  obtain ⟨o, ho⟩ := Option.isSome_iff_exists.mp hc
  exact b.nd c (by rw [a.keep c o ho hne hd]; rfl) hne (a.nd c hc hne hd)
theorem KE.of_keep {e h h'} (k : ∀ b o, h.get? b = some o → h'.get? b = some o) (he : (h.get? e).isSome = true) : KE e h h' := by
  refine ⟨fun b o hb _ _ => k b o hb, fun b hb hne hd hd' => hd ?_⟩
  obtain ⟨oe, hoe⟩ := Option.isSome_iff_exists.mp he
  obtain ⟨o, ho, hdd⟩ := hd'
  rw [k _ _ hoe] at ho; cases ho
  exact ⟨oe, hoe, hdd⟩
inductive EObj (hB h : Heap) (e C : Addr) (mA : Str → Option Value) : Prop
  | mk (o : Obj) (tp : Addr) (h1 : h.get? e = some o) (h2 : o.cls = .ref C) (h3 : o.data = .fields #[.ref tp, .none, .none, .none, .bool false, .none]) (h4 : (o.dict = none ∧ ∀ n, mA n = none) ∨ ∃ d, o.dict = some d ∧ d ≠ e ∧ hB.get? d = none ∧ h.Ns1 d mA)
structure EAt (hB h : Heap) (e C : Addr) (mA : Str → Option Value) : Prop where
  keep : ∀ b o, hB.get? b = some o → h.get? b = some o
  new : hB.get? e = none
  obj : EObj hB h e C mA
theorem EAt.inst {hB h e C mA} (x : EAt hB h e C mA) : h.Inst e C mA := by
  obtain ⟨o, tp, ho, hc, hd, h2⟩ := x.obj
  refine ⟨o, ho, hc, (fun c q => by rw [hd] at q; cases q), h2.imp id fun hpt => by obtain ⟨d, a, b, _, c⟩ := hpt; exact ⟨d, a, b, c⟩⟩
theorem EAt.live {hB h e C mA} (x : EAt hB h e C mA) : (h.get? e).isSome = true := by obtain ⟨o, tp, ho, _⟩ := x.obj; rw [ho]; rfl
theorem EAt.up {hB h h' e C mA} (x : EAt hB h e C mA) (k : ∀ b o, h.get? b = some o → h'.get? b = some o) : EAt hB h' e C mA := by
  obtain ⟨o, tp, ho, hc, hd, h2⟩ := x.obj
  refine ⟨fun b o e => k b o (x.keep b o e), x.new, ⟨o, tp, k _ _ ho, hc, hd, h2.imp id fun ⟨d, a, b, c, f⟩ => ⟨d, a, b, c, ?_⟩⟩⟩
  obtain ⟨od, es, ep, h3, r⟩ := f
  exact ⟨od, es, ep, k _ _ h3, r⟩
inductive TFCls (K : Frag) (C : Addr) : Prop
  | mk (dd : Option Addr) (cd : ClassData) (sl : Array (Option Value)) (h1 : K.lookup C = some ⟨.type "type", dd, .cls cd, sl⟩) (h2 : ∀ self, refuseLoop self "__setattr__" cd.mro = pure ()) (h3 : cd.mro.contains (.type "object") = true) (h4 : cd.mro.isEmpty = false) (h5 : cd.hasDict = true)
structure TFIn (K : Frag) (C : Addr) : Prop where
  cls : TFCls K C
  set : findIn K (.ref C) "__setattr__" = some (some (.builtin "object.__setattr__"))
  sub : mroIn K C (.type "Exception") = some true
  opq : nsIn K cStatics "thirdparty.any" = some none
section
variable {prog : Program} {w : World} {A : Around} {E : Value → Shared → Prop} {s : Shared} {K : Frag} {hB : Heap} {e C : Addr} {mA : Str → Option Value} {name : Str} {v : Value}
theorem EAt.set {Q : Unit → Shared → Prop} {ns : List Str} (X : K.In s.heap) (T : TFIn K C) (ht : takerIn K C name = some none) (x : EAt hB s.heap e C mA) (hw : Within mA ns) (hsz : ns.length + 1 ≤ 1000)
    (hq : ∀ h' tk', EAt hB h' e C (fun y => if y = name then some v else mA y) → KE e s.heap h' → Q () { s with heap := h', toks := tk' }) : wpAny (model prog w) A (setAttr (.ref e) name v) Q E s := by
  obtain ⟨dd, cd, sl, hC, h1, h2, h3, h4⟩ := T.cls
  have hcd : clsIn K C = some cd := by unfold clsIn; rw [hC]
  refine exc_set X hcd h1 h2 h3 T.set ht h4 x.inst hw hsz fun h' tk' I k ob => hq h' tk' ⟨fun b o hb => ?_, x.new, ?_⟩ ⟨fun b o hb hne hd => ?_, fun b hb hne hd hd' => ?_⟩
  · refine k b o (fun q => by rw [q, x.new] at hb; cases hb) (fun o₀ dx ho₀ hdx q => ?_) (x.keep b o hb)
    obtain ⟨oe, tp, hoe, _, _, hh⟩ := x.obj
    rw [hoe] at ho₀; cases ho₀
    rcases hh with ⟨z, _⟩ | ⟨d, z, _, z2, _⟩
    · rw [z] at hdx; cases hdx
    · rw [z] at hdx; cases hdx; rw [q, z2] at hb; cases hb
  · obtain ⟨oe, tp, hoe, hc, hd, hh⟩ := x.obj
    obtain ⟨o₁, a1, a2, a3, a4, a5, a6⟩ := ob oe hoe
    obtain ⟨o₂, b1, b2, b3, b4⟩ := I
    rw [a1] at b1; cases b1
    refine ⟨o₁, tp, a1, b2, a3.trans hd, b4.imp id fun ⟨d, c1, c2, c3⟩ => ⟨d, c1, c2, ?_, c3⟩⟩
    rcases hh with ⟨z, _⟩ | ⟨d', z, _, z2, _⟩
    · have := a6 z d c1
      cases q : hB.get? d with
      | none => rfl
      | some o => rw [x.keep _ o q] at this; cases this
    · have := a5 d' z; rw [c1] at this; cases this; exact z2
  · exact k b o hne (fun o₀ dx ho₀ hdx q => hd ⟨o₀, ho₀, by rw [q]; exact hdx⟩) hb
  · obtain ⟨oe, tp, hoe, hc, hdd, hh⟩ := x.obj
    obtain ⟨o₁, a1, a2, a3, a4, a5, a6⟩ := ob oe hoe
    obtain ⟨o₂, b1, b2⟩ := hd'
    rw [a1] at b1; cases b1
    rcases hh with ⟨z, _⟩ | ⟨d', z, _, z2, _⟩
    · have := a6 z b b2; rw [this] at hb; cases hb
    · have := a5 d' z; rw [b2] at this; cases this
      exact hd ⟨oe, hoe, z⟩
end
end
section
open Builtin
noncomputable def initBody (fld : Str) (p0 p1 ap wp cp ep sp tp vp asp : Pos) : List Stmt :=
  [.Expr (.Call (.Attribute (.Call (.Name "super" p0) [] [] p1) "__init__" ap) [.Name "what" wp] [] cp) ep, .Assign [.Attribute (.Name "self" sp) fld tp] (.Name fld vp) asp]
inductive SupAt (K : Frag) (prog : Program) (f D : Addr) (ps : List Str) (fld : Str) : Prop
  | mk (name q : Str) (params : Arguments) (scope : Scope) (dV kV doc pm : Value) (an : Option Addr) (cda : Addr) (ct : Value) (cc : Addr) (oc : Value) (od : Option Addr) (osl : Array (Option Value)) (p0 p1 ap wp cp ep sp tp vp asp : Pos)
    (h1 : K.lookup f = some ⟨oc, od, .func (ksFn name q params (initBody fld p0 p1 ap wp cp ep sp tp vp asp) scope dV kV doc pm an (.ref cda) ct cc), osl⟩)
    (h2 : ∀ (s : Shared), K.In s.heap → ∀ vs : List Value, vs.length = ps.length → BindsTo s (ksFn name q params (initBody fld p0 p1 ap wp cp ep sp tp vp asp) scope dV kV doc pm an (.ref cda) ct cc) ⟨vs, []⟩ (ps.zip vs))
    (h3 : codeIn K (.ref cda) q = true) (h4 : scope.kind = .function) (h5 : ∀ x ∈ scope.names, x.2 ≠ .cell) (h6 : scope.isCoroutine = false) (h7 : scope.isGenerator = false)
    (h8 : ∀ y ∈ ps, scope.names.lookup y = some .local) (h9 : scope.names.lookup ("super" : Str) = some .globalImplicit) (h10 : scope.names.lookup ("__class__" : Str) = some .free)
    (ar : Arg) (h11 : (params.posonlyargs ++ params.args).head? = some ar) (h12 : ar.arg = "self")
    (ccl : Value) (cdd : Option Addr) (vs : Array Value) (ccs : Array (Option Value)) (file : Str) (tf : Tok) (h13 : K.lookup cda = some ⟨ccl, cdd, .fields vs, ccs⟩) (h14 : vs[2]? = some (.str file tf)) (h15 : ((prog.main.file : Str) == file) = true)
    (cl : Value) (cld : Option Addr) (csl : Array (Option Value)) (h16 : K.lookup cc = some ⟨cl, cld, .cell (some (.ref D)), csl⟩)
    (pl : Env → Sem Bool) (h17 : ∀ env, eval (.Call (.Attribute (.Call (.Name "super" p0) [] [] p1) "__init__" ap) [.Name "what" wp] [] cp) env = (do
      let ov ← attributeBase (.Call (.Name "super" p0) [] [] p1) "__init__" env (eval (.Call (.Name "super" p0) [] [] p1) env)
      standAt ap.atName
      let (f, first) ← holding [ov] (getMethod ov "__init__" (pl env))
      callWith cp f first (backTo cp (starEach [.Name "what" wp] env)) []))
structure SupInit (K : Frag) (prog : Program) (f D : Addr) (ps : List Str) (fld : Str) : Prop where
  at_ : SupAt K prog f D ps fld
  self : ("self" : Str) ∈ ps
  what : ("what" : Str) ∈ ps
  fldIn : fld ∈ ps
  nodbg : (fld == ("__debug__" : Str)) = false
  nodup : ps.Nodup
  cls : ∃ cdD, clsIn K D = some cdD
structure SupTop (K : Frag) (prog : Program) : Prop where
  sup : nsIn K mainGlobals "super" = some none
  top : (prog.main.scope.names.lookup ("super" : Str)).isSome = false
  boot : bootBuiltins "super" = some (.type "super")
section
variable {prog : Program} {w : World} {A : Around} {E : Value → Shared → Prop} {s : Shared} {K : Frag} {hB : Heap} {e C D f f2 : Addr} {mA : Str → Option Value} {fld : Str} {p : Program} {loose : List Str} {mean : ExcName → Option Value} {mg mb : Str → Option Value}
  {ps : List Str} {vs : List Value} {R : Result → Shared → Prop}
theorem init_walk {ns : List Str} {fv wv : Value} (hroom : A.depth < recursionLimit) (X₀ : K.In hB) (T₀ : Top p loose mean mg mb hB) (hsz : hB.objs.size ≤ s.heap.objs.size) (I : SupInit K prog f D ps fld) (ST : SupTop K prog) (TF : TFIn K C) (hsub : mroIn K C (.ref D) = some true)
    (ht : takerIn K C fld = some none) (x : EAt hB s.heap e C mA) (hl : vs.length = ps.length)
    (hself : (ps.zip vs).reverse.lookup ("self" : Str) = some (Value.ref e)) (hfld : (ps.zip vs).reverse.lookup fld = some fv) (hwhat : (ps.zip vs).reverse.lookup ("what" : Str) = some wv)
    (hcall : ∀ (A' : Around) (L : Addr) (m : Str → Option Value) (env : Env) (h' : Heap) (tk : Tok) (Q : Value → Shared → Prop) (E' : Value → Shared → Prop) (so : Addr) (pl : Sem Bool) (cp wp : Pos), A'.depth ≤ A.depth + 1 → Fr hB L h' m → EAt hB h' e C mA → KE e s.heap h' → L ≠ e → ¬ DOf h' e L → s.heap.get? L = none → News hB L h' [(so, superObj D e C)] →
      (∀ (s1 : Shared) (Q1 : Value → Shared → Prop), Fr hB L s1.heap m → Q1 wv s1 → wpAny (model prog w) A' (eval (.Name "what" wp) env) Q1 E' s1) →
      (∀ h'' tk' r mA', Fr hB L h'' m → EAt hB h'' e C mA' → Within mA' ns → KE e s.heap h'' → Q r { s with heap := h'', toks := tk' }) →
      wpAny (model prog w) A' (getMethod (.ref so) "__init__" pl) (fun fx s2 => wpAny (model prog w) A' (callWith cp fx.1 fx.2 (backTo cp (starEach [.Name "what" wp] env)) []) Q E' s2) E' { s with heap := h', toks := tk })
    (hns : ns.length + 1 ≤ 1000)
    (hq : ∀ h' tk' mA', EAt hB h' e C (fun y => if y = fld then some fv else mA' y) → Within mA' ns → KE e s.heap h' → R (.ok (.ret .none)) { s with heap := h', toks := tk' }) :
    codeAny (model prog w) A (.call (.ref f) ⟨vs, []⟩) R s := by
  have X := X₀.keeps x.keep
  obtain ⟨name, q, params, scope, dV, kV, doc, pm, an, cda, ct, cc, oc, od, osl, p0, p1, ap, wp, cp, ep, sp, tp, vp, asp, ho, hb, hcode, hk, hcell, hco, hgen, hloc, hs1, hs2, ar, ha1, ha2, ccl, cdd, cvs, ccs, file, tf, hc1, hc2, hc3, cl, cld, csl, hcc, pl, hpl⟩ := I.at_
  obtain ⟨cdD, hcd⟩ := I.cls
  refine ks_codeAny_call_defAt hroom (X _ _ ho) rfl (T₀.nolimit.keeps x.keep) (codeRec_of X hcode) rfl (hb s X vs hl) hcell (fun y hy => hloc y.1 (List.of_mem_zip (a := y.1) (b := y.2) hy).1) (fun h1 hns1 hk1 => ?_) hco hgen hk
  have x1 : EAt hB h1 e C mA := x.up hk1
  have F1 : Fr hB s.heap.objs.size h1 (fun y => (ps.zip vs).reverse.lookup y) := ⟨hns1, x1.keep, hsz⟩
  have hLn : s.heap.get? s.heap.objs.size = none := get_size_none _
  have hLe : s.heap.objs.size ≠ e := fun q => by have := x.live; rw [← q, hLn] at this; cases this
  have hLd : ¬ DOf h1 e s.heap.objs.size := by
    rintro ⟨o', ho', hd'⟩
    obtain ⟨oe, tpe, hoe, _, _, hdd⟩ := x.obj
    rw [hk1 _ _ hoe] at ho'; cases ho'
    rcases hdd with ⟨z, _⟩ | ⟨d, z, _, _, ⟨od, es, ep, z2, _⟩⟩
    · rw [z] at hd'; cases hd'
    · rw [z] at hd'; cases hd'; rw [hLn] at z2; cases z2
  show _root_.PySem.wpAt (model prog w) (A.deeper (ksEnv q scope s.heap.objs.size f (.ref cda) cc)) (.func (initBody fld p0 p1 ap wp cp ep sp tp vp asp) (ksEnv q scope s.heap.objs.size f (.ref cda) cc)) (execs (initBody fld p0 p1 ap wp cp ep sp tp vp asp) (ksEnv q scope s.heap.objs.size f (.ref cda) cc)) _ _ { s with heap := h1, toks := s.toks + (ps.zip vs).length }
  obtain ⟨oe, tpe, hoe, hoc, hod, hdd⟩ := id x1.obj
  have II : InstAt h1 e oe C (oe.dict.bind h1.get?) := by
    refine ⟨hoe, hoc, ?_, ?_⟩
    · unfold notCls; rw [hod]
    · rcases hdd with ⟨z, _⟩ | ⟨d, z, _, _, ⟨od, es, ep, z2, _⟩⟩
      · rw [z]; trivial
      · rw [z]; show _; rw [Option.bind_some, z2]; exact z2
  have lw : scope.names.lookup ("what" : Str) = some .local := hloc _ I.what
  have ls : scope.names.lookup ("self" : Str) = some .local := hloc _ I.self
  have lf : scope.names.lookup fld = some .local := hloc _ I.fldIn
  have nf : (fld == ("__debug__" : Str)) = false := I.nodbg
  have hi : interactive (ksEnv q scope s.heap.objs.size f (.ref cda) cc) = false := by
    show (scope.kind == .module && _) = false
    rw [hk]; rfl
  have AD : (A.deeper (ksEnv q scope s.heap.objs.size f (.ref cda) cc)).depth ≤ A.depth + 1 := Nat.le_refl _
  refine ks_wpAt_execs_cons (ks_wpAt_Expr_any (ks_wpAt_MethodCall (ks_node F1 X₀ (allNews_ok hB h1 s.heap.objs.size) T₀ ho ha1 (by rw [ha2]; exact hself) II hc1 hc2 hc3 hcc hcd hsub ST.sup (by decide) hs1 hs2 (by rw [ha2]; exact ls) hk ST.top ST.boot (fun so h2 F2 N2 _ => ?_)) (hpl _)) hi (by rfl))
  have kL : KeepsL (some s.heap.objs.size) h1 h2 := keepsL_of_news F2 F1.keep fun p hp => N2 p (.tail _ hp)
  have k2 : ∀ b o, s.heap.get? b = some o → h2.get? b = some o := fun b o hb => kL b o (hk1 b o hb) (fun q => by cases q; rw [hLn] at hb; cases hb)
  have x2 : EAt hB h2 e C mA := x.up k2
  have hd2 : ¬ DOf h2 e s.heap.objs.size := by
    rintro ⟨o', ho', hd'⟩
    rw [kL _ _ hoe (fun q => hLe (Option.some.inj q).symm)] at ho'; cases ho'
    exact hLd ⟨oe, hoe, hd'⟩
  refine hcall _ _ _ (ksEnv q scope s.heap.objs.size f (.ref cda) cc) h2 _ _ _ so _ _ _ AD F2 x2 (KE.of_keep k2 x.live) hLe hd2 hLn (fun p hp => by rw [List.mem_singleton] at hp; subst hp; exact N2 _ (.head _)) (fun s1 Q1 F3 hQ => nameX_L F3 hwhat hQ hk lw) fun h3 tk3 r3 mA3 F3 x3 w3 ke => ?_
  refine wpAt_of_wpAny (wpAny_execs_cons (plainObj_wpAny_Assign_Attribute (nameX_L F3 hfld (nameX_L F3 hself (x3.set (X₀.keeps x3.keep) TF ht w3 hns fun h4 tk4 x4 ke4 => ?_) hk ls) hk lf nf) rfl))
  exact wpAny_execs_nil (hq _ _ _ x4 w3 (ke.trans ke4))
theorem spliced_one {M : Model} {A : Around} {E : Value → Shared → Prop} {s : Shared} {e : Sem Value} {Q : List Value → Shared → Prop} (h : wpAny M A e (fun v s1 => Q [v] s1) E s) : wpAny M A (spliced [(false, e)]) Q E s :=
  spliced_cons (wpAny_mono h (fun v s1 h1 => spliced_nil h1) fun _ _ x => x)
theorem callWith_wrap {mw x : Addr} {ep : Pos} {n : Str} {np : Pos} {env : Env} {wv : Value} {Q : Value → Shared → Prop} (ho : s.heap.get? mw = some (wrapObj x)) (hv : ∀ (Q1 : Value → Shared → Prop), Q1 wv s → wpAny (model prog w) A (eval (.Name n np) env) Q1 E s)
    (h : wpAny (model prog w) A (call (.ref mw) [wv]) Q E s) : wpAny (model prog w) A (callWith ep (.ref mw) [] (backTo ep (starEach [.Name n np] env)) []) Q E s := by
  refine callWith_of (P := fun h => h.get? mw = some (wrapObj x)) rfl (fun h1 e1 => ⟨.machine, .inr (.inl rfl), fun A Q E s k q => ?_⟩) ?_
  · obtain ⟨hh, g, d, t, os⟩ := s
    exact keeper_wrap (k _ _ e1) q
  · refine evalArgs_of (pos := ep) (es := [.Name n np]) rfl ?_
    exact spliced_one (hv _ ⟨ho, h⟩)
theorem callWith_meth {q x g : Addr} {ep : Pos} {n : Str} {np : Pos} {env : Env} {wv : Value} {Q : Value → Shared → Prop} (X : K.In s.heap) (ho : s.heap.get? q = some (methodObj (.ref g) (.ref x))) (hg : fnIn K g = true) (hv : ∀ (Q1 : Value → Shared → Prop), Q1 wv s → wpAny (model prog w) A (eval (.Name n np) env) Q1 E s)
    (h : codeAny (model prog w) A (.call (.ref g) ⟨[.ref x, wv], []⟩) (fun r s' => match r with | .ok (.ret v) => Q v s' | .ok _ => False | .error e => E e s') s) : wpAny (model prog w) A (callWith ep (.ref q) [] (backTo ep (starEach [.Name n np] env)) []) Q E s := by
  refine callWith_of (P := MethP K q g (.ref x)) rfl (keeps_M hg) ?_
  refine evalArgs_of (pos := ep) (es := [.Name n np]) rfl ?_
  exact spliced_one (hv _ ⟨⟨ho, X⟩, wpAny_call (method_call ho h)⟩)
end
end
section
open Builtin
inductive ExcNew (K : Frag) (C : Addr) : Prop
  | mk (nm q : Str) (N : Addr) (bs bm : List Value) (hdct : Bool) (sn : List Str) (sub : List Value) (ab : Bool) (col : Option Bool) (dd : Option Addr) (k0 k1 k2 k3 k5 : Option Value) (h1 : K.lookup C = some (excClassObj nm q C N bs bm hdct sn sub ab col dd k0 k1 k2 k3 k5 "Exception.__new__"))
    (h2 : bm.contains (.type "Exception") = true) (h3 : bm.contains (.type "AttributeError") = false) (h4 : bm.contains (.type "NameError") = false) (h5 : bm.contains (.type "BaseException") = true)
structure ExcK (K : Frag) (prog : Program) (C DS DF fS fF : Addr) : Prop where
  top : SupTop K prog
  tf : TFIn K C
  spot : SupInit K prog fS DS ["self", "what", "spot"] "spot"
  fd : SupInit K prog fF DF ["self", "what"] "what"
  subS : mroIn K C (.ref DS) = some true
  subF : mroIn K C (.ref DF) = some true
  tkS : takerIn K C "spot" = some none
  tkW : takerIn K C "what" = some none
  supS : ks_superIn K C DS "__init__" = some (some (.ref fF))
  fnF : fnIn K fF = true
  fnF' : typeIn K (.ref fF) = some (.type "function")
  supF : ks_superIn K C DF "__init__" = some (some (.builtin "Exception.__init__"))
  init : findIn K (.ref C) "__init__" = some (some (.ref fS))
  fnS : typeIn K (.ref fS) = some (.type "function")
  new : ExcNew K C
section
variable {prog : Program} {w : World} {A : Around} {E : Value → Shared → Prop} {s : Shared} {K : Frag} {hB : Heap} {e C DS DF fS fF : Addr} {mA : Str → Option Value} {p : Program} {loose : List Str} {mean : ExcName → Option Value} {mg mb : Str → Option Value}
  {R : Result → Shared → Prop}
theorem EAt.data0 {h h' : Heap} {ox : Obj} {vs : Array Value} (x : EAt hB h e C mA) (hx : h.get? e = some ox) (hd : ox.data = .fields vs) (k : Heap.ExtBut e h h')
    (ob : Made h' e ox vs) : EAt hB h' e C mA ∧ KE e h h' := by
  obtain ⟨o', ho', hc', hd', _, tp', hdt⟩ := ob
  obtain ⟨o, tp, ho, hc, hdo, h2⟩ := x.obj
  rw [hx] at ho; cases ho
  rw [hd] at hdo; cases hdo
  refine ⟨⟨fun b o hb => k b o (fun q => by rw [q, x.new] at hb; cases hb) (x.keep b o hb), x.new, o', tp', ho', hc'.trans hc, by rw [hdt]; rfl, ?_⟩, ⟨fun b o hb hne _ => k b o hne hb, fun b hb hne hn hn' => hn ?_⟩⟩
  · rw [hd']
    refine h2.imp id fun hpt => by obtain ⟨d, a1, a2, a3, ⟨od, es, ep, a4, a5⟩⟩ := hpt; exact ⟨d, a1, a2, a3, od, es, ep, k _ _ a2 a4, a5⟩
  · obtain ⟨o2, b1, b2⟩ := hn'
    rw [ho'] at b1; cases b1
    exact ⟨ox, hx, by rw [← hd']; exact b2⟩
theorem neC (X : K.In s.heap) (TF : TFIn K C) (x : EAt hB s.heap e C mA) : e ≠ C := by
  rintro rfl
  obtain ⟨dd, cd, sl, hC, _⟩ := TF.cls
  obtain ⟨o, tp, ho, hc, _⟩ := x.obj
  rw [X _ _ hC] at ho; cases ho
  cases hc
theorem init_fd {ns : List Str} {wv : Value} (hroom : A.depth < recursionLimit) (X₀ : K.In hB) (T₀ : Top p loose mean mg mb hB) (hsz : hB.objs.size ≤ s.heap.objs.size) (XK : ExcK K prog C DS DF fS fF) (x : EAt hB s.heap e C mA) (hw : Within mA ns) (hns : ns.length + 1 ≤ 1000)
    (hq : ∀ h' tk' mA', EAt hB h' e C mA' → Within mA' ("what" :: ns) → KE e s.heap h' → R (.ok (.ret .none)) { s with heap := h', toks := tk' }) :
    codeAny (model prog w) A (.call (.ref fF) ⟨[.ref e, wv], []⟩) R s := by
  refine init_walk (R := R) (w := w) (s := s) (A := A) (fld := "what") (ns := ns) (vs := [.ref e, wv]) (fv := wv) (wv := wv) (mA := mA) hroom X₀ T₀ hsz XK.fd XK.top XK.tf XK.subF XK.tkW x rfl rfl rfl rfl ?_ hns fun h' tk' mA' x' w' ke => hq h' tk' _ x' (Within.cons _ _ w') ke
  intro A' L m env h' tk Q E' so pl cp wp hd F' x' ke' hLe hLd hLn hso hv hk
  have X' := X₀.keeps x'.keep
  obtain ⟨o, tp, ho, hc, hdo, h2⟩ := id x'.obj
  obtain ⟨dd, cd, sl, hC, _⟩ := XK.tf.cls
  have hcd : clsIn K C = some cd := by unfold clsIn; rw [hC]
  have hal : alongIn K "__init__" ((cd.mro.dropWhile (· != .ref DF)).drop 1) = some (some (.builtin "Exception.__init__")) := by
    have := XK.supF
    unfold ks_superIn at this
    rw [hcd] at this
    exact this
  obtain ⟨h0, g, d, t, os⟩ := s
  refine getMethod_super_exc (hso _ (.head _)).1 (looks_opaque X' XK.tf.opq) (l₀ := cd.mro) ((looks_clsIn X' hcd).andThen .now) rfl X' hal ho hc (looks_mroIn X' XK.tf.sub) (neC (s := ⟨h', g, d, tk, os⟩) X' XK.tf x') ?_
  have up : ∀ b o, h'.get? b = some o → (h'.push (wrapObj e)).get? b = some o := fun b o hb => Heap.get?_push_of_some _ hb
  refine callWith_wrap (x := e) (Heap.get?_push_size _ rfl) (fun Q1 hQ => hv _ _ (F'.push _) hQ) ?_
  have x3 := x'.up up
  refine call_wrap (Heap.get?_push_size _ rfl) (up _ _ ho) hdo rfl hc (up _ _ (X' _ _ hC)) fun h3 k3 ob => ?_
  obtain ⟨x4, ke4⟩ := x3.data0 (up _ _ ho) hdo k3 ob
  obtain ⟨oL, es, ep, hL, r⟩ := F'.ns
  exact hk h3 _ _ mA ⟨⟨oL, es, ep, k3 _ _ hLe (up _ _ hL), r⟩, x4.keep, F'.above⟩ x4 hw (ke'.trans ((KE.of_keep up x'.live).trans ke4))
theorem init_spot {ns : List Str} {wv kv : Value} (hroom : A.depth + 1 < recursionLimit) (X₀ : K.In hB) (T₀ : Top p loose mean mg mb hB) (hsz : hB.objs.size ≤ s.heap.objs.size) (XK : ExcK K prog C DS DF fS fF) (x : EAt hB s.heap e C mA) (hw : Within mA ns) (hns : ns.length + 2 ≤ 1000)
    (hq : ∀ h' tk' (mA' : Str → Option Value), EAt hB h' e C (fun y => if y = "spot" then some kv else mA' y) → R (.ok (.ret .none)) { s with heap := h', toks := tk' }) :
    codeAny (model prog w) A (.call (.ref fS) ⟨[.ref e, wv, kv], []⟩) R s := by
  refine init_walk (R := R) (w := w) (s := s) (A := A) (fld := "spot") (ns := "what" :: ns) (vs := [.ref e, wv, kv]) (fv := kv) (wv := wv) (mA := mA) (by (exact Nat.le_of_lt (by assumption))) X₀ T₀ hsz XK.spot XK.top XK.tf XK.subS XK.tkS x rfl rfl rfl rfl ?_ (by simp; (exact ar361 hns)) fun h' tk' mA' x' w' ke => hq h' tk' _ x'
  intro A' L m env h' tk Q E' so pl cp wp hd F' x' ke' hLe hLd hLn hso hv hk
  have X' := X₀.keeps x'.keep
  obtain ⟨o, tp, ho, hc, hdo, h2'⟩ := id x'.obj
  have hL : h'.get? L ≠ none := fun q => by have := ns_live F'.ns; rw [q] at this; cases this
  have II : InstAt h' e o C (o.dict.bind h'.get?) := by
    refine ⟨ho, hc, ?_, ?_⟩
    · unfold notCls; rw [hdo]
    · rcases h2' with ⟨z, _⟩ | ⟨d, z, _, _, ⟨od, es, ep, z2, _⟩⟩
      · rw [z]; trivial
      · rw [z]; show _; rw [Option.bind_some, z2]; exact z2
  refine ks_method F' X₀ (allNews_ok hB h' L) (mem_allNews.mpr (hso _ (.head _))) II XK.tf.opq XK.supS XK.fnF' (by decide) fun q h2 F2 N2 lq => ?_
  have kL : KeepsL (some L) h' h2 := keepsL_of_news F2 F'.keep fun p hp => N2 p (.tail _ hp)
  have he2 : h2.get? e = some o := kL _ _ ho (fun q => hLe (Option.some.inj q).symm)
  have x2 : EAt hB h2 e C mA := by
    refine ⟨F2.keep, x'.new, o, tp, he2, hc, hdo, h2'.imp id fun hpt => by obtain ⟨d, a1, a2, a3, ⟨od, es, ep, a4, a5⟩⟩ := hpt; exact ⟨d, a1, a2, a3, od, es, ep, kL _ _ a4 (fun q => hLd ⟨o, ho, by rw [a1, Option.some.inj q]⟩), a5⟩⟩
  have ke2 : KE e s.heap h2 := by
    refine ⟨fun b ob hb hne hd => kL b ob (ke'.keep b ob hb hne hd) (fun q => by cases q; rw [hLn] at hb; cases hb), fun b hb hne hd hd' => ke'.nd b hb hne hd ?_⟩
    obtain ⟨o2, b1, b2⟩ := hd'
    rw [he2] at b1; cases b1
    exact ⟨o, ho, b2⟩
  refine callWith_meth (x := e) (g := fF) (X₀.keeps x2.keep) (N2 _ (.head _)).1 XK.fnF (fun Q1 hQ => hv _ _ F2 hQ) ?_
  refine init_fd (s := { s with heap := h2, toks := tk + 1 }) (ns := ns) (by exact ar193 hroom hd) X₀ T₀ (Nat.le_trans F2.above (Nat.le_of_lt F2.ns.lt)) XK x2 hw (by (exact Nat.le_of_lt (by assumption))) fun h3 tk3 mA3 x3 w3 ke3 => ?_
  obtain ⟨oL, es, ep, hL2, r⟩ := F2.ns
  have hL3 : h3.get? L = some oL := ke3.keep _ _ hL2 hLe (by
    rintro ⟨o2, b1, b2⟩
    rw [show ({ s with heap := h2, toks := tk + 1 } : Shared).heap = h2 from rfl, he2] at b1; cases b1
    exact hLd ⟨o, ho, b2⟩)
  exact hk h3 _ _ mA3 ⟨⟨oL, es, ep, hL3, r⟩, x3.keep, F2.above⟩ x3 w3 (ke2.trans ke3)
end
end
section
open Builtin
section
variable {prog : Program} {w : World} {A : Around} {E : Value → Shared → Prop} {h : Heap} {g : Array GenState} {d : Drawn} {t : Nat} {os : OsState} {R : Result → Shared → Prop}
variable {nm q : Str} {C N : Addr} {bs bm : List Value} {hdct : Bool} {sn : List Str} {sub : List Value} {ab : Bool} {col : Option Bool} {dd : Option Addr} {k0 k1 k2 k3 k5 : Option Value}
theorem check_newE {M : Model} {rest : List Value} {Q : Unit → Shared → Prop} (hcont : (Value.ref C :: bm).contains (.type "Exception") = true) (hC : h.get? C = some (excClassObj nm q C N bs bm hdct sn sub ab col dd k0 k1 k2 k3 k5 "Exception.__new__"))
    (hq : Q () ⟨h, g, d, t, os⟩) : wpAny M A (checkBuiltinCall "Exception.__new__" ⟨.ref C :: rest, []⟩) Q E ⟨h, g, d, t, os⟩ := by
  have Fn := PySem.F.excBase_Exception
  have hstar := Fn.noStar
  simp only [checkBuiltinCall, Fn.newKind, Fn.newSplit, Fn.newRow]
  repeat (first | with_reducible refine wpAny_loadPart_at hC ?_ | (with_reducible refine wpAny_isSubtype_exc hC ?_; rw [hcont]) | with_reducible refine wpAny_staticBase_exc hC ?_ | with_reducible refine wpAny_madeBy_exc hC ?_ | simp only [bne_self_eq_false, Bool.false_eq_true, if_false] | wp_step)
  exact hq
theorem code_newE {rest : List Value} (hcB : (Value.ref C :: bm).contains (.type "Exception") = true) (hcA : (Value.ref C :: bm).contains (.type "AttributeError") = false) (hcN : (Value.ref C :: bm).contains (.type "NameError") = false)
    (hC : h.get? C = some (excClassObj nm q C N bs bm hdct sn sub ab col dd k0 k1 k2 k3 k5 "Exception.__new__"))
    (hq : R (.ok (.ret (.ref (h.objs.size + 1)))) ⟨(h.push { cls := .type "tuple", data := .seq rest.toArray }).push
      { cls := .ref C, data := .fields #[.ref h.objs.size, .none, .none, .none, .bool false, .none] }, g, d, t, os⟩) (hrest : rest.length ≤ sizeLine) :
    codeAny (model prog w) A (.builtin "Exception.__new__" ⟨.ref C :: rest, []⟩) R ⟨h, g, d, t, os⟩ := by
  have Fn := PySem.F.excBase_Exception
  have hends := Fn.ends
  refine _root_.PySem.codeAny_builtinAt Fn.entry ?_
  unfold Builtin.«BaseException.__new__»
  refine _root_.PySem.wpAt_bind ?_
  show _root_.PySem.wpAt _ _ _ (stack >>= _) _ _ _
  refine _root_.PySem.wpAt_bind (_root_.PySem.wpAt_stack fun p below => _root_.PySem.wpAt_of_wpAny ?_)
  wp_walk
  refine _root_.PySem.wpAt_of_wpAny ?_
  rw [Fn.owner]
  repeat (first | with_reducible refine wpAny_madeHere_exc Fn.canon hC ?_ | with_reducible refine wpAny_loadPart_at hC ?_ | (with_reducible refine wpAny_isSubtype_exc hC ?_; first | rw [hcB] | rw [hcA] | rw [hcN]) | wp_step)
  show R _ _
  rw [Heap.size_push]
  exact hq
end
section
variable {prog : Program} {w : World} {A : Around} {E : Value → Shared → Prop} {s : Shared} {K : Frag} {C DS DF fS fF : Addr} {p : Program} {loose : List Str} {mean : ExcName → Option Value} {mg mb : Str → Option Value}
theorem make_exc {wv kv : Value} {Q : Value → Shared → Prop} (XK : ExcK K prog C DS DF fS fF) (X : K.In s.heap) (T : Top p loose mean mg mb s.heap) (hroom : A.depth + 5 < recursionLimit)
    (hq : ∀ h' tk' e (mA' : Str → Option Value), EAt s.heap h' e C (fun y => if y = "spot" then some kv else mA' y) → Q (.ref e) { s with heap := h', toks := tk' }) : wpAny (model prog w) A (call (.ref C) [wv, kv]) Q E s := by
  obtain ⟨nm, q, N, bs, bm, hdct, sn, sub, ab, col, dd, k0, k1, k2, k3, k5, hK, c1, c2, c3, c4⟩ := XK.new
  have hcB : (Value.ref C :: bm).contains (.type "Exception") = true := by rw [List.contains_cons, c1, Bool.or_true]
  have hcA : (Value.ref C :: bm).contains (.type "AttributeError") = false := by rw [List.contains_cons, c2]; rfl
  have hcN : (Value.ref C :: bm).contains (.type "NameError") = false := by rw [List.contains_cons, c3]; rfl
  obtain ⟨h, g, d, t, os⟩ := s
  have hC : h.get? C = some _ := X _ _ hK
  have f1 := tc_lookup
  have f2 := tc_bind (.ref C)
  have hT : (⟨h, g, d, t, os⟩ : Shared).TypeIs (.ref C) "type" := ⟨_, hC, rfl⟩
  refine wpAny_call (codeAny_of_tree ?_)
  show wpAny _ _ (callAny (.ref C) _) _ _ _
  repeat (any_goals (first | assumption | with_reducible refine wpAny_loadPart_at hC ?_ | wp_step))
  refine ⟨rfl, ?_⟩
  refine codeAny_call_builtin_at (Code.quiet_builtin _ (by decide +kernel)) entry_typeCall (wpAny_check_type_call_sub hC ?_)
  show wpAny _ _ (Builtin.«type.__call__» ⟨.ref C :: [wv, kv], []⟩) _ _ _
  repeat (first | with_reducible refine wpAny_loadPart_at hC ?_ | with_reducible refine wpAny_madeBy_exc hC ?_ | wp_step)
  refine codeAny_call_builtin_code (Code.quiet_builtin _ PySem.F.excBase_Exception.quiet) (check_newE hcB hC ?_)
  refine code_newE hcB hcA hcN hC ?_ (by rw [sizeLine_eq]; simp)
  show wpAny _ _ _ _ _ _
  have kk : ∀ b o, h.get? b = some o → ((h.push { cls := .type "tuple", data := .seq [wv, kv].toArray }).push { cls := .ref C, data := .fields #[.ref h.objs.size, .none, .none, .none, .bool false, .none] }).get? b = some o := fun b o e => Heap.get?_push_of_some _ (Heap.get?_push_of_some _ e)
  have hC₁ := kk _ _ hC
  have X₁ : K.In ((h.push { cls := .type "tuple", data := .seq [wv, kv].toArray }).push { cls := .ref C, data := .fields #[.ref h.objs.size, .none, .none, .none, .bool false, .none] }) := Frag.In.keeps X kk
  have hget : ((h.push { cls := .type "tuple", data := .seq [wv, kv].toArray }).push
      { cls := .ref C, data := .fields #[.ref h.objs.size, .none, .none, .none, .bool false, .none] }).get? (h.objs.size + 1) = some
      { cls := .ref C, data := .fields #[.ref h.objs.size, .none, .none, .none, .bool false, .none] } := by heap_get
  have hcC : (Value.ref C :: bm).contains (.ref C) = true := by simp
  unfold isInstance
  repeat (first | with_reducible refine wpAny_loadPart_at hget ?_ | (with_reducible refine wpAny_isSubtype_exc hC₁ ?_; rw [hcC]) | wp_step)
  show wpAny _ _ (typeLookup (.ref C) _) _ _ _
  refine Looks.at (looks_findIn X₁ XK.init) ?_
  refine wpAny_holding (wpAny_bind (Looks.at (bind_fn X₁ _ XK.fnS) ?_))
  have x0 : EAt h ((h.push { cls := .type "tuple", data := .seq [wv, kv].toArray }).push { cls := .ref C, data := .fields #[.ref h.objs.size, .none, .none, .none, .bool false, .none] }) (h.objs.size + 1) C (fun _ => none) :=
    ⟨kk, get_none_ge (Nat.le_succ _), _, _, hget, rfl, rfl, .inl ⟨rfl, fun _ => rfl⟩⟩
  refine wpAny_bind (wpAny_call (init_spot (s := ⟨(h.push { cls := .type "tuple", data := .seq [wv, kv].toArray }).push { cls := .ref C, data := .fields #[.ref h.objs.size, .none, .none, .none, .bool false, .none] }, g, d, t, os⟩) (ns := []) (show A.depth + 1 + 1 < recursionLimit by (exact ar206 hroom)) X T (by rw [Heap.size_push, Heap.size_push]; exact Nat.le_trans (Nat.le_succ _) (Nat.le_succ _)) XK x0 Within.nil (by simp) fun h' tk' mA' x' => ?_))
  refine wpAny_pure (wpAny_pure ?_)
  exact hq h' tk' _ mA' x'
theorem raise_exc {env : Env} {x : Sem Value} {Q : Flow → Shared → Prop} (XK : ExcK K prog C DS DF fS fF) (hh : A.handled = none)
    (h : wpAny (model prog w) A x (fun v s₁ => ∃ hB e mA, K.In hB ∧ v = .ref e ∧ EAt hB s₁.heap e C mA ∧ E (.ref e) s₁) E s) :
    wpAny (model prog w) A (raiseStmt env (some x) none) Q E s := by
  obtain ⟨nm, q, N, bs, bm, hdct, sn, sub, ab, col, dd, k0, k1, k2, k3, k5, hK, c1, c2, c3, c4⟩ := XK.new
  have hcB : (Value.ref C :: bm).contains (.type "BaseException") = true := by rw [List.contains_cons, c4, Bool.or_true]
  unfold raiseStmt
  refine wpAny_bind (wpAny_mono h (fun v s₁ h₁ => ?_) fun _ _ x => x)
  obtain ⟨hB, e, mA, XB, rfl, x', hE⟩ := h₁
  obtain ⟨hp, g, d, tk, os⟩ := s₁
  have hC : hp.get? C = some _ := x'.keep _ _ (XB _ _ hK)
  obtain ⟨o, tp, he, hc, hd, _⟩ := x'.obj
  obtain ⟨oc, od, odt, osl⟩ := o
  dsimp only at hc hd
  subst hc hd
  repeat (first | with_reducible refine wpAny_loadPart_at he ?_ | with_reducible refine wpAny_loadPart_at hC ?_ | (with_reducible refine wpAny_isSubtype_exc hC ?_; rw [hcB]) | wp_step)
  exact wpAny_raiseNew_none hh hE
end
end
section
open Builtin
section
variable {Γ : Cx} {A : Around} {st : List Env} {F : Fn} {L : Addr} {e : Expr} {ℓ : List (Option V)} {σ : List AObj} {E : Int → Prop}
  {s : Shared} {R : Mp} {m : Str → Option Value} {DS DF fS fF : Addr}
theorem getL_of_nsFind {es : Array DictEntry} {x : Str} {v : Value} (h : nsFind es x = some v) : getL x es.toList = some (some v) := by
  unfold nsFind findBy at h
  unfold getL
  rw [Array.find?_toList]
  cases q : es.find? (·.key.isStr x) with
  | none => rw [q] at h; cases h
  | some y => rw [q] at h; simp at h; show some (some y.val) = _; rw [h]
theorem ExcIn.of_made {σ' R' s'} {h' : Heap} {tk : Tok} {ea : Addr} {k : Int} {t : Tok} {mA : Str → Option Value} (r : Rel Γ st σ' R' s') (x : EAt s'.heap h' ea cTF (fun y => if y = "spot" then some (.int k t) else mA y)) {Lo} : ExcIn Γ st Lo (.ref ea) k { s' with heap := h', toks := tk } := by
  obtain ⟨o, tp, ho, hc, hd, h2⟩ := x.obj
  have nH : ∀ b, s'.heap.get? b = none → Γ.H.get? b = none := fun b hb => by
    cases q : Γ.H.get? b with
    | none => rfl
    | some o => rw [r.keep b o q] at hb; cases hb
  rcases h2 with ⟨_, z⟩ | ⟨dx, d1, d2, d3, ⟨od, es, ep, d4, d5, _, _, d6⟩⟩
  · have := z "spot"; simp at this
  · refine ⟨ea, dx, _, rfl, ⟨⟨o, ho, hc, d1, hd⟩, by simp, nH _ x.new, ⟨od, es, ep, t, d4, d5, getL_of_nsFind (by rw [d6]; simp)⟩, nH _ d3, d2, fun env he q => ?_, fun b o' hb => ⟨o'.slots, x.keep b o' (r.keep b o' hb), fun _ => rfl⟩, funFrames_keeps (fun b o' hb _ => x.keep b o' hb) r.frs, r.gens, r.os⟩, .inl rfl⟩
    have := funFrames_live r.frs env he dx q
    rw [d3] at this; cases this
theorem Ws.raise {Q : Fl → List (Option V) → List AObj → Prop} {x : Str} {xp cp pos : Pos} {a b : Expr} {n : Nat} (O : Γ.Ok) (OF : FnOk F) (hA : AOk A (F.env L :: st) n) (hn : 6 ≤ n) (XK : ExcK Γ.K Γ.prog cTF DS DF fS fF) (hx : (x, NameKind.globalImplicit) ∈ F.scope.names) (hg : Glb Γ.K x (.glob cTF)) (hk : keepIn Γ.K (.ref cTF) = true)
    (h : Wes Γ A st F L [a, b] cp ℓ σ (fun as σ1 => ∃ ms k, as = [.str ms, .int k] ∧ E k) E) (hp : ∀ env, (starEach [a, b] env).any (·.1) = false := by intro; rfl) :
    Ws Γ A st F L (.Raise (some (.Call (.Name x xp) [a, b] [] cp)) none pos) ℓ σ Q E := .mk fun s R m r l => by
  show wpAny _ _ (do standAt pos; raiseStmt (F.env L) (some (do let v ← eval (.Call (.Name x xp) [a, b] [] cp) (F.env L); standAt pos; pure v)) none) _ _ _
  refine wpAny_bind (wpAny_standAt ?_)
  refine raise_exc XK hA.handled ?_
  refine wpAny_bind ?_
  show wpAny _ _ (do callWith cp (← eval (.Name x xp) (F.env L)) [] (backTo cp (starEach [a, b] (F.env L))) (backToKw cp (keywordEach [] (F.env L)))) _ _ _
  refine wpAny_bind ((We.gname (Q := fun W σ1 => W = .glob cTF ∧ σ1 = σ) O OF hx hg ⟨rfl, rfl⟩).use r l fun vf s1 fv σ1 R1 P1 hvf h1 l1 => ?_)
  obtain ⟨rfl, rfl⟩ := h1
  (obtain rfl := VR.inv hvf)
  refine callWith_of (P := fun h => Γ.K.In h) (by show (_ || false) = false; rw [starEach_plain (hp _)]; rfl) (fun h' X => keeps_K hk h' X) ?_
  refine evalArgs_of (hp _) (h.use P1.rel l1 fun vs s2 as σ2 R2 P2 hvs h2 l2 => ⟨O.kin.keeps l2.fr.keep, ?_⟩)
  obtain ⟨ms, k, rfl, hE⟩ := h2
  obtain ⟨v1, vs1, rfl, a1, a2⟩ := hvs.cons_iff
  obtain ⟨v2, vs2, rfl, a3, a4⟩ := a2.cons_iff
  cases a4.nil_iff
  (obtain ⟨_, rfl⟩ := VR.inv a1); (obtain ⟨_, rfl⟩ := VR.inv a3)
  obtain ⟨mean, T⟩ := O.full
  refine make_exc XK (O.kin.keeps l2.fr.keep) (T.keeps l2.fr.keep) (by have := hA.depth; (exact ar167 hn this)) fun h' tk' ea mA' x' => ?_
  exact wpAny_bind (wpAny_standAt (wpAny_pure ⟨s2.heap, ea, _, O.kin.keeps l2.fr.keep, rfl, x', k, .of_made P2.rel x', hE⟩))
end
end
section
noncomputable def nth {α : Type} (d : α) : List α → Nat → α
  | [], _ => d
  | a :: _, 0 => a
  | _ :: r, k + 1 => nth d r k
noncomputable def clsBody : Stmt → List Stmt
  | .ClassDef _ _ _ b .. => b
  | _ => []
noncomputable def defBody : Stmt → List Stmt
  | .FunctionDef _ _ b .. => b
  | _ => []
noncomputable def noScope : Scope := { kind := .module, names := [], isGenerator := false, isCoroutine := false }
noncomputable def defScope : Stmt → Scope
  | .FunctionDef _ _ _ _ _ _ s .. => s
  | _ => noScope
noncomputable def topS (i : Nat) : Stmt := nth (.Pass ⟨0, 0, 0, 0⟩) PySem.Challenge.pw_pq0377_01.main.body i
noncomputable def meS (i j : Nat) : Stmt := nth (.Pass ⟨0, 0, 0, 0⟩) (clsBody (topS i)) j
noncomputable def fnT (q : Str) (i f : Nat) : Fn := ⟨q, defScope (topS i), f, .ref (f - 1)⟩
noncomputable def fnM (q : Str) (i j f : Nat) : Fn := ⟨q, defScope (meS i j), f, .ref (f - 1)⟩
noncomputable abbrev bT (i : Nat) : List Stmt := defBody (topS i)
noncomputable abbrev bM (i j : Nat) : List Stmt := defBody (meS i j)
noncomputable abbrev cScan : Addr := 176
noncomputable abbrev cPars : Addr := 400
noncomputable abbrev fIsTooHigh : Fn := fnT "is_too_high" 19 95
noncomputable abbrev fSInit : Fn := fnM "Scanner.__init__" 20 0 110
noncomputable abbrev fSign : Fn := fnM "Scanner.sign" 20 1 117
noncomputable abbrev fSkip : Fn := fnM "Scanner.skip" 20 2 124
noncomputable abbrev fRunOf : Fn := fnM "Scanner.run_of" 20 3 131
noncomputable abbrev fNumber : Fn := fnM "Scanner.number" 20 4 138
noncomputable abbrev fWord : Fn := fnM "Scanner.word" 20 5 145
noncomputable abbrev fInnerEnd : Fn := fnM "Scanner.inner_end" 20 6 152
noncomputable abbrev fString : Fn := fnM "Scanner.string" 20 7 159
noncomputable abbrev fMark : Fn := fnM "Scanner.mark" 20 8 166
noncomputable abbrev fTokens : Fn := fnM "Scanner.tokens" 20 9 173
noncomputable abbrev fTInit : Fn := fnM "TokenRow.__init__" 21 0 194
noncomputable abbrev fKind : Fn := fnM "TokenRow.kind" 21 1 201
noncomputable abbrev fSpot : Fn := fnM "TokenRow.spot" 21 2 208
noncomputable abbrev fTake : Fn := fnM "TokenRow.take" 21 3 215
noncomputable abbrev fIsNext : Fn := fnM "TokenRow.is_next" 21 4 222
noncomputable abbrev fTook : Fn := fnM "TokenRow.took" 21 5 229
noncomputable abbrev fWant : Fn := fnM "TokenRow.want" 21 6 236
noncomputable abbrev fLevel : Fn := fnM "ExprParser.level" 22 0 264
noncomputable abbrev fExpr : Fn := fnM "ExprParser.expr" 22 1 271
noncomputable abbrev fPutTogether : Fn := fnM "ExprParser.put_together" 22 2 278
noncomputable abbrev fOperand : Fn := fnM "ExprParser.operand" 22 3 285
noncomputable abbrev fExprs : Fn := fnM "ExprParser.exprs" 22 4 292
noncomputable abbrev fAtom : Fn := fnM "ExprParser.atom" 22 5 299
noncomputable abbrev fStringNode : Fn := fnM "ExprParser.string_node" 22 6 306
noncomputable abbrev fWhole : Fn := fnM "ExprParser.whole" 22 7 313
noncomputable abbrev fNamed : Fn := fnM "ExprParser.named" 22 8 320
noncomputable abbrev fBeginsGenerator : Fn := fnM "ExprParser.begins_generator" 22 10 334
noncomputable abbrev fExprOf : Fn := fnT "expr_of" 23 409
noncomputable abbrev fDip : Fn := fnT "_law_dip" 29 424
noncomputable abbrev fPut : Fn := fnT "_law_put" 30 431
noncomputable abbrev fPart : Fn := fnT "_law_part" 31 438
noncomputable abbrev fLstring : Fn := fnT "_law_string" 32 445
noncomputable abbrev fHeard : Fn := fnT "_law_heard" 33 452
noncomputable def KFn (K : Frag) : Prop :=
  (FnAt K fIsTooHigh ["node"] (bT 19)) ∧
  (FnAt K fSInit ["self", "text", "spot", "end", "depth"] (bM 20 0)) ∧
  (FnAt K fSign ["self"] (bM 20 1)) ∧
  (FnAt K fSkip ["self"] (bM 20 2)) ∧
  (FnAt K fRunOf ["self", "signs"] (bM 20 3)) ∧
  (FnAt K fNumber ["self"] (bM 20 4)) ∧
  (FnAt K fWord ["self"] (bM 20 5)) ∧
  (FnAt K fInnerEnd ["self", "begin"] (bM 20 6)) ∧
  (FnAt K fString ["self"] (bM 20 7)) ∧
  (FnAt K fMark ["self"] (bM 20 8)) ∧
  (FnAt K fTokens ["self"] (bM 20 9)) ∧
  (FnAt K fTInit ["self", "tokens"] (bM 21 0)) ∧
  (FnAt K fKind ["self"] (bM 21 1)) ∧
  (FnAt K fSpot ["self"] (bM 21 2)) ∧
  (FnAt K fTake ["self"] (bM 21 3)) ∧
  (FnAt K fIsNext ["self", "value"] (bM 21 4)) ∧
  (FnAt K fTook ["self", "value"] (bM 21 5)) ∧
  (FnAt K fWant ["self", "value"] (bM 21 6)) ∧
  (FnAt K fLevel ["self"] (bM 22 0)) ∧
  (FnAt K fExpr ["self"] (bM 22 1)) ∧
  (FnAt K fPutTogether ["self", "parts", "one"] (bM 22 2)) ∧
  (FnAt K fOperand ["self"] (bM 22 3)) ∧
  (FnAt K fExprs ["self", "close"] (bM 22 4)) ∧
  (FnAt K fAtom ["self"] (bM 22 5)) ∧
  (FnAt K fStringNode ["self", "spot", "pieces"] (bM 22 6)) ∧
  (FnAt K fWhole ["self"] (bM 22 7)) ∧
  (FnAt K fNamed ["self", "spot", "name"] (bM 22 8)) ∧
  (FnAt K fBeginsGenerator ["self"] (bM 22 10)) ∧
  (FnAt K fExprOf ["text"] (bT 23)) ∧
  (FnAt K fDip ["feed", "many"] (bT 29)) ∧
  (FnAt K fPut ["feed", "piece"] (bT 30)) ∧
  (FnAt K fPart ["feed", "floors"] (bT 31)) ∧
  (FnAt K fLstring ["feed", "floors"] (bT 32)) ∧
  (FnAt K fHeard ["text"] (bT 33)) ∧
  (FnAt K fSInit ["self", "text", "spot", "end", "depth"] (bM 20 0) [.int 0 493] [.int 0])
noncomputable def KAt (K : Frag) (prog : Program) : Prop :=
  (DataAttr K cScan "text") ∧
  (SetAttr K cScan "text") ∧
  (DataAttr K cScan "spot") ∧
  (SetAttr K cScan "spot") ∧
  (DataAttr K cScan "end") ∧
  (SetAttr K cScan "end") ∧
  (DataAttr K cScan "depth") ∧
  (SetAttr K cScan "depth") ∧
  (DataAttr K cPars "tokens") ∧
  (SetAttr K cPars "tokens") ∧
  (DataAttr K cPars "place") ∧
  (SetAttr K cPars "place") ∧
  (DataAttr K cPars "depth") ∧
  (SetAttr K cPars "depth") ∧
  (MethAt K cScan "sign" 117) ∧
  (MethAt K cScan "skip" 124) ∧
  (MethAt K cScan "run_of" 131) ∧
  (MethAt K cScan "number" 138) ∧
  (MethAt K cScan "word" 145) ∧
  (MethAt K cScan "inner_end" 152) ∧
  (MethAt K cScan "string" 159) ∧
  (MethAt K cScan "mark" 166) ∧
  (MethAt K cScan "tokens" 173) ∧
  (MethAt K cPars "kind" 201) ∧
  (MethAt K cPars "spot" 208) ∧
  (MethAt K cPars "take" 215) ∧
  (MethAt K cPars "is_next" 222) ∧
  (MethAt K cPars "took" 229) ∧
  (MethAt K cPars "want" 236) ∧
  (MethAt K cPars "level" 264) ∧
  (MethAt K cPars "expr" 271) ∧
  (MethAt K cPars "put_together" 278) ∧
  (MethAt K cPars "operand" 285) ∧
  (MethAt K cPars "exprs" 292) ∧
  (MethAt K cPars "atom" 299) ∧
  (MethAt K cPars "string_node" 306) ∧
  (MethAt K cPars "whole" 313) ∧
  (MethAt K cPars "named" 320) ∧
  (MethAt K cPars "begins_generator" 334) ∧
  (ClsAt K cScan 110) ∧
  (ClsAt K cPars 194) ∧
  (ExcK K prog cTF 69 40 59 30) ∧
  (keepIn K (.ref 95) = true) ∧
  (keepIn K (.ref 110) = true) ∧
  (keepIn K (.ref 117) = true) ∧
  (keepIn K (.ref 124) = true) ∧
  (keepIn K (.ref 131) = true) ∧
  (keepIn K (.ref 138) = true) ∧
  (keepIn K (.ref 145) = true) ∧
  (keepIn K (.ref 152) = true) ∧
  (keepIn K (.ref 159) = true) ∧
  (keepIn K (.ref 166) = true) ∧
  (keepIn K (.ref 173) = true) ∧
  (keepIn K (.ref 194) = true) ∧
  (keepIn K (.ref 201) = true) ∧
  (keepIn K (.ref 208) = true) ∧
  (keepIn K (.ref 215) = true) ∧
  (keepIn K (.ref 222) = true) ∧
  (keepIn K (.ref 229) = true) ∧
  (keepIn K (.ref 236) = true) ∧
  (keepIn K (.ref 264) = true) ∧
  (keepIn K (.ref 271) = true) ∧
  (keepIn K (.ref 278) = true) ∧
  (keepIn K (.ref 285) = true) ∧
  (keepIn K (.ref 292) = true) ∧
  (keepIn K (.ref 299) = true) ∧
  (keepIn K (.ref 306) = true) ∧
  (keepIn K (.ref 313) = true) ∧
  (keepIn K (.ref 320) = true) ∧
  (keepIn K (.ref 334) = true) ∧
  (keepIn K (.ref 409) = true) ∧
  (keepIn K (.ref 424) = true) ∧
  (keepIn K (.ref 431) = true) ∧
  (keepIn K (.ref 438) = true) ∧
  (keepIn K (.ref 445) = true) ∧
  (keepIn K (.ref 452) = true) ∧
  (keepIn K (.ref cScan) = true) ∧
  (keepIn K (.ref cPars) = true) ∧
  (keepIn K (.ref cTF) = true)
noncomputable def signsL : List PySem.Str := "(" :: ")" :: "," :: ";" :: "]" :: "{" :: "}" :: "<->" :: "->" :: "<-" :: "\\/" :: "/\\" :: "<=" :: ">=" :: "==" :: "!=" :: ".." :: "++" :: "::" :: "[|" :: "|]" :: "[" :: "|" :: "<" :: ">" :: "=" :: "+" :: "-" :: "*" :: "^" :: ":" :: []
noncomputable def wordsL : List PySem.Str := "array" :: "bool" :: "constraint" :: "diff" :: "div" :: "else" :: "elseif" :: "endif" :: "false" :: "if" :: "in" :: "include" :: "int" :: "intersect" :: "let" :: "maximize" :: "minimize" :: "mod" :: "not" :: "of" :: "output" :: "par" :: "predicate" :: "satisfy" :: "set" :: "solve" :: "string" :: "subset" :: "superset" :: "symdiff" :: "test" :: "then" :: "true" :: "union" :: "var" :: "where" :: "xor" :: []
noncomputable def gapsL : List PySem.Str := " " :: "\n" :: "%)\"\n" :: "/*(\"*/" :: " /*\\(*/ " :: []
noncomputable def loneL : List PySem.Str := "a" :: "(" :: ")" :: "%" :: "/*" :: "'" :: "]" :: []
noncomputable def lwordsL : List PySem.Str := "x" :: "s2" :: "show" :: []
noncomputable def KGl (K : Frag) (P : Params) : Prop :=
  (Glb K "BLANKS" (.str " \t\r\n")) ∧
  (Glb K "FIGURES" (.str "0123456789")) ∧
  (Glb K "LETTERS" (.str "abcdefghijklmnopqrstuvwxyzABCDEFGHIJKLMNOPQRSTUVWXYZ")) ∧
  (Glb K "MOST_FIGURES" (.int 60)) ∧
  (Glb K "MOST_DEPTH" (.int 40)) ∧
  (Glb K "MOST_HEIGHT" (.int 200)) ∧
  (Glb K "MOST_STRINGS" (.int 4)) ∧
  (Glb K "RIGHT_LEVEL" (.int 12)) ∧
  (Glb K "SIGNS" (.tup (signsL.map .str))) ∧
  (Glb K "WORDS" (.tup (wordsL.map .str))) ∧
  (Glb K "SINGLE_LEVELS" (.tup [.int 5, .int 6, .int 8])) ∧
  (Glb K "_law_gaps" (.tup (gapsL.map .str))) ∧
  (Glb K "_law_lone" (.tup (loneL.map .str))) ∧
  (Glb K "_law_words" (.tup (lwordsL.map .str))) ∧
  (Glb K "_law_escapes" (.tup [.tup [.str "\\\"", .str "\""], .tup [.str "\\\\", .str "\\"], .tup [.str "\\n", .str "\n"], .tup [.str "\\t", .str "\t"]])) ∧
  (Glb K "LEVELS" (.glob 86)) ∧
  (Glb K "ESCAPES" (.glob 90)) ∧
  (Glb K "Scanner" (.glob 176)) ∧
  (Glb K "TextFault" (.glob 81)) ∧
  (Glb K "ExprParser" (.glob 400)) ∧
  (Glb K "is_too_high" (.glob 95)) ∧
  (Glb K "expr_of" (.glob 409)) ∧
  (Glb K "_law_dip" (.glob 424)) ∧
  (Glb K "_law_put" (.glob 431)) ∧
  (Glb K "_law_part" (.glob 438)) ∧
  (Glb K "_law_string" (.glob 445)) ∧
  (Glb K "_law_heard" (.glob 452)) ∧
  (Glb K "len" (.blt "len")) ∧
  (Glb K "isinstance" (.blt "isinstance")) ∧
  (Glb K "abs" (.blt "abs")) ∧
  (Glb K "int" (.typ "int")) ∧
  (Glb K "str" (.typ "str")) ∧
  (Glb K "tuple" (.typ "tuple")) ∧
  (Glb K "range" (.typ "range")) ∧
  (∃ es n, K.lookup 90 = some ⟨.type "dict", none, .dict es n, #[]⟩ ∧ KeysLit P es.toList) ∧
  (∃ es n, K.lookup 86 = some ⟨.type "dict", none, .dict es n, #[]⟩ ∧ KeysLit P es.toList) ∧
  (∃ v, nsIn K 90 "n" = some (some v) ∧ CR K v (.str "\n")) ∧
  (∃ v, nsIn K 90 "t" = some (some v) ∧ CR K v (.str "\t")) ∧
  (∃ v, nsIn K 90 "\"" = some (some v) ∧ CR K v (.str "\"")) ∧
  (∃ v, nsIn K 90 "\\" = some (some v) ∧ CR K v (.str "\\")) ∧
  (∃ v, nsIn K 86 "+" = some (some v) ∧ CR K v (.int 9)) ∧
  (∃ v, nsIn K 86 "++" = some (some v) ∧ CR K v (.int 12)) ∧
  (nsIn K 86 "(" = some none) ∧
  (nsIn K 86 ")" = some none)
noncomputable def KF (K : Frag) (P : Params) (prog : Program) : Prop := KFn K ∧ KAt K prog ∧ KGl K P
section
variable {K : Frag} {P : Params} {prog : Program}
theorem KF.isTooHigh (h : KF K P prog) : FnAt K fIsTooHigh ["node"] (bT 19) := h.1.1
theorem KF.sInit (h : KF K P prog) : FnAt K fSInit ["self", "text", "spot", "end", "depth"] (bM 20 0) := h.1.2.1
theorem KF.sign (h : KF K P prog) : FnAt K fSign ["self"] (bM 20 1) := h.1.2.2.1
theorem KF.skip (h : KF K P prog) : FnAt K fSkip ["self"] (bM 20 2) := h.1.2.2.2.1
theorem KF.runOf (h : KF K P prog) : FnAt K fRunOf ["self", "signs"] (bM 20 3) := h.1.2.2.2.2.1
theorem KF.number (h : KF K P prog) : FnAt K fNumber ["self"] (bM 20 4) := h.1.2.2.2.2.2.1
theorem KF.word (h : KF K P prog) : FnAt K fWord ["self"] (bM 20 5) := h.1.2.2.2.2.2.2.1
theorem KF.innerEnd (h : KF K P prog) : FnAt K fInnerEnd ["self", "begin"] (bM 20 6) := h.1.2.2.2.2.2.2.2.1
theorem KF.string (h : KF K P prog) : FnAt K fString ["self"] (bM 20 7) := h.1.2.2.2.2.2.2.2.2.1
theorem KF.mark (h : KF K P prog) : FnAt K fMark ["self"] (bM 20 8) := h.1.2.2.2.2.2.2.2.2.2.1
theorem KF.tokens (h : KF K P prog) : FnAt K fTokens ["self"] (bM 20 9) := h.1.2.2.2.2.2.2.2.2.2.2.1
theorem KF.tInit (h : KF K P prog) : FnAt K fTInit ["self", "tokens"] (bM 21 0) := h.1.2.2.2.2.2.2.2.2.2.2.2.1
theorem KF.kind (h : KF K P prog) : FnAt K fKind ["self"] (bM 21 1) := h.1.2.2.2.2.2.2.2.2.2.2.2.2.1
theorem KF.spot (h : KF K P prog) : FnAt K fSpot ["self"] (bM 21 2) := h.1.2.2.2.2.2.2.2.2.2.2.2.2.2.1
theorem KF.take (h : KF K P prog) : FnAt K fTake ["self"] (bM 21 3) := h.1.2.2.2.2.2.2.2.2.2.2.2.2.2.2.1
theorem KF.isNext (h : KF K P prog) : FnAt K fIsNext ["self", "value"] (bM 21 4) := h.1.2.2.2.2.2.2.2.2.2.2.2.2.2.2.2.1
theorem KF.took (h : KF K P prog) : FnAt K fTook ["self", "value"] (bM 21 5) := h.1.2.2.2.2.2.2.2.2.2.2.2.2.2.2.2.2.1
theorem KF.want (h : KF K P prog) : FnAt K fWant ["self", "value"] (bM 21 6) := h.1.2.2.2.2.2.2.2.2.2.2.2.2.2.2.2.2.2.1
theorem KF.level (h : KF K P prog) : FnAt K fLevel ["self"] (bM 22 0) := h.1.2.2.2.2.2.2.2.2.2.2.2.2.2.2.2.2.2.2.1
theorem KF.expr (h : KF K P prog) : FnAt K fExpr ["self"] (bM 22 1) := h.1.2.2.2.2.2.2.2.2.2.2.2.2.2.2.2.2.2.2.2.1
theorem KF.putTogether (h : KF K P prog) : FnAt K fPutTogether ["self", "parts", "one"] (bM 22 2) := h.1.2.2.2.2.2.2.2.2.2.2.2.2.2.2.2.2.2.2.2.2.1
theorem KF.operand (h : KF K P prog) : FnAt K fOperand ["self"] (bM 22 3) := h.1.2.2.2.2.2.2.2.2.2.2.2.2.2.2.2.2.2.2.2.2.2.1
theorem KF.exprs (h : KF K P prog) : FnAt K fExprs ["self", "close"] (bM 22 4) := h.1.2.2.2.2.2.2.2.2.2.2.2.2.2.2.2.2.2.2.2.2.2.2.1
theorem KF.atom (h : KF K P prog) : FnAt K fAtom ["self"] (bM 22 5) := h.1.2.2.2.2.2.2.2.2.2.2.2.2.2.2.2.2.2.2.2.2.2.2.2.1
theorem KF.stringNode (h : KF K P prog) : FnAt K fStringNode ["self", "spot", "pieces"] (bM 22 6) := h.1.2.2.2.2.2.2.2.2.2.2.2.2.2.2.2.2.2.2.2.2.2.2.2.2.1
theorem KF.whole (h : KF K P prog) : FnAt K fWhole ["self"] (bM 22 7) := h.1.2.2.2.2.2.2.2.2.2.2.2.2.2.2.2.2.2.2.2.2.2.2.2.2.2.1
theorem KF.named (h : KF K P prog) : FnAt K fNamed ["self", "spot", "name"] (bM 22 8) := h.1.2.2.2.2.2.2.2.2.2.2.2.2.2.2.2.2.2.2.2.2.2.2.2.2.2.2.1
theorem KF.beginsGenerator (h : KF K P prog) : FnAt K fBeginsGenerator ["self"] (bM 22 10) := h.1.2.2.2.2.2.2.2.2.2.2.2.2.2.2.2.2.2.2.2.2.2.2.2.2.2.2.2.1
theorem KF.exprOf (h : KF K P prog) : FnAt K fExprOf ["text"] (bT 23) := h.1.2.2.2.2.2.2.2.2.2.2.2.2.2.2.2.2.2.2.2.2.2.2.2.2.2.2.2.2.1
theorem KF.dip (h : KF K P prog) : FnAt K fDip ["feed", "many"] (bT 29) := h.1.2.2.2.2.2.2.2.2.2.2.2.2.2.2.2.2.2.2.2.2.2.2.2.2.2.2.2.2.2.1
theorem KF.put (h : KF K P prog) : FnAt K fPut ["feed", "piece"] (bT 30) := h.1.2.2.2.2.2.2.2.2.2.2.2.2.2.2.2.2.2.2.2.2.2.2.2.2.2.2.2.2.2.2.1
theorem KF.part (h : KF K P prog) : FnAt K fPart ["feed", "floors"] (bT 31) := h.1.2.2.2.2.2.2.2.2.2.2.2.2.2.2.2.2.2.2.2.2.2.2.2.2.2.2.2.2.2.2.2.1
theorem KF.lstring (h : KF K P prog) : FnAt K fLstring ["feed", "floors"] (bT 32) := h.1.2.2.2.2.2.2.2.2.2.2.2.2.2.2.2.2.2.2.2.2.2.2.2.2.2.2.2.2.2.2.2.2.1
theorem KF.heard (h : KF K P prog) : FnAt K fHeard ["text"] (bT 33) := h.1.2.2.2.2.2.2.2.2.2.2.2.2.2.2.2.2.2.2.2.2.2.2.2.2.2.2.2.2.2.2.2.2.2.1
theorem KF.sInit3 (h : KF K P prog) : FnAt K fSInit ["self", "text", "spot", "end", "depth"] (bM 20 0) [.int 0 493] [.int 0] := h.1.2.2.2.2.2.2.2.2.2.2.2.2.2.2.2.2.2.2.2.2.2.2.2.2.2.2.2.2.2.2.2.2.2.2
theorem KF.sText (h : KF K P prog) : DataAttr K cScan "text" := h.2.1.1
theorem KF.ssText (h : KF K P prog) : SetAttr K cScan "text" := h.2.1.2.1
theorem KF.sSpot (h : KF K P prog) : DataAttr K cScan "spot" := h.2.1.2.2.1
theorem KF.ssSpot (h : KF K P prog) : SetAttr K cScan "spot" := h.2.1.2.2.2.1
theorem KF.sEnd (h : KF K P prog) : DataAttr K cScan "end" := h.2.1.2.2.2.2.1
theorem KF.ssEnd (h : KF K P prog) : SetAttr K cScan "end" := h.2.1.2.2.2.2.2.1
theorem KF.sDepth (h : KF K P prog) : DataAttr K cScan "depth" := h.2.1.2.2.2.2.2.2.1
theorem KF.ssDepth (h : KF K P prog) : SetAttr K cScan "depth" := h.2.1.2.2.2.2.2.2.2.1
theorem KF.pTokens (h : KF K P prog) : DataAttr K cPars "tokens" := h.2.1.2.2.2.2.2.2.2.2.1
theorem KF.spTokens (h : KF K P prog) : SetAttr K cPars "tokens" := h.2.1.2.2.2.2.2.2.2.2.2.1
theorem KF.pPlace (h : KF K P prog) : DataAttr K cPars "place" := h.2.1.2.2.2.2.2.2.2.2.2.2.1
theorem KF.spPlace (h : KF K P prog) : SetAttr K cPars "place" := h.2.1.2.2.2.2.2.2.2.2.2.2.2.1
theorem KF.pDepth (h : KF K P prog) : DataAttr K cPars "depth" := h.2.1.2.2.2.2.2.2.2.2.2.2.2.2.1
theorem KF.spDepth (h : KF K P prog) : SetAttr K cPars "depth" := h.2.1.2.2.2.2.2.2.2.2.2.2.2.2.2.1
theorem KF.mSign (h : KF K P prog) : MethAt K cScan "sign" 117 := h.2.1.2.2.2.2.2.2.2.2.2.2.2.2.2.2.1
theorem KF.mSkip (h : KF K P prog) : MethAt K cScan "skip" 124 := h.2.1.2.2.2.2.2.2.2.2.2.2.2.2.2.2.2.1
theorem KF.mRunOf (h : KF K P prog) : MethAt K cScan "run_of" 131 := h.2.1.2.2.2.2.2.2.2.2.2.2.2.2.2.2.2.2.1
theorem KF.mNumber (h : KF K P prog) : MethAt K cScan "number" 138 := h.2.1.2.2.2.2.2.2.2.2.2.2.2.2.2.2.2.2.2.1
theorem KF.mWord (h : KF K P prog) : MethAt K cScan "word" 145 := h.2.1.2.2.2.2.2.2.2.2.2.2.2.2.2.2.2.2.2.2.1
theorem KF.mInnerEnd (h : KF K P prog) : MethAt K cScan "inner_end" 152 := h.2.1.2.2.2.2.2.2.2.2.2.2.2.2.2.2.2.2.2.2.2.1
theorem KF.mString (h : KF K P prog) : MethAt K cScan "string" 159 := h.2.1.2.2.2.2.2.2.2.2.2.2.2.2.2.2.2.2.2.2.2.2.1
theorem KF.mMark (h : KF K P prog) : MethAt K cScan "mark" 166 := h.2.1.2.2.2.2.2.2.2.2.2.2.2.2.2.2.2.2.2.2.2.2.2.1
theorem KF.mTokens (h : KF K P prog) : MethAt K cScan "tokens" 173 := h.2.1.2.2.2.2.2.2.2.2.2.2.2.2.2.2.2.2.2.2.2.2.2.2.1
theorem KF.mKind (h : KF K P prog) : MethAt K cPars "kind" 201 := h.2.1.2.2.2.2.2.2.2.2.2.2.2.2.2.2.2.2.2.2.2.2.2.2.2.1
theorem KF.mSpot (h : KF K P prog) : MethAt K cPars "spot" 208 := h.2.1.2.2.2.2.2.2.2.2.2.2.2.2.2.2.2.2.2.2.2.2.2.2.2.2.1
theorem KF.mTake (h : KF K P prog) : MethAt K cPars "take" 215 := h.2.1.2.2.2.2.2.2.2.2.2.2.2.2.2.2.2.2.2.2.2.2.2.2.2.2.2.1
theorem KF.mIsNext (h : KF K P prog) : MethAt K cPars "is_next" 222 := h.2.1.2.2.2.2.2.2.2.2.2.2.2.2.2.2.2.2.2.2.2.2.2.2.2.2.2.2.1
theorem KF.mTook (h : KF K P prog) : MethAt K cPars "took" 229 := h.2.1.2.2.2.2.2.2.2.2.2.2.2.2.2.2.2.2.2.2.2.2.2.2.2.2.2.2.2.1
theorem KF.mWant (h : KF K P prog) : MethAt K cPars "want" 236 := h.2.1.2.2.2.2.2.2.2.2.2.2.2.2.2.2.2.2.2.2.2.2.2.2.2.2.2.2.2.2.1
theorem KF.mLevel (h : KF K P prog) : MethAt K cPars "level" 264 := h.2.1.2.2.2.2.2.2.2.2.2.2.2.2.2.2.2.2.2.2.2.2.2.2.2.2.2.2.2.2.2.1
theorem KF.mExpr (h : KF K P prog) : MethAt K cPars "expr" 271 := h.2.1.2.2.2.2.2.2.2.2.2.2.2.2.2.2.2.2.2.2.2.2.2.2.2.2.2.2.2.2.2.2.1
theorem KF.mPutTogether (h : KF K P prog) : MethAt K cPars "put_together" 278 := h.2.1.2.2.2.2.2.2.2.2.2.2.2.2.2.2.2.2.2.2.2.2.2.2.2.2.2.2.2.2.2.2.2.1
theorem KF.mOperand (h : KF K P prog) : MethAt K cPars "operand" 285 := h.2.1.2.2.2.2.2.2.2.2.2.2.2.2.2.2.2.2.2.2.2.2.2.2.2.2.2.2.2.2.2.2.2.2.1
theorem KF.mExprs (h : KF K P prog) : MethAt K cPars "exprs" 292 := h.2.1.2.2.2.2.2.2.2.2.2.2.2.2.2.2.2.2.2.2.2.2.2.2.2.2.2.2.2.2.2.2.2.2.2.1
theorem KF.mAtom (h : KF K P prog) : MethAt K cPars "atom" 299 := h.2.1.2.2.2.2.2.2.2.2.2.2.2.2.2.2.2.2.2.2.2.2.2.2.2.2.2.2.2.2.2.2.2.2.2.2.1
theorem KF.mStringNode (h : KF K P prog) : MethAt K cPars "string_node" 306 := h.2.1.2.2.2.2.2.2.2.2.2.2.2.2.2.2.2.2.2.2.2.2.2.2.2.2.2.2.2.2.2.2.2.2.2.2.2.1
theorem KF.mWhole (h : KF K P prog) : MethAt K cPars "whole" 313 := h.2.1.2.2.2.2.2.2.2.2.2.2.2.2.2.2.2.2.2.2.2.2.2.2.2.2.2.2.2.2.2.2.2.2.2.2.2.2.1
theorem KF.mNamed (h : KF K P prog) : MethAt K cPars "named" 320 := h.2.1.2.2.2.2.2.2.2.2.2.2.2.2.2.2.2.2.2.2.2.2.2.2.2.2.2.2.2.2.2.2.2.2.2.2.2.2.2.1
theorem KF.mBeginsGenerator (h : KF K P prog) : MethAt K cPars "begins_generator" 334 := h.2.1.2.2.2.2.2.2.2.2.2.2.2.2.2.2.2.2.2.2.2.2.2.2.2.2.2.2.2.2.2.2.2.2.2.2.2.2.2.2.1
theorem KF.clScan (h : KF K P prog) : ClsAt K cScan 110 := h.2.1.2.2.2.2.2.2.2.2.2.2.2.2.2.2.2.2.2.2.2.2.2.2.2.2.2.2.2.2.2.2.2.2.2.2.2.2.2.2.2.1
theorem KF.clPars (h : KF K P prog) : ClsAt K cPars 194 := h.2.1.2.2.2.2.2.2.2.2.2.2.2.2.2.2.2.2.2.2.2.2.2.2.2.2.2.2.2.2.2.2.2.2.2.2.2.2.2.2.2.2.1
theorem KF.exc (h : KF K P prog) : ExcK K prog cTF 69 40 59 30 := h.2.1.2.2.2.2.2.2.2.2.2.2.2.2.2.2.2.2.2.2.2.2.2.2.2.2.2.2.2.2.2.2.2.2.2.2.2.2.2.2.2.2.2.1
theorem KF.kIsTooHigh (h : KF K P prog) : keepIn K (.ref 95) = true := h.2.1.2.2.2.2.2.2.2.2.2.2.2.2.2.2.2.2.2.2.2.2.2.2.2.2.2.2.2.2.2.2.2.2.2.2.2.2.2.2.2.2.2.2.1
theorem KF.kSInit (h : KF K P prog) : keepIn K (.ref 110) = true := h.2.1.2.2.2.2.2.2.2.2.2.2.2.2.2.2.2.2.2.2.2.2.2.2.2.2.2.2.2.2.2.2.2.2.2.2.2.2.2.2.2.2.2.2.2.1
theorem KF.kSign (h : KF K P prog) : keepIn K (.ref 117) = true := h.2.1.2.2.2.2.2.2.2.2.2.2.2.2.2.2.2.2.2.2.2.2.2.2.2.2.2.2.2.2.2.2.2.2.2.2.2.2.2.2.2.2.2.2.2.2.1
theorem KF.kSkip (h : KF K P prog) : keepIn K (.ref 124) = true := h.2.1.2.2.2.2.2.2.2.2.2.2.2.2.2.2.2.2.2.2.2.2.2.2.2.2.2.2.2.2.2.2.2.2.2.2.2.2.2.2.2.2.2.2.2.2.2.1
theorem KF.kRunOf (h : KF K P prog) : keepIn K (.ref 131) = true := h.2.1.2.2.2.2.2.2.2.2.2.2.2.2.2.2.2.2.2.2.2.2.2.2.2.2.2.2.2.2.2.2.2.2.2.2.2.2.2.2.2.2.2.2.2.2.2.2.1
theorem KF.kNumber (h : KF K P prog) : keepIn K (.ref 138) = true := h.2.1.2.2.2.2.2.2.2.2.2.2.2.2.2.2.2.2.2.2.2.2.2.2.2.2.2.2.2.2.2.2.2.2.2.2.2.2.2.2.2.2.2.2.2.2.2.2.2.1
theorem KF.kWord (h : KF K P prog) : keepIn K (.ref 145) = true := h.2.1.2.2.2.2.2.2.2.2.2.2.2.2.2.2.2.2.2.2.2.2.2.2.2.2.2.2.2.2.2.2.2.2.2.2.2.2.2.2.2.2.2.2.2.2.2.2.2.2.1
theorem KF.kInnerEnd (h : KF K P prog) : keepIn K (.ref 152) = true := h.2.1.2.2.2.2.2.2.2.2.2.2.2.2.2.2.2.2.2.2.2.2.2.2.2.2.2.2.2.2.2.2.2.2.2.2.2.2.2.2.2.2.2.2.2.2.2.2.2.2.2.1
theorem KF.kString (h : KF K P prog) : keepIn K (.ref 159) = true := h.2.1.2.2.2.2.2.2.2.2.2.2.2.2.2.2.2.2.2.2.2.2.2.2.2.2.2.2.2.2.2.2.2.2.2.2.2.2.2.2.2.2.2.2.2.2.2.2.2.2.2.2.1
theorem KF.kMark (h : KF K P prog) : keepIn K (.ref 166) = true := h.2.1.2.2.2.2.2.2.2.2.2.2.2.2.2.2.2.2.2.2.2.2.2.2.2.2.2.2.2.2.2.2.2.2.2.2.2.2.2.2.2.2.2.2.2.2.2.2.2.2.2.2.2.1
theorem KF.kTokens (h : KF K P prog) : keepIn K (.ref 173) = true := h.2.1.2.2.2.2.2.2.2.2.2.2.2.2.2.2.2.2.2.2.2.2.2.2.2.2.2.2.2.2.2.2.2.2.2.2.2.2.2.2.2.2.2.2.2.2.2.2.2.2.2.2.2.2.1
theorem KF.kTInit (h : KF K P prog) : keepIn K (.ref 194) = true := h.2.1.2.2.2.2.2.2.2.2.2.2.2.2.2.2.2.2.2.2.2.2.2.2.2.2.2.2.2.2.2.2.2.2.2.2.2.2.2.2.2.2.2.2.2.2.2.2.2.2.2.2.2.2.2.1
theorem KF.kKind (h : KF K P prog) : keepIn K (.ref 201) = true := h.2.1.2.2.2.2.2.2.2.2.2.2.2.2.2.2.2.2.2.2.2.2.2.2.2.2.2.2.2.2.2.2.2.2.2.2.2.2.2.2.2.2.2.2.2.2.2.2.2.2.2.2.2.2.2.2.1
theorem KF.kSpot (h : KF K P prog) : keepIn K (.ref 208) = true := h.2.1.2.2.2.2.2.2.2.2.2.2.2.2.2.2.2.2.2.2.2.2.2.2.2.2.2.2.2.2.2.2.2.2.2.2.2.2.2.2.2.2.2.2.2.2.2.2.2.2.2.2.2.2.2.2.2.1
theorem KF.kTake (h : KF K P prog) : keepIn K (.ref 215) = true := h.2.1.2.2.2.2.2.2.2.2.2.2.2.2.2.2.2.2.2.2.2.2.2.2.2.2.2.2.2.2.2.2.2.2.2.2.2.2.2.2.2.2.2.2.2.2.2.2.2.2.2.2.2.2.2.2.2.2.1
theorem KF.kIsNext (h : KF K P prog) : keepIn K (.ref 222) = true := h.2.1.2.2.2.2.2.2.2.2.2.2.2.2.2.2.2.2.2.2.2.2.2.2.2.2.2.2.2.2.2.2.2.2.2.2.2.2.2.2.2.2.2.2.2.2.2.2.2.2.2.2.2.2.2.2.2.2.2.1
theorem KF.kTook (h : KF K P prog) : keepIn K (.ref 229) = true := h.2.1.2.2.2.2.2.2.2.2.2.2.2.2.2.2.2.2.2.2.2.2.2.2.2.2.2.2.2.2.2.2.2.2.2.2.2.2.2.2.2.2.2.2.2.2.2.2.2.2.2.2.2.2.2.2.2.2.2.2.1
theorem KF.kWant (h : KF K P prog) : keepIn K (.ref 236) = true := h.2.1.2.2.2.2.2.2.2.2.2.2.2.2.2.2.2.2.2.2.2.2.2.2.2.2.2.2.2.2.2.2.2.2.2.2.2.2.2.2.2.2.2.2.2.2.2.2.2.2.2.2.2.2.2.2.2.2.2.2.2.1
theorem KF.kLevel (h : KF K P prog) : keepIn K (.ref 264) = true := h.2.1.2.2.2.2.2.2.2.2.2.2.2.2.2.2.2.2.2.2.2.2.2.2.2.2.2.2.2.2.2.2.2.2.2.2.2.2.2.2.2.2.2.2.2.2.2.2.2.2.2.2.2.2.2.2.2.2.2.2.2.2.1
theorem KF.kExpr (h : KF K P prog) : keepIn K (.ref 271) = true := h.2.1.2.2.2.2.2.2.2.2.2.2.2.2.2.2.2.2.2.2.2.2.2.2.2.2.2.2.2.2.2.2.2.2.2.2.2.2.2.2.2.2.2.2.2.2.2.2.2.2.2.2.2.2.2.2.2.2.2.2.2.2.2.1
theorem KF.kPutTogether (h : KF K P prog) : keepIn K (.ref 278) = true := h.2.1.2.2.2.2.2.2.2.2.2.2.2.2.2.2.2.2.2.2.2.2.2.2.2.2.2.2.2.2.2.2.2.2.2.2.2.2.2.2.2.2.2.2.2.2.2.2.2.2.2.2.2.2.2.2.2.2.2.2.2.2.2.2.1
theorem KF.kOperand (h : KF K P prog) : keepIn K (.ref 285) = true := h.2.1.2.2.2.2.2.2.2.2.2.2.2.2.2.2.2.2.2.2.2.2.2.2.2.2.2.2.2.2.2.2.2.2.2.2.2.2.2.2.2.2.2.2.2.2.2.2.2.2.2.2.2.2.2.2.2.2.2.2.2.2.2.2.2.1
theorem KF.kExprs (h : KF K P prog) : keepIn K (.ref 292) = true := h.2.1.2.2.2.2.2.2.2.2.2.2.2.2.2.2.2.2.2.2.2.2.2.2.2.2.2.2.2.2.2.2.2.2.2.2.2.2.2.2.2.2.2.2.2.2.2.2.2.2.2.2.2.2.2.2.2.2.2.2.2.2.2.2.2.2.1
theorem KF.kAtom (h : KF K P prog) : keepIn K (.ref 299) = true := h.2.1.2.2.2.2.2.2.2.2.2.2.2.2.2.2.2.2.2.2.2.2.2.2.2.2.2.2.2.2.2.2.2.2.2.2.2.2.2.2.2.2.2.2.2.2.2.2.2.2.2.2.2.2.2.2.2.2.2.2.2.2.2.2.2.2.2.1
theorem KF.kStringNode (h : KF K P prog) : keepIn K (.ref 306) = true := h.2.1.2.2.2.2.2.2.2.2.2.2.2.2.2.2.2.2.2.2.2.2.2.2.2.2.2.2.2.2.2.2.2.2.2.2.2.2.2.2.2.2.2.2.2.2.2.2.2.2.2.2.2.2.2.2.2.2.2.2.2.2.2.2.2.2.2.2.1
theorem KF.kWhole (h : KF K P prog) : keepIn K (.ref 313) = true := h.2.1.2.2.2.2.2.2.2.2.2.2.2.2.2.2.2.2.2.2.2.2.2.2.2.2.2.2.2.2.2.2.2.2.2.2.2.2.2.2.2.2.2.2.2.2.2.2.2.2.2.2.2.2.2.2.2.2.2.2.2.2.2.2.2.2.2.2.2.1
theorem KF.kNamed (h : KF K P prog) : keepIn K (.ref 320) = true := h.2.1.2.2.2.2.2.2.2.2.2.2.2.2.2.2.2.2.2.2.2.2.2.2.2.2.2.2.2.2.2.2.2.2.2.2.2.2.2.2.2.2.2.2.2.2.2.2.2.2.2.2.2.2.2.2.2.2.2.2.2.2.2.2.2.2.2.2.2.2.1
theorem KF.kBeginsGenerator (h : KF K P prog) : keepIn K (.ref 334) = true := h.2.1.2.2.2.2.2.2.2.2.2.2.2.2.2.2.2.2.2.2.2.2.2.2.2.2.2.2.2.2.2.2.2.2.2.2.2.2.2.2.2.2.2.2.2.2.2.2.2.2.2.2.2.2.2.2.2.2.2.2.2.2.2.2.2.2.2.2.2.2.2.1
theorem KF.kExprOf (h : KF K P prog) : keepIn K (.ref 409) = true := h.2.1.2.2.2.2.2.2.2.2.2.2.2.2.2.2.2.2.2.2.2.2.2.2.2.2.2.2.2.2.2.2.2.2.2.2.2.2.2.2.2.2.2.2.2.2.2.2.2.2.2.2.2.2.2.2.2.2.2.2.2.2.2.2.2.2.2.2.2.2.2.2.1
theorem KF.kDip (h : KF K P prog) : keepIn K (.ref 424) = true := h.2.1.2.2.2.2.2.2.2.2.2.2.2.2.2.2.2.2.2.2.2.2.2.2.2.2.2.2.2.2.2.2.2.2.2.2.2.2.2.2.2.2.2.2.2.2.2.2.2.2.2.2.2.2.2.2.2.2.2.2.2.2.2.2.2.2.2.2.2.2.2.2.2.1
theorem KF.kPut (h : KF K P prog) : keepIn K (.ref 431) = true := h.2.1.2.2.2.2.2.2.2.2.2.2.2.2.2.2.2.2.2.2.2.2.2.2.2.2.2.2.2.2.2.2.2.2.2.2.2.2.2.2.2.2.2.2.2.2.2.2.2.2.2.2.2.2.2.2.2.2.2.2.2.2.2.2.2.2.2.2.2.2.2.2.2.2.1
theorem KF.kPart (h : KF K P prog) : keepIn K (.ref 438) = true := h.2.1.2.2.2.2.2.2.2.2.2.2.2.2.2.2.2.2.2.2.2.2.2.2.2.2.2.2.2.2.2.2.2.2.2.2.2.2.2.2.2.2.2.2.2.2.2.2.2.2.2.2.2.2.2.2.2.2.2.2.2.2.2.2.2.2.2.2.2.2.2.2.2.2.2.1
theorem KF.kLstring (h : KF K P prog) : keepIn K (.ref 445) = true := h.2.1.2.2.2.2.2.2.2.2.2.2.2.2.2.2.2.2.2.2.2.2.2.2.2.2.2.2.2.2.2.2.2.2.2.2.2.2.2.2.2.2.2.2.2.2.2.2.2.2.2.2.2.2.2.2.2.2.2.2.2.2.2.2.2.2.2.2.2.2.2.2.2.2.2.2.1
theorem KF.kHeard (h : KF K P prog) : keepIn K (.ref 452) = true := h.2.1.2.2.2.2.2.2.2.2.2.2.2.2.2.2.2.2.2.2.2.2.2.2.2.2.2.2.2.2.2.2.2.2.2.2.2.2.2.2.2.2.2.2.2.2.2.2.2.2.2.2.2.2.2.2.2.2.2.2.2.2.2.2.2.2.2.2.2.2.2.2.2.2.2.2.2.1
theorem KF.kScan (h : KF K P prog) : keepIn K (.ref cScan) = true := h.2.1.2.2.2.2.2.2.2.2.2.2.2.2.2.2.2.2.2.2.2.2.2.2.2.2.2.2.2.2.2.2.2.2.2.2.2.2.2.2.2.2.2.2.2.2.2.2.2.2.2.2.2.2.2.2.2.2.2.2.2.2.2.2.2.2.2.2.2.2.2.2.2.2.2.2.2.2.1
theorem KF.kPars (h : KF K P prog) : keepIn K (.ref cPars) = true := h.2.1.2.2.2.2.2.2.2.2.2.2.2.2.2.2.2.2.2.2.2.2.2.2.2.2.2.2.2.2.2.2.2.2.2.2.2.2.2.2.2.2.2.2.2.2.2.2.2.2.2.2.2.2.2.2.2.2.2.2.2.2.2.2.2.2.2.2.2.2.2.2.2.2.2.2.2.2.2.1
theorem KF.kTF (h : KF K P prog) : keepIn K (.ref cTF) = true := h.2.1.2.2.2.2.2.2.2.2.2.2.2.2.2.2.2.2.2.2.2.2.2.2.2.2.2.2.2.2.2.2.2.2.2.2.2.2.2.2.2.2.2.2.2.2.2.2.2.2.2.2.2.2.2.2.2.2.2.2.2.2.2.2.2.2.2.2.2.2.2.2.2.2.2.2.2.2.2.2
theorem KF.BLANKS (h : KF K P prog) : Glb K "BLANKS" (.str " \t\r\n") := h.2.2.1
theorem KF.FIGURES (h : KF K P prog) : Glb K "FIGURES" (.str "0123456789") := h.2.2.2.1
theorem KF.LETTERS (h : KF K P prog) : Glb K "LETTERS" (.str "abcdefghijklmnopqrstuvwxyzABCDEFGHIJKLMNOPQRSTUVWXYZ") := h.2.2.2.2.1
theorem KF.MOST_FIGURES (h : KF K P prog) : Glb K "MOST_FIGURES" (.int 60) := h.2.2.2.2.2.1
theorem KF.MOST_DEPTH (h : KF K P prog) : Glb K "MOST_DEPTH" (.int 40) := h.2.2.2.2.2.2.1
theorem KF.MOST_HEIGHT (h : KF K P prog) : Glb K "MOST_HEIGHT" (.int 200) := h.2.2.2.2.2.2.2.1
theorem KF.MOST_STRINGS (h : KF K P prog) : Glb K "MOST_STRINGS" (.int 4) := h.2.2.2.2.2.2.2.2.1
theorem KF.RIGHT_LEVEL (h : KF K P prog) : Glb K "RIGHT_LEVEL" (.int 12) := h.2.2.2.2.2.2.2.2.2.1
theorem KF.SIGNS (h : KF K P prog) : Glb K "SIGNS" (.tup (signsL.map .str)) := h.2.2.2.2.2.2.2.2.2.2.1
theorem KF.WORDS (h : KF K P prog) : Glb K "WORDS" (.tup (wordsL.map .str)) := h.2.2.2.2.2.2.2.2.2.2.2.1
theorem KF.SINGLE_LEVELS (h : KF K P prog) : Glb K "SINGLE_LEVELS" (.tup [.int 5, .int 6, .int 8]) := h.2.2.2.2.2.2.2.2.2.2.2.2.1
theorem KF.gaps (h : KF K P prog) : Glb K "_law_gaps" (.tup (gapsL.map .str)) := h.2.2.2.2.2.2.2.2.2.2.2.2.2.1
theorem KF.lone (h : KF K P prog) : Glb K "_law_lone" (.tup (loneL.map .str)) := h.2.2.2.2.2.2.2.2.2.2.2.2.2.2.1
theorem KF.words (h : KF K P prog) : Glb K "_law_words" (.tup (lwordsL.map .str)) := h.2.2.2.2.2.2.2.2.2.2.2.2.2.2.2.1
theorem KF.escs (h : KF K P prog) : Glb K "_law_escapes" (.tup [.tup [.str "\\\"", .str "\""], .tup [.str "\\\\", .str "\\"], .tup [.str "\\n", .str "\n"], .tup [.str "\\t", .str "\t"]]) := h.2.2.2.2.2.2.2.2.2.2.2.2.2.2.2.2.1
theorem KF.gLEVELS (h : KF K P prog) : Glb K "LEVELS" (.glob 86) := h.2.2.2.2.2.2.2.2.2.2.2.2.2.2.2.2.2.1
theorem KF.gESCAPES (h : KF K P prog) : Glb K "ESCAPES" (.glob 90) := h.2.2.2.2.2.2.2.2.2.2.2.2.2.2.2.2.2.2.1
theorem KF.gScanner (h : KF K P prog) : Glb K "Scanner" (.glob 176) := h.2.2.2.2.2.2.2.2.2.2.2.2.2.2.2.2.2.2.2.1
theorem KF.gTextFault (h : KF K P prog) : Glb K "TextFault" (.glob 81) := h.2.2.2.2.2.2.2.2.2.2.2.2.2.2.2.2.2.2.2.2.1
theorem KF.gExprParser (h : KF K P prog) : Glb K "ExprParser" (.glob 400) := h.2.2.2.2.2.2.2.2.2.2.2.2.2.2.2.2.2.2.2.2.2.1
theorem KF.gistoohigh (h : KF K P prog) : Glb K "is_too_high" (.glob 95) := h.2.2.2.2.2.2.2.2.2.2.2.2.2.2.2.2.2.2.2.2.2.2.1
theorem KF.gexprof (h : KF K P prog) : Glb K "expr_of" (.glob 409) := h.2.2.2.2.2.2.2.2.2.2.2.2.2.2.2.2.2.2.2.2.2.2.2.1
theorem KF.glawdip (h : KF K P prog) : Glb K "_law_dip" (.glob 424) := h.2.2.2.2.2.2.2.2.2.2.2.2.2.2.2.2.2.2.2.2.2.2.2.2.1
theorem KF.glawput (h : KF K P prog) : Glb K "_law_put" (.glob 431) := h.2.2.2.2.2.2.2.2.2.2.2.2.2.2.2.2.2.2.2.2.2.2.2.2.2.1
theorem KF.glawpart (h : KF K P prog) : Glb K "_law_part" (.glob 438) := h.2.2.2.2.2.2.2.2.2.2.2.2.2.2.2.2.2.2.2.2.2.2.2.2.2.2.1
theorem KF.glawstring (h : KF K P prog) : Glb K "_law_string" (.glob 445) := h.2.2.2.2.2.2.2.2.2.2.2.2.2.2.2.2.2.2.2.2.2.2.2.2.2.2.2.1
theorem KF.glawheard (h : KF K P prog) : Glb K "_law_heard" (.glob 452) := h.2.2.2.2.2.2.2.2.2.2.2.2.2.2.2.2.2.2.2.2.2.2.2.2.2.2.2.2.1
theorem KF.blen (h : KF K P prog) : Glb K "len" (.blt "len") := h.2.2.2.2.2.2.2.2.2.2.2.2.2.2.2.2.2.2.2.2.2.2.2.2.2.2.2.2.2.1
theorem KF.bisinstance (h : KF K P prog) : Glb K "isinstance" (.blt "isinstance") := h.2.2.2.2.2.2.2.2.2.2.2.2.2.2.2.2.2.2.2.2.2.2.2.2.2.2.2.2.2.2.1
theorem KF.babs (h : KF K P prog) : Glb K "abs" (.blt "abs") := h.2.2.2.2.2.2.2.2.2.2.2.2.2.2.2.2.2.2.2.2.2.2.2.2.2.2.2.2.2.2.2.1
theorem KF.tint (h : KF K P prog) : Glb K "int" (.typ "int") := h.2.2.2.2.2.2.2.2.2.2.2.2.2.2.2.2.2.2.2.2.2.2.2.2.2.2.2.2.2.2.2.2.1
theorem KF.tstr (h : KF K P prog) : Glb K "str" (.typ "str") := h.2.2.2.2.2.2.2.2.2.2.2.2.2.2.2.2.2.2.2.2.2.2.2.2.2.2.2.2.2.2.2.2.2.1
theorem KF.ttuple (h : KF K P prog) : Glb K "tuple" (.typ "tuple") := h.2.2.2.2.2.2.2.2.2.2.2.2.2.2.2.2.2.2.2.2.2.2.2.2.2.2.2.2.2.2.2.2.2.2.1
theorem KF.trange (h : KF K P prog) : Glb K "range" (.typ "range") := h.2.2.2.2.2.2.2.2.2.2.2.2.2.2.2.2.2.2.2.2.2.2.2.2.2.2.2.2.2.2.2.2.2.2.2.1
theorem KF.esc (h : KF K P prog) : ∃ es n, K.lookup 90 = some ⟨.type "dict", none, .dict es n, #[]⟩ ∧ KeysLit P es.toList := h.2.2.2.2.2.2.2.2.2.2.2.2.2.2.2.2.2.2.2.2.2.2.2.2.2.2.2.2.2.2.2.2.2.2.2.2.1
theorem KF.lev (h : KF K P prog) : ∃ es n, K.lookup 86 = some ⟨.type "dict", none, .dict es n, #[]⟩ ∧ KeysLit P es.toList := h.2.2.2.2.2.2.2.2.2.2.2.2.2.2.2.2.2.2.2.2.2.2.2.2.2.2.2.2.2.2.2.2.2.2.2.2.2.1
theorem KF.escN (h : KF K P prog) : ∃ v, nsIn K 90 "n" = some (some v) ∧ CR K v (.str "\n") := h.2.2.2.2.2.2.2.2.2.2.2.2.2.2.2.2.2.2.2.2.2.2.2.2.2.2.2.2.2.2.2.2.2.2.2.2.2.2.1
theorem KF.escT (h : KF K P prog) : ∃ v, nsIn K 90 "t" = some (some v) ∧ CR K v (.str "\t") := h.2.2.2.2.2.2.2.2.2.2.2.2.2.2.2.2.2.2.2.2.2.2.2.2.2.2.2.2.2.2.2.2.2.2.2.2.2.2.2.1
theorem KF.escQ (h : KF K P prog) : ∃ v, nsIn K 90 "\"" = some (some v) ∧ CR K v (.str "\"") := h.2.2.2.2.2.2.2.2.2.2.2.2.2.2.2.2.2.2.2.2.2.2.2.2.2.2.2.2.2.2.2.2.2.2.2.2.2.2.2.2.1
theorem KF.escB (h : KF K P prog) : ∃ v, nsIn K 90 "\\" = some (some v) ∧ CR K v (.str "\\") := h.2.2.2.2.2.2.2.2.2.2.2.2.2.2.2.2.2.2.2.2.2.2.2.2.2.2.2.2.2.2.2.2.2.2.2.2.2.2.2.2.2.1
theorem KF.levP (h : KF K P prog) : ∃ v, nsIn K 86 "+" = some (some v) ∧ CR K v (.int 9) := h.2.2.2.2.2.2.2.2.2.2.2.2.2.2.2.2.2.2.2.2.2.2.2.2.2.2.2.2.2.2.2.2.2.2.2.2.2.2.2.2.2.2.1
theorem KF.levC (h : KF K P prog) : ∃ v, nsIn K 86 "++" = some (some v) ∧ CR K v (.int 12) := h.2.2.2.2.2.2.2.2.2.2.2.2.2.2.2.2.2.2.2.2.2.2.2.2.2.2.2.2.2.2.2.2.2.2.2.2.2.2.2.2.2.2.2.1
theorem KF.levO (h : KF K P prog) : nsIn K 86 "(" = some none := h.2.2.2.2.2.2.2.2.2.2.2.2.2.2.2.2.2.2.2.2.2.2.2.2.2.2.2.2.2.2.2.2.2.2.2.2.2.2.2.2.2.2.2.2.1
theorem KF.levX (h : KF K P prog) : nsIn K 86 ")" = some none := h.2.2.2.2.2.2.2.2.2.2.2.2.2.2.2.2.2.2.2.2.2.2.2.2.2.2.2.2.2.2.2.2.2.2.2.2.2.2.2.2.2.2.2.2.2
end
end
section
noncomputable abbrev mkS (l : List Nat) : Str := ⟨l.toArray⟩
noncomputable def Win (x : Str) (e : Int) (w post : List Nat) : Prop := ∃ pre, x.cps.toList = pre ++ (w ++ post) ∧ e = (pre.length : Int) + w.length ∧ x.length ≤ sizeLim
noncomputable abbrev atW (e : Int) (w : List Nat) : Int := e - w.length
noncomputable abbrev scanFs (x : Str) (spot e d : Int) : List (Str × V) := [("text", .str x), ("spot", .int spot), ("end", .int e), ("depth", .int d)]
noncomputable def sgn : List Nat → Str
  | [] => ""
  | c :: _ => ⟨#[c]⟩
theorem Win.len {x e w post} (h : Win x e w post) : 0 ≤ atW e w ∧ atW e w ≤ e ∧ e ≤ x.length ∧ (x.length : Int) ≤ sizeLim ∧ (atW e w).toNat + w.length ≤ x.length := by
  obtain ⟨pre, h1, h2, h3⟩ := h
  have : x.length = pre.length + (w.length + post.length) := by
    show x.cps.size = _
    rw [← Array.length_toList, h1]; simp
  unfold atW
  (exact ar2 h2 h3 this)
theorem Win.get {x e w post} (h : Win x e w post) (k : Nat) (hk : k < w.length) : x.cps[(atW e w).toNat + k]? = w[k]? := by
  obtain ⟨pre, h1, h2, h3⟩ := h
  have : (atW e w).toNat = pre.length := by unfold atW; (exact ar10 h2)
  rw [this, ← Array.getElem?_toList, h1, List.getElem?_append_right (by exact ar353), List.getElem?_append_left (by exact ar21 hk)]
  congr 1; (exact ar20)
theorem Win.head {x e c w post} (h : Win x e (c :: w) post) : x.cps[(atW e (c :: w)).toNat]? = some c := by have := h.get 0 (by simp); simpa using this
theorem Win.tail {x e c w post} (h : Win x e (c :: w) post) : Win x e w post := by
  obtain ⟨pre, h1, h2, h3⟩ := h
  exact ⟨pre ++ [c], by rw [h1]; simp, by rw [h2]; simp; (exact ar397), h3⟩
theorem Win.drop {x e u w post} (h : Win x e (u ++ w) post) : Win x e w post := by
  induction u with
  | nil => exact h
  | cons c u ih => exact ih h.tail
theorem atW_tail (e : Int) (c : Nat) (w : List Nat) : atW e (c :: w) + 1 = atW e w := by unfold atW; simp; (exact ar399)
section
variable {Γ : Cx} {A : Around} {st : List Env} {F : Fn} {L : Addr} {ℓ : List (Option V)} {σ : List AObj} {E : Int → Prop} {Q : V → List AObj → Prop} {i : Nat} {b : Nat}
theorem We.att {x attr : Str} {xp pos : Pos} {C : Addr} {fs : List (Str × V)} {W : V} (O : Γ.Ok) (OF : FnOk F) (ha : At F.scope.names ℓ x (.obj i)) (d : DataAttr Γ.K C attr) (h : σ[i]? = some (.inst C fs)) (m : (attr, W) ∈ fs) (nb : W.notBlt = true) (hq : Q W σ) :
    We Γ A st F L (.Attribute (.Name x xp) attr pos) ℓ σ Q E := We.attr O (We.name OF ha ⟨_, _, _, _, rfl, h, m, d, nb, hq⟩)
theorem We.mcall {x m : Str} {xp apos pos : Pos} {C f : Addr} {fs : List (Str × V)} {es : List Expr} {pl : Env → Sem Bool} (O : Γ.Ok) (OF : FnOk F) (ha : At F.scope.names ℓ x (.obj i)) (h : σ[i]? = some (.inst C fs)) (hm : MethAt Γ.K C m f) (hn : m ∉ fs.map (·.1)) (hk : keepIn Γ.K (.ref f) = true)
    (hw : Wes Γ A st F L es pos ℓ σ (fun as σ2 => Wf Γ A st F L (.glob f) (.obj i :: as) σ2 Q E) E)
    (he : ∀ env, eval (.Call (.Attribute (.Name x xp) m apos) es [] pos) env = (do
      let ov ← eval (.Name x xp) env
      standAt apos.atName
      let (f, first) ← holding [ov] (getMethod ov m (pl env))
      callWith pos f first (backTo pos (starEach es env)) []) := by intro; rfl)
    (hp : ∀ env, (starEach es env).any (·.1) = false := by intro; rfl) :
    We Γ A st F L (.Call (.Attribute (.Name x xp) m apos) es [] pos) ℓ σ Q E :=
  We.meth O (We.name OF ha ⟨.glob f, .inst h hm hn, hk, hw⟩) he hp
end
section
variable {Γ : Cx} {A : Around} {st : List Env} {σ : List AObj} {E : Int → Prop} {Q : V → List AObj → Prop} {i : Nat} {x : Str} {e d : Int} {w post : List Nat} {b : Nat}
theorem c_sign (O : Γ.Ok) (X : KF Γ.K Γ.w.params Γ.prog) (hA : AOk A st (b + 1)) (h : σ[i]? = some (.inst cScan (scanFs x (atW e w) e d))) (hw : Win x e w post) (hq : Q (.str (sgn w)) σ) : Wc Γ A st (.glob 117) [.obj i] σ Q E := by
  have hl := hw.len
  have OF := X.sign.ok
  refine Wc.fn O hA X.sign rfl fun L A' hA' hL => ?_
  refine Wx.cons (Ws.ret (We.ifexp (Wt.cmp O (We.att O OF (by repeat constructor) X.sSpot h (by repeat constructor) rfl (We.att O OF (by repeat constructor) X.sEnd h (by repeat constructor) rfl ?_)))))
  show (if decide (atW e w < e) = true then _ else _)
  cases w with
  | nil =>
    rw [if_neg (by simp [atW])]
    exact We.cstr hq
  | cons c w =>
    rw [if_pos (by simp [atW]; (exact ar46))]
    refine We.item O (We.att O OF (by repeat constructor) X.sText h (by repeat constructor) rfl (We.att O OF (by repeat constructor) X.sSpot h (by repeat constructor) rfl ?_))
    exact ⟨c, hl.1, by unfold sizeLim at hl; (exact ar7 hl), hw.head, hq⟩
end
end
section
open Builtin Builtin.Str
theorem contains_one (x : Str) (c : Nat) : Txt.contains x ⟨#[c]⟩ = decide (c ∈ x.cps.toList) := StrLaws.found_one x c
theorem str_eq_iff {a b : Str} : (a == b) = decide (a.cps.toList = b.cps.toList) := by
  rw [Bool.eq_iff_iff, beq_iff_eq, decide_eq_true_eq]
  constructor
  · rintro rfl; rfl
  · intro h
    obtain ⟨⟨a⟩⟩ := a
    obtain ⟨⟨b⟩⟩ := b
    simp at h; rw [h]
theorem sgn_list (w : List Nat) : (sgn w).cps.toList = w.head?.toList := by cases w <;> rfl
theorem sgn_eq (k : Option Nat) (w : List Nat) : (sgn k.toList == sgn w) = (k == w.head?) := by
  rw [str_eq_iff, sgn_list, sgn_list, Bool.eq_iff_iff, decide_eq_true_eq, beq_iff_eq]
  cases k <;> cases w <;> simp
theorem any_sgn {ys : List Str} (ks : List (Option Nat)) (h : ys = ks.map (fun o => sgn o.toList)) (w : List Nat) : ys.any (· == sgn w) = ks.any (· == w.head?) := by
  subst h
  rw [List.any_map]
  congr 1
  funext k
  exact sgn_eq k w
theorem slice_eq {x : Str} {i j : Int} (h0 : 0 ≤ i) (h1 : i ≤ j) (h2 : i ≤ x.length) : Txt.slice x (some i) (some j) = ⟨((x.cps.toList.drop i.toNat).take (j - i).toNat).toArray⟩ := by
  by_cases hj : j ≤ x.length
  · exact beq_iff_eq.mp (slice_closesL h0 h1 hj)
  · have e : Txt.slice x (some i) (some j) = Txt.slice x (some i) (some (x.length : Int)) := by
      have : strSliceIndices (some i) (some j) 1 x.length = strSliceIndices (some i) (some (x.length : Int)) 1 x.length := by
        unfold strSliceIndices
        have a : ¬ j < 0 := by (exact ar296 h0 h1)
        have b : ¬ ((x.length : Int) < 0) := by (exact ar338)
        have c : max 0 (min j (x.length : Int)) = (x.length : Int) := by (exact ar72 hj)
        have d : max 0 (min (x.length : Int) (x.length : Int)) = (x.length : Int) := by (exact ar273)
        simp [a, b, c, d]
      unfold Txt.slice
      rw [this]
    rw [e, beq_iff_eq.mp (slice_closesL h0 h2 (Int.le_refl _))]
    have hl : x.cps.toList.length = x.length := by simp [PySem.Str.length]
    congr 2
    rw [List.take_of_length_le (by rw [List.length_drop]; (exact ar1 h0 h2 hl)), List.take_of_length_le (by rw [List.length_drop]; (exact ar4 h0 h1 h2 hj hl))]
theorem Win.drop_eq {x e w post} (h : Win x e w post) : x.cps.toList.drop (atW e w).toNat = w ++ post := by
  obtain ⟨pre, h1, h2, h3⟩ := h
  have : (atW e w).toNat = pre.length := by unfold atW; (exact ar10 h2)
  rw [this, h1, List.drop_left]
theorem Win.slice {x e w post} (h : Win x e w post) (n : Nat) : Txt.slice x (some (atW e w)) (some (atW e w + n)) = mkS ((w ++ post).take n) := by
  have hl := h.len
  rw [slice_eq hl.1 (by exact ar352) (by exact ar118 hl), h.drop_eq]
  congr 3; (exact ar171)
theorem subAt_two (x : Str) (a b i : Nat) : (i + 2 ≤ x.length ∧ subAt x ⟨#[a, b]⟩ i = true) ↔ (x.cps.toList[i]? = some a ∧ x.cps.toList[i + 1]? = some b) := by
  rw [StrLaws.subAt_eq]
  show (i + 2 ≤ x.length ∧ ((x.cps.toList.drop i).take 2 == [a, b]) = true) ↔ _
  have hl : x.cps.toList.length = x.length := by simp [PySem.Str.length]
  rw [beq_iff_eq]
  have e1 : x.cps.toList[i]? = (x.cps.toList.drop i)[0]? := by rw [List.getElem?_drop]; rfl
  have e2 : x.cps.toList[i + 1]? = (x.cps.toList.drop i)[1]? := by rw [List.getElem?_drop]
  have e3 : (x.cps.toList.drop i).length = x.length - i := by rw [List.length_drop, hl]
  rw [e1, e2]
  generalize x.cps.toList.drop i = l at e3
  match l, e3 with
  | [], e3 => simp
  | [c], e3 => simp
  | c :: d :: r, e3 => simp at e3 ⊢; (exact ar48 e3)
theorem occ_first {s sub : Str} {hi : Nat} : ∀ (l : List Nat) (free : Nat) (pre : List Nat) (k : Nat) (suf : List Nat), l = pre ++ k :: suf → (∀ i ∈ l, free ≤ i) → (∀ i ∈ pre, ¬ (i + sub.length ≤ hi ∧ subAt s sub i = true)) → (k + sub.length ≤ hi ∧ subAt s sub k = true) →
    (forIn l ((#[] : Array Nat), free) (StrLaws.occBody s sub hi 1)).run.fst = #[k] := by
  intro l free pre
  induction pre generalizing l with
  | nil =>
    rintro k suf rfl hf hp hk
    rw [List.nil_append, List.forIn_cons]
    unfold StrLaws.occBody
    have ha : free ≤ k := hf k (List.mem_cons_self ..)
    have c1 : (((#[] : Array Nat), free).fst.size < 1 ∧ ((#[] : Array Nat), free).snd ≤ k) ∧ k + sub.length ≤ hi := ⟨⟨by simp, ha⟩, hk.1⟩
    rw [if_pos ⟨c1, hk.2⟩]
    have stay : ∀ (l : List Nat) (fr : Nat), (forIn l ((#[k] : Array Nat), fr) (StrLaws.occBody s sub hi 1)).run.fst = #[k] := by
      intro l
      induction l with
      | nil => intro fr; rfl
      | cons a l ih =>
        intro fr
        rw [List.forIn_cons]
        unfold StrLaws.occBody
        rw [if_neg (by simp)]
        exact ih fr
    exact stay suf _
  | cons a pre ih =>
    rintro k suf rfl hf hp hk
    rw [List.cons_append, List.forIn_cons]
    unfold StrLaws.occBody
    have c2 : ¬ (((((#[] : Array Nat), free).fst.size < 1 ∧ ((#[] : Array Nat), free).snd ≤ a) ∧ a + sub.length ≤ hi) ∧ subAt s sub a = true) := fun h => hp a (List.mem_cons_self ..) ⟨h.1.2, h.2⟩
    rw [if_neg c2]
    exact ih (pre ++ k :: suf) k suf rfl (fun i hi' => hf i (List.mem_cons_of_mem _ hi')) (fun i hi' => hp i (List.mem_cons_of_mem _ hi')) hk
theorem occ_at {x y : Str} {lo hi k : Nat} (h1 : lo ≤ k) (h2 : k + y.length ≤ hi) (h3 : subAt x y k = true) (h4 : ∀ i, lo ≤ i → i < k → ¬ subAt x y i = true) : occurrences x y lo hi 1 = [k] := by
  rw [StrLaws.occ_eq, occ_first (List.range' lo (hi + 1 - lo)) lo (List.range' lo (k - lo)) k (List.range' (k + 1) (hi - k)) ?_ (fun i hi' => (List.mem_range'_1.mp hi').1) (fun i hi' => ?_) ⟨h2, h3⟩]
  · have e : hi + 1 - lo = (k - lo) + (1 + (hi - k)) := by (exact ar6 h1 h2)
    rw [e, ← List.range'_append_1, ← List.range'_append_1]
    have : lo + (k - lo) = k := by (exact ar9 h2 e)
    rw [this]; simp
  · have := List.mem_range'_1.mp hi'
    exact fun hc => h4 i this.1 (by exact ar74 h1 this) hc.2
theorem fromIndex_nat (len k : Nat) : fromIndex len (k : Int) = k := by
  unfold fromIndex
  have : ¬ ((k : Int) < 0) := by (exact ar338)
  simp [this]
end
section
open Builtin Builtin.Str
noncomputable def stI (l : List Stmt) (k : Nat) : Stmt := nth (.Pass ⟨0, 0, 0, 0⟩) l k
noncomputable def whT : Stmt → Expr
  | .While t .. => t
  | _ => .Constant .none 0 ⟨0, 0, 0, 0⟩
noncomputable def whB : Stmt → List Stmt
  | .While _ b .. => b
  | .For _ _ b .. => b
  | _ => []
noncomputable def ifA : Stmt → List Stmt
  | .If _ a .. => a
  | _ => []
noncomputable def ifB : Stmt → List Stmt
  | .If _ _ b _ => b
  | _ => []
noncomputable def isBlank (c : Nat) : Bool := c == 32 || c == 9 || c == 13 || c == 10
inductive Skp (post : List Nat) : List Nat → List Nat → Prop
  | nil : Skp post [] []
  | blank {c w w'} (h : isBlank c = true) (r : Skp post w w') : Skp post (c :: w) w'
  | line {l w w'} (h : ∀ c ∈ l, c ≠ 10) (hw : w = [] ∨ w.head? = some 10) (r : Skp post w w') : Skp post (37 :: (l ++ w)) w'
  | block {m w w'} (h : ∀ k < m.length, ¬ ((m ++ [42, 47])[k]? = some 42 ∧ (m ++ [42, 47])[k + 1]? = some 47)) (r : Skp post w w') : Skp post (47 :: 42 :: (m ++ 42 :: 47 :: w)) w'
  | other {c w} (h : isBlank c = false) (h1 : c ≠ 37) (h2 : ¬ (c = 47 ∧ (w ++ post).head? = some 42)) : Skp post (c :: w) (c :: w)
theorem blanks_has (c : Nat) : Txt.contains (" \t\r\n" : Str) ⟨#[c]⟩ = isBlank c := by
  rw [contains_one]
  have : (" \t\r\n" : Str).cps.toList = [32, 9, 13, 10] := by decide +kernel
  rw [this]
  unfold isBlank
  rw [Bool.eq_iff_iff]; simp [or_assoc]
theorem set_get {α} {σ : List α} {i : Nat} {a b : α} (h : σ[i]? = some a) : (σ.set i b)[i]? = some b := List.getElem?_set_self (List.getElem?_eq_some_iff.mp h).1
theorem set_same {α} {σ : List α} {i : Nat} {a : α} (h : σ[i]? = some a) : σ.set i a = σ := by
  obtain ⟨hi, e⟩ := List.getElem?_eq_some_iff.mp h
  rw [← e]; exact List.set_getElem_self hi
theorem chr_eq {s : Str} (k : Nat) (c : Nat) (hs : s = ⟨#[k]⟩) : ((⟨#[c]⟩ : Str) == s) = (c == k) := by
  subst hs
  rw [str_eq_iff, Bool.eq_iff_iff]; simp
theorem two_eq {s : Str} (a b : Nat) (l : List Nat) (hs : s = ⟨#[a, b]⟩) : (mkS (l.take 2) == s) = decide (l[0]? = some a ∧ l[1]? = some b) := by
  subst hs
  rw [str_eq_iff, Bool.eq_iff_iff, decide_eq_true_eq, decide_eq_true_eq]
  show l.take 2 = [a, b] ↔ _
  match l with
  | [] => simp
  | [c] => simp
  | c :: d :: r => simp
theorem ItemK.str {Γ : Cx} {x : Str} {k : Int} {c : Nat} {σ : List AObj} {Q : V → List AObj → Prop} (h0 : 0 ≤ k) (h1 : k < 2 ^ 62) (hc : x.cps[k.toNat]? = some c) (hq : Q (.str ⟨#[c]⟩) σ) : ItemK Γ (.str x) (.int k) σ Q := ⟨c, h0, h1, hc, hq⟩
theorem Wpart.some {Γ : Cx} {A : Around} {st : List Env} {F : Fn} {L : Addr} {ℓ : List (Option V)} {σ : List AObj} {E : Int → Prop} {e : Expr} {Q : Option Int → List AObj → Prop} (h : We Γ A st F L e ℓ σ (fun a σ1 => IntQ a fun i => Q (.some i) σ1) E) : Wpart Γ A st F L (.some e) ℓ σ Q E := h
theorem BinK.addI {i j : Int} {σ : List AObj} {Q : V → List AObj → Prop} (h : Q (.int (i + j)) σ) : BinK .Add (.int i) (.int j) σ Q := h
theorem SliceK.str {base : Expr} {x : Str} {lo hi : Option Int} {σ : List AObj} {Q : V → List AObj → Prop} (h : x.length ≤ sizeLim) (hq : Q (.str (Txt.slice x lo hi)) σ) : SliceK base (.str x) lo hi σ Q := ⟨h, hq⟩
theorem CmpK.lt {Γ : Cx} {i j : Int} {P : Bool → Prop} (c : Bool) (h : decide (i < j) = c) (hp : P c) : CmpK Γ .Lt (.int i) (.int j) P := by subst h; exact hp
noncomputable abbrev skW : Stmt := stI (bM 20 2) 0
noncomputable abbrev skL : Stmt := stI (ifA (stI (ifB (stI (whB skW) 0)) 0)) 0
section
variable {Γ : Cx} {A : Around} {st : List Env} {L : Addr} {σ : List AObj} {E : Int → Prop} {i : Nat} {x : Str} {e d : Int} {w post : List Nat} {b : Nat}
theorem PutF.spot {x : Str} {a b e d : Int} : PutF (scanFs x a e d) "spot" (.int b) (scanFs x b e d) := .tail (by show ("text" : Str) ≠ "spot"; decide) .head
theorem scan_no {m x : Str} {a e d : Int} (h : m ∉ (["text", "spot", "end", "depth"] : List Str)) : m ∉ (scanFs x a e d).map (·.1) := h
theorem l_line (O : Γ.Ok) (X : KF Γ.K Γ.w.params Γ.prog) (hA : AOk A (fSkip.env L :: st) (b + 1)) {o : List (Option V)} {P : Fl → List (Option V) → List AObj → Prop} (hw : w = [] ∨ w.head? = some 10) : ∀ (l : List Nat) (σ : List AObj), (∀ c ∈ l, c ≠ 10) → σ[i]? = some (.inst cScan (scanFs x (atW e (l ++ w)) e d)) → Win x e (l ++ w) post →
    P .next (some (.obj i) :: o) (σ.set i (.inst cScan (scanFs x (atW e w) e d))) → Wl Γ A st fSkip L (whT skL) (whB skL) (some (.obj i) :: o) σ P E := by
  have OF := X.skip.ok
  intro l
  induction l with
  | nil =>
    intro σ hl h hW hP
    refine Wl.step hA.frames (Wt.cmp O (We.mcall O OF .head h X.mSign (scan_no (by decide)) X.kSign (Wes.nil (Wf.of_Wc O (c_sign O X hA h hW (We.tuple (by decide) (Wes.cons (We.cstr (Wes.cons (We.cstr (Wes.nil ⟨by decide, ["", "\n"], rfl, ?_⟩)))))))))))
    rw [any_sgn (ys := ["", "\n"]) [none, some 10] rfl]
    have : ([none, some 10].any fun x => x == ([] ++ w).head?) = true := by rcases hw with rfl | hw <;> simp [*]
    rw [this]
    have hP := hP
    rw [show atW e w = atW e ([] ++ w) from rfl, set_same h] at hP
    exact hP
  | cons c l ih =>
    intro σ hl h hW hP
    refine Wl.step hA.frames (Wt.cmp O (We.mcall O OF .head h X.mSign (scan_no (by decide)) X.kSign (Wes.nil (Wf.of_Wc O (c_sign O X hA h hW (We.tuple (by decide) (Wes.cons (We.cstr (Wes.cons (We.cstr (Wes.nil ⟨by decide, ["", "\n"], rfl, ?_⟩)))))))))))
    rw [any_sgn (ys := ["", "\n"]) [none, some 10] rfl]
    have : ([none, some 10].any fun x => x == (c :: l ++ w).head?) = false := by have := hl c (.head _); simp; (exact ar424 this)
    rw [this]
    refine Wx.cons (Ws.augAttr O (We.name OF .head ⟨_, _, _, _, rfl, h, by repeat constructor, X.sSpot, rfl, We.cint ⟨rfl, _, _, rfl, rfl, _, _, _, _, rfl, h, .spot, by simp, X.ssSpot, Wx.nil ?_⟩⟩))
    show Wl _ _ _ _ _ _ _ _ _ _ _
    rw [show atW e (c :: l ++ w) + 1 = atW e (l ++ w) from atW_tail _ _ _]
    refine ih _ (fun c hc => hl c (.tail _ hc)) (set_get h) hW.tail ?_
    rw [List.set_set]; exact hP
theorem l_skip (O : Γ.Ok) (X : KF Γ.K Γ.w.params Γ.prog) (hA : AOk A (fSkip.env L :: st) (b + 1)) {r : List (Option V)} {P : Fl → List (Option V) → List AObj → Prop} {w w' : List Nat} (hs : Skp post w w') : ∀ (σ : List AObj) (oc : Option V), σ[i]? = some (.inst cScan (scanFs x (atW e w) e d)) → Win x e w post →
    (∀ oc, P .next (some (.obj i) :: oc :: r) (σ.set i (.inst cScan (scanFs x (atW e w') e d)))) → (∀ oc, P (.ret .none) (some (.obj i) :: oc :: r) (σ.set i (.inst cScan (scanFs x (atW e w') e d)))) → Wl Γ A st fSkip L (whT skW) (whB skW) (some (.obj i) :: oc :: r) σ P E := by
  have OF := X.skip.ok
  have big : ∀ {c : Nat} {w : List Nat}, Win x e (c :: w) post → atW e (c :: w) < 2 ^ 62 := fun hW => by have := hW.len; unfold sizeLim at this; (exact ar7 this)
  -- the head of a turn: a sign is left
  have head : ∀ {c : Nat} {w : List Nat} {σ : List AObj} {oc : Option V}, σ[i]? = some (.inst cScan (scanFs x (atW e (c :: w)) e d)) → Win x e (c :: w) post → ∀ T, T = ThenK (LoopK P fun ℓ2 σ2 => Wl Γ A st fSkip L (whT skW) (whB skW) ℓ2 σ2 P E) (fun ℓ1 σ1 => Wx Γ A st fSkip L [] ℓ1 σ1 (LoopK P fun ℓ2 σ2 => Wl Γ A st fSkip L (whT skW) (whB skW) ℓ2 σ2 P E) E) →
      (if isBlank c = true then Wx Γ A st fSkip L (ifA (stI (whB skW) 0)) (some (.obj i) :: oc :: r) σ T E
        else Wx Γ A st fSkip L (ifB (stI (whB skW) 0)) (some (.obj i) :: oc :: r) σ T E) →
      Wl Γ A st fSkip L (whT skW) (whB skW) (some (.obj i) :: oc :: r) σ P E := by
    intro c w σ oc h hW T hT hk
    refine Wl.step hA.frames (Wt.cmp O (We.att O OF .head X.sSpot h (by repeat constructor) rfl (We.att O OF .head X.sEnd h (by repeat constructor) rfl ?_)))
    show (if decide (atW e (c :: w) < e) = true then _ else _)
    rw [if_pos (by simp [atW]; (exact ar46))]
    refine Wx.cons (Ws.if (Wt.cmp O (We.item O (We.att O OF .head X.sText h (by repeat constructor) rfl (We.att O OF .head X.sSpot h (by repeat constructor) rfl (.str hW.len.1 (big hW) hW.head (We.gname O OF (by repeat constructor) X.BLANKS ?_)))))))
    show (if Txt.contains _ _ = true then _ else _)
    rw [blanks_has]
    subst hT
    exact hk
  -- behind a sign that is no blank
  have head2 : ∀ {c : Nat} {w : List Nat} {σ : List AObj} {oc : Option V}, σ[i]? = some (.inst cScan (scanFs x (atW e (c :: w)) e d)) → Win x e (c :: w) post → isBlank c = false → ∀ T, T = ThenK (LoopK P fun ℓ2 σ2 => Wl Γ A st fSkip L (whT skW) (whB skW) ℓ2 σ2 P E) (fun ℓ1 σ1 => Wx Γ A st fSkip L [] ℓ1 σ1 (LoopK P fun ℓ2 σ2 => Wl Γ A st fSkip L (whT skW) (whB skW) ℓ2 σ2 P E) E) →
      ∀ T2, T2 = ThenK T (fun ℓ1 σ1 => Wx Γ A st fSkip L [] ℓ1 σ1 T E) →
      (if (c == 37) = true then Wx Γ A st fSkip L (ifA (stI (ifB (stI (whB skW) 0)) 0)) (some (.obj i) :: oc :: r) σ T2 E
        else if (decide (c = 47 ∧ (w ++ post).head? = some 42)) = true then Wx Γ A st fSkip L (ifA (stI (ifB (stI (ifB (stI (whB skW) 0)) 0)) 0)) (some (.obj i) :: oc :: r) σ (ThenK T2 (fun ℓ1 σ1 => Wx Γ A st fSkip L [] ℓ1 σ1 T2 E)) E
        else Wx Γ A st fSkip L (ifB (stI (ifB (stI (ifB (stI (whB skW) 0)) 0)) 0)) (some (.obj i) :: oc :: r) σ (ThenK T2 (fun ℓ1 σ1 => Wx Γ A st fSkip L [] ℓ1 σ1 T2 E)) E) →
      Wl Γ A st fSkip L (whT skW) (whB skW) (some (.obj i) :: oc :: r) σ P E := by
    intro c w σ oc h hW hb T hT T2 hT2 hk
    refine head h hW T hT ?_
    rw [if_neg (by rw [hb]; decide)]
    refine Wx.cons (Ws.if (Wt.cmp O (We.item O (We.att O OF .head X.sText h (by repeat constructor) rfl (We.att O OF .head X.sSpot h (by repeat constructor) rfl (.str hW.len.1 (big hW) hW.head (We.cstr ?_)))))))
    show (if ((⟨#[c]⟩ : Str) == "%") = true then _ else _)
    rw [chr_eq (s := "%") 37 c rfl]
    by_cases h37 : (c == 37) = true
    · rw [if_pos h37] at hk ⊢
      subst hT2
      exact hk
    · rw [if_neg h37] at hk ⊢
      refine Wx.cons (Ws.if (Wt.cmp O (We.slice (We.att O OF .head X.sText h (by repeat constructor) rfl (Wpart.some (We.att O OF .head X.sSpot h (by repeat constructor) rfl ⟨_, rfl, Wpart.some (We.bin (We.att O OF .head X.sSpot h (by repeat constructor) rfl (We.cint (BinK.addI ⟨_, rfl, .str (by have := hW.len; (exact ar14 this)) (We.cstr ?_)⟩))))⟩))))))
      show (if (Txt.slice x (some (atW e (c :: w))) (some (atW e (c :: w) + ((2 : Nat) : Int))) == "/*") = true then _ else _)
      rw [hW.slice, two_eq (s := "/*") 47 42 _ rfl]
      have e2 : (((c :: w ++ post)[0]? = some 47 ∧ (c :: w ++ post)[1]? = some 42)) = (c = 47 ∧ (w ++ post).head? = some 42) := by
        rw [List.head?_eq_getElem?]; simp
      simp only [e2]
      subst hT2
      exact hk
  induction hs with
  | nil =>
    intro σ oc h hW hP hR
    refine Wl.step hA.frames (Wt.cmp O (We.att O OF .head X.sSpot h (by repeat constructor) rfl (We.att O OF .head X.sEnd h (by repeat constructor) rfl ?_)))
    show (if decide (atW e [] < e) = true then _ else _)
    rw [if_neg (by simp [atW])]
    have := hP oc
    rw [set_same h] at this
    exact this
  | @blank c w w' hb hr ih =>
    intro σ oc h hW hP hR
    refine head h hW _ rfl ?_
    rw [if_pos hb]
    refine Wx.cons (Ws.augAttr O (We.name OF .head ⟨_, _, _, _, rfl, h, by repeat constructor, X.sSpot, rfl, We.cint ⟨rfl, _, _, rfl, rfl, _, _, _, _, rfl, h, .spot, by simp, X.ssSpot, Wx.nil (Wx.nil ?_)⟩⟩))
    show Wl _ _ _ _ _ _ _ _ _ _ _
    rw [atW_tail]
    refine ih _ oc (set_get h) hW.tail ?_ ?_ <;> (intro oc; rw [List.set_set]; first | exact hP oc | exact hR oc)
  | @line l w w' hl hw hr ih =>
    intro σ oc h hW hP hR
    refine head2 h hW (by decide) _ rfl _ rfl ?_
    rw [if_pos (by decide)]
    refine Wx.cons (Ws.while ?_)
    refine l_line O X hA hw (37 :: l) σ (fun c hc => ?_) h hW (Wx.nil (Wx.nil (Wx.nil ?_)))
    · rcases List.mem_cons.mp hc with rfl | hc
      · decide
      · exact hl c hc
    · show Wl _ _ _ _ _ _ _ _ _ _ _
      refine ih _ oc (set_get h) (Win.drop (u := 37 :: l) hW) ?_ ?_ <;> (intro oc; rw [List.set_set]; first | exact hP oc | exact hR oc)
  | @other c w hb h1 h2 =>
    intro σ oc h hW hP hR
    refine head2 h hW hb _ rfl _ rfl ?_
    rw [if_neg (by simpa using h1), if_neg (by simpa using h2)]
    refine Wx.cons (Ws.retNone ?_)
    have := hR oc
    rw [set_same h] at this
    exact this
  | @block m w w' hm hr ih =>
    intro σ oc h hW hP hR
    refine head2 h hW (by decide) _ rfl _ rfl ?_
    rw [if_neg (by decide), if_pos (by simp)]
    obtain ⟨n, hn⟩ : ∃ n : Nat, atW e (47 :: 42 :: (m ++ 42 :: 47 :: w)) = n := ⟨(atW e (47 :: 42 :: (m ++ 42 :: 47 :: w))).toNat, by have := hW.len; (exact ar8 this)⟩
    have hd := hW.drop_eq
    have hlen := hW.len
    rw [hn] at hd
    rw [Int.toNat_natCast] at hd
    have hat : ∀ k : Nat, x.cps.toList[n + 2 + k]? = (m ++ 42 :: 47 :: (w ++ post))[k]? := fun k => by
      have : x.cps.toList[n + 2 + k]? = (x.cps.toList.drop n)[2 + k]? := by rw [List.getElem?_drop]; congr 1; (exact ar404)
      rw [this, hd]
      rw [show 2 + k = k + 1 + 1 by (exact ar403)]; simp
    have hel : e = (n : Int) + 2 + m.length + 2 + w.length := by unfold atW at hn; simp at hn; (exact ar149 hn)
    have hsub : ∀ k : Nat, (n + 2 + k + 2 ≤ x.length ∧ subAt x ⟨#[42, 47]⟩ (n + 2 + k) = true) ↔ ((m ++ 42 :: 47 :: (w ++ post))[k]? = some 42 ∧ (m ++ 42 :: 47 :: (w ++ post))[k + 1]? = some 47) := fun k => by
      rw [subAt_two, hat, show n + 2 + k + 1 = n + 2 + (k + 1) by (exact ar390), hat]
    have hocc : Builtin.Str.occurrences x "*/" (fromIndex x.length (atW e (47 :: 42 :: (m ++ 42 :: 47 :: w)) + 2)) (min (fromIndex x.length e) x.length) 1 = [n + 2 + m.length] := by
      have e1 : fromIndex x.length (atW e (47 :: 42 :: (m ++ 42 :: 47 :: w)) + 2) = n + 2 := by rw [hn]; exact fromIndex_nat _ (n + 2)
      have e2 : fromIndex x.length e = n + 2 + m.length + 2 + w.length := by rw [show e = ((n + 2 + m.length + 2 + w.length : Nat) : Int) by rw [hel]; push_cast; rfl]; exact fromIndex_nat _ _
      rw [e1, e2, show ("*/" : PySem.Str) = ⟨#[42, 47]⟩ from rfl]
      have hx : n + 2 + m.length + 2 + w.length ≤ x.length := by (exact ar16 hlen hel)
      have hk := (hsub m.length).mpr ⟨by simp, by simp⟩
      refine occ_at (by exact ar335) (by show _ + 2 ≤ _; (exact ar15 hx)) hk.2 fun j h1 h2 hj => ?_
      obtain ⟨k, rfl⟩ : ∃ k, j = n + 2 + k := ⟨j - (n + 2), by (exact ar11 h1)⟩
      have hkm : k < m.length := by (exact ar188 h2)
      obtain ⟨a1, a2⟩ := (hsub k).mp ⟨by (exact ar13 hlen hel h2), hj⟩
      refine hm k hkm ⟨?_, ?_⟩
      · rw [List.getElem?_append_left hkm] at a1 ⊢; exact a1
      · by_cases hk1 : k + 1 < m.length
        · rw [List.getElem?_append_left hk1] at a2 ⊢; exact a2
        · have : k + 1 = m.length := by (exact ar157 h2 hk1)
          rw [this] at a2; simp at a2
    refine Wx.cons (Ws.assign OF (We.meth O (We.att O OF .head X.sText h (by repeat constructor) rfl ⟨_, .find, trivial, Wes.cons (We.cstr (Wes.cons (We.bin (We.att O OF .head X.sSpot h (by repeat constructor) rfl (We.cint (BinK.addI (Wes.cons (We.att O OF .head X.sEnd h (by repeat constructor) rfl (Wes.nil (Wf.find4 ?_))))))))))⟩)))
    rw [hocc]
    refine ⟨_, .tail .head, ?_⟩
    refine Wx.cons (Ws.if (Wt.cmp O (We.name OF (.tail .head) (We.cint (.lt false (by show decide (((n + 2 + m.length : Nat) : Int) < 0) = false; simp; (exact ar95)) ?_)))))
    rw [if_neg (by decide)]
    refine Wx.nil (Wx.cons (Ws.assignAttr O (We.bin (We.name OF (.tail .head) (We.cint (BinK.addI (We.name OF .head ⟨_, _, _, _, rfl, h, .spot, by simp, X.ssSpot, ?_⟩)))))))
    refine Wx.nil (Wx.nil (Wx.nil (Wx.nil ?_)))
    show Wl _ _ _ _ _ _ _ _ _ _ _
    rw [show ((n + 2 + m.length : Nat) : Int) + 2 = atW e w by unfold atW; push_cast; (exact ar24 hel)]
    have hW' : Win x e w post := Win.drop (u := 47 :: 42 :: (m ++ [42, 47])) (by simpa using hW)
    refine ih _ _ (set_get h) hW' ?_ ?_ <;> (intro oc; rw [List.set_set]; first | exact hP oc | exact hR oc)
theorem c_skip {Q : V → List AObj → Prop} {w' : List Nat} (O : Γ.Ok) (X : KF Γ.K Γ.w.params Γ.prog) (hA : AOk A st (b + 2)) (h : σ[i]? = some (.inst cScan (scanFs x (atW e w) e d))) (hw : Win x e w post) (hs : Skp post w w')
    (hq : Q .none (σ.set i (.inst cScan (scanFs x (atW e w') e d)))) : Wc Γ A st (.glob 124) [.obj i] σ Q E :=
  Wc.fn O hA X.skip rfl fun L A' hA' hL => Wx.cons (Ws.while (l_skip O X hA' hs σ none h hw (fun oc => Wx.nil hq) (fun oc => hq)))
end
end
section
open Builtin Builtin.Str
section
variable {Γ : Cx} {A : Around} {st : List Env} {F : Fn} {L : Addr} {ℓ : List (Option V)} {σ : List AObj} {E : Int → Prop}
variable {P : Bool → Prop}
theorem CmpK.le {i j : Int} (c : Bool) (h : decide (i ≤ j) = c) (hp : P c) : CmpK Γ .LtE (.int i) (.int j) P := by subst h; exact hp
theorem CmpK.gt {i j : Int} (c : Bool) (h : decide (j < i) = c) (hp : P c) : CmpK Γ .Gt (.int i) (.int j) P := by subst h; exact hp
theorem CmpK.eqI {i j : Int} (c : Bool) (h : (i == j) = c) (hp : P c) : CmpK Γ .Eq (.int i) (.int j) P := by subst h; exact hp
theorem CmpK.eqS {x y : PySem.Str} (c : Bool) (h : (x == y) = c) (hp : P c) : CmpK Γ .Eq (.str x) (.str y) P := by subst h; exact hp
theorem CmpK.neS {x y : PySem.Str} (c : Bool) (h : (x == y) = c) (hp : P (!c)) : CmpK Γ .NotEq (.str x) (.str y) P := by subst h; exact hp
theorem CmpK.inS {x y : PySem.Str} (c : Bool) (h : Txt.contains y x = c) (hp : P c) : CmpK Γ .In (.str x) (.str y) P := by subst h; exact hp
theorem CmpK.inT {x : PySem.Str} (ys : List PySem.Str) {Ws : List V} (he : Ws = ys.map V.str) (c : Bool) (h : ys.any (· == x) = c) (hp : P c) : CmpK Γ .In (.str x) (.tup Ws) P := ⟨ys, he, by subst h; exact hp⟩
theorem CmpK.notInT {x : PySem.Str} (ys : List PySem.Str) {Ws : List V} (he : Ws = ys.map V.str) (c : Bool) (h : ys.any (· == x) = c) (hp : P (!c)) : CmpK Γ .NotIn (.str x) (.tup Ws) P := ⟨ys, he, by subst h; exact hp⟩
theorem BinK.subI {i j : Int} {σ : List AObj} {Q : V → List AObj → Prop} (h : Q (.int (i - j)) σ) : BinK .Sub (.int i) (.int j) σ Q := h
theorem BinK.addS {x y : PySem.Str} {σ : List AObj} {Q : V → List AObj → Prop} (hl : x.length + y.length ≤ sizeLim) (h : Q (.str (x ++ y)) σ) : BinK .Add (.str x) (.str y) σ Q := ⟨hl, h⟩
variable {Q : Fl → List (Option V) → List AObj → Prop}
theorem Ws.ifT {t : Expr} {a b : List Stmt} {pos} (h : Wt Γ A st F L t ℓ σ (fun c σ1 => c = true ∧ Wx Γ A st F L a ℓ σ1 Q E) E) : Ws Γ A st F L (.If t a b pos) ℓ σ Q E :=
  Ws.if (Wt.mono h (fun c σ1 hpt => by obtain ⟨h1, h2⟩ := hpt; subst h1; simpa using h2) fun _ x => x)
theorem Ws.ifF {t : Expr} {a b : List Stmt} {pos} (h : Wt Γ A st F L t ℓ σ (fun c σ1 => c = false ∧ Wx Γ A st F L b ℓ σ1 Q E) E) : Ws Γ A st F L (.If t a b pos) ℓ σ Q E :=
  Ws.if (Wt.mono h (fun c σ1 hpt => by obtain ⟨h1, h2⟩ := hpt; subst h1; simpa using h2) fun _ x => x)
theorem Wl.go {test : Expr} {body : List Stmt} (hA : A.frames = some (F.env L :: st)) (h : Wt Γ A st F L test ℓ σ (fun c σ1 => c = true ∧ Wx Γ A st F L body ℓ σ1 (LoopK Q fun ℓ2 σ2 => Wl Γ A st F L test body ℓ2 σ2 Q E) E) E) : Wl Γ A st F L test body ℓ σ Q E :=
  Wl.step hA (Wt.mono h (fun c σ1 hpt => by obtain ⟨h1, h2⟩ := hpt; subst h1; simpa using h2) fun _ x => x)
theorem Wl.stop {test : Expr} {body : List Stmt} (hA : A.frames = some (F.env L :: st)) (h : Wt Γ A st F L test ℓ σ (fun c σ1 => c = false ∧ Q .next ℓ σ1) E) : Wl Γ A st F L test body ℓ σ Q E :=
  Wl.step hA (Wt.mono h (fun c σ1 hpt => by obtain ⟨h1, h2⟩ := hpt; subst h1; simpa using h2) fun _ x => x)
theorem We.ifexpT {t a b pos} {Q : V → List AObj → Prop} (h : Wt Γ A st F L t ℓ σ (fun c σ1 => c = true ∧ We Γ A st F L a ℓ σ1 Q E) E) : We Γ A st F L (.IfExp t a b pos) ℓ σ Q E :=
  We.ifexp (Wt.mono h (fun c σ1 hpt => by obtain ⟨h1, h2⟩ := hpt; subst h1; simpa using h2) fun _ x => x)
theorem We.ifexpF {t a b pos} {Q : V → List AObj → Prop} (h : Wt Γ A st F L t ℓ σ (fun c σ1 => c = false ∧ We Γ A st F L b ℓ σ1 Q E) E) : We Γ A st F L (.IfExp t a b pos) ℓ σ Q E :=
  We.ifexp (Wt.mono h (fun c σ1 hpt => by obtain ⟨h1, h2⟩ := hpt; subst h1; simpa using h2) fun _ x => x)
theorem Wt.andF {x : Expr} {r : List Expr} {pos} {Q : Bool → List AObj → Prop} (h : Wt Γ A st F L x ℓ σ (fun b σ1 => b = false ∧ Q false σ1) E) : Wt Γ A st F L (.BoolOp .And (x :: r) pos) ℓ σ Q E :=
  Wt.and (Wt.mono h (fun b σ1 hpt => by obtain ⟨h1, h2⟩ := hpt; subst h1; simpa using h2) fun _ x => x)
theorem Wt.andT {x y : Expr} {pos} {Q : Bool → List AObj → Prop} (h : Wt Γ A st F L x ℓ σ (fun b σ1 => b = true ∧ Wt Γ A st F L y ℓ σ1 Q E) E) : Wt Γ A st F L (.BoolOp .And [x, y] pos) ℓ σ Q E :=
  Wt.and (Wt.mono h (fun b σ1 hpt => by
    obtain ⟨h1, h2⟩ := hpt
    subst h1
    simp only [if_true]
    exact Wt.mono h2 (fun c σ2 h3 => by cases c <;> simpa [WtAnd] using h3) fun _ x => x) fun _ x => x)
end
section
variable {Γ : Cx} {A : Around} {st : List Env} {F : Fn} {L : Addr} {ℓ : List (Option V)} {σ : List AObj} {E : Int → Prop} {i : Nat} {x : PySem.Str} {e d spot : Int} {w post : List Nat} {b : Nat} {n : PySem.Str} {p1 p2 p3 p4 p5 : Pos}
theorem a_text {Q : V → List AObj → Prop} (O : Γ.Ok) (X : KF Γ.K Γ.w.params Γ.prog) (OF : FnOk F) (ha : At F.scope.names ℓ n (.obj i)) (h : σ[i]? = some (.inst cScan (scanFs x spot e d))) (hq : Q (.str x) σ) : We Γ A st F L (.Attribute (.Name n p1) "text" p2) ℓ σ Q E := We.att O OF ha X.sText h (by repeat constructor) rfl hq
theorem a_spot {Q : V → List AObj → Prop} (O : Γ.Ok) (X : KF Γ.K Γ.w.params Γ.prog) (OF : FnOk F) (ha : At F.scope.names ℓ n (.obj i)) (h : σ[i]? = some (.inst cScan (scanFs x spot e d))) (hq : Q (.int spot) σ) : We Γ A st F L (.Attribute (.Name n p1) "spot" p2) ℓ σ Q E := We.att O OF ha X.sSpot h (by repeat constructor) rfl hq
theorem a_end {Q : V → List AObj → Prop} (O : Γ.Ok) (X : KF Γ.K Γ.w.params Γ.prog) (OF : FnOk F) (ha : At F.scope.names ℓ n (.obj i)) (h : σ[i]? = some (.inst cScan (scanFs x spot e d))) (hq : Q (.int e) σ) : We Γ A st F L (.Attribute (.Name n p1) "end" p2) ℓ σ Q E := We.att O OF ha X.sEnd h (by repeat constructor) rfl hq
theorem a_depth {Q : V → List AObj → Prop} (O : Γ.Ok) (X : KF Γ.K Γ.w.params Γ.prog) (OF : FnOk F) (ha : At F.scope.names ℓ n (.obj i)) (h : σ[i]? = some (.inst cScan (scanFs x spot e d))) (hq : Q (.int d) σ) : We Γ A st F L (.Attribute (.Name n p1) "depth" p2) ℓ σ Q E := We.att O OF ha X.sDepth h (by repeat constructor) rfl hq
theorem Win.big {c : Nat} (h : Win x e w post) : atW e w < 2 ^ 62 := by have := h.len; unfold sizeLim at this; (exact ar7 this)
theorem a_at {Q : V → List AObj → Prop} {c : Nat} (O : Γ.Ok) (X : KF Γ.K Γ.w.params Γ.prog) (OF : FnOk F) (ha : At F.scope.names ℓ n (.obj i)) (h : σ[i]? = some (.inst cScan (scanFs x (atW e (c :: w)) e d))) (hW : Win x e (c :: w) post) (hq : Q (.str ⟨#[c]⟩) σ) :
    We Γ A st F L (.Subscript (.Attribute (.Name n p1) "text" p2) (.Attribute (.Name n p3) "spot" p4) p5) ℓ σ Q E :=
  We.item O (a_text O X OF ha h (a_spot O X OF ha h (.str hW.len.1 (Win.big (c := 0) hW) hW.head hq)))
theorem m_sign {Q : V → List AObj → Prop} {pl : Env → Sem Bool} (O : Γ.Ok) (X : KF Γ.K Γ.w.params Γ.prog) (OF : FnOk F) (hA : AOk A (F.env L :: st) (b + 1)) (ha : At F.scope.names ℓ n (.obj i)) (h : σ[i]? = some (.inst cScan (scanFs x (atW e w) e d))) (hW : Win x e w post) (hq : Q (.str (sgn w)) σ)
    (he : ∀ env, eval (.Call (.Attribute (.Name n p1) "sign" p2) [] [] p3) env = (do
      let ov ← eval (.Name n p1) env
      standAt p2.atName
      let (f, first) ← holding [ov] (getMethod ov "sign" (pl env))
      callWith p3 f first (backTo p3 (starEach [] env)) []) := by intro; rfl) :
    We Γ A st F L (.Call (.Attribute (.Name n p1) "sign" p2) [] [] p3) ℓ σ Q E :=
  We.mcall O OF ha h X.mSign (scan_no (by decide)) X.kSign (Wes.nil (Wf.of_Wc O (c_sign O X hA h hW hq))) he
theorem s_inc {Q : Fl → List (Option V) → List AObj → Prop} {c : Nat} {k : Nat} (O : Γ.Ok) (X : KF Γ.K Γ.w.params Γ.prog) (OF : FnOk F) (ha : At F.scope.names ℓ n (.obj i)) (h : σ[i]? = some (.inst cScan (scanFs x (atW e (c :: w)) e d))) (hq : Q .next ℓ (σ.set i (.inst cScan (scanFs x (atW e w) e d)))) :
    Ws Γ A st F L (.AugAssign (.Attribute (.Name n p1) "spot" p2) .Add (.Constant (.int 1) k p3) p4) ℓ σ Q E :=
  Ws.augAttr O (We.name OF ha ⟨_, _, _, _, rfl, h, by repeat constructor, X.sSpot, rfl, We.cint ⟨rfl, _, _, rfl, rfl, _, _, _, _, rfl, h, .spot, by simp, X.ssSpot, by rw [atW_tail]; exact hq⟩⟩)
end
end
section
open Builtin Builtin.Str
theorem lets_list : ("abcdefghijklmnopqrstuvwxyzABCDEFGHIJKLMNOPQRSTUVWXYZ" : PySem.Str).cps.toList = (List.range 26).map (· + 97) ++ (List.range 26).map (· + 65) := by decide +kernel
theorem figs_list : ("0123456789" : PySem.Str).cps.toList = (List.range 10).map (· + 48) := by decide +kernel
noncomputable def isLet (c : Nat) : Bool := (97 ≤ c && c ≤ 122) || (65 ≤ c && c ≤ 90)
noncomputable def isFig (c : Nat) : Bool := 48 ≤ c && c ≤ 57
theorem figs_has (c : Nat) : Txt.contains ("0123456789" : PySem.Str) ⟨#[c]⟩ = isFig c := by
  rw [contains_one, figs_list, Bool.eq_iff_iff, decide_eq_true_eq]
  simp only [List.mem_map, List.mem_range, isFig, Bool.and_eq_true, decide_eq_true_eq]
  constructor
  · rintro ⟨a, h, rfl⟩; (exact ar292 h)
  · intro h; exact ⟨c - 48, by (exact ar63 h), by (exact ar68 h)⟩
theorem lets_has (c : Nat) : Txt.contains ("abcdefghijklmnopqrstuvwxyzABCDEFGHIJKLMNOPQRSTUVWXYZ" : PySem.Str) ⟨#[c]⟩ = isLet c := by
  rw [contains_one, lets_list, Bool.eq_iff_iff, decide_eq_true_eq]
  simp only [List.mem_append, List.mem_map, List.mem_range, isLet, Bool.and_eq_true, Bool.or_eq_true, decide_eq_true_eq]
  constructor
  · rintro (⟨a, h, rfl⟩ | ⟨a, h, rfl⟩) <;> (first | lia | omega)
  · rintro (h | h)
    · exact .inl ⟨c - 97, by (exact ar64 h), by (exact ar69 h)⟩
    · exact .inr ⟨c - 65, by (exact ar65 h), by (exact ar70 h)⟩
theorem app_list (a b : PySem.Str) : (a ++ b).cps.toList = a.cps.toList ++ b.cps.toList := by
  show (a.cps ++ b.cps).toList = _
  simp
theorem letsU_has (c : Nat) : Txt.contains (("abcdefghijklmnopqrstuvwxyzABCDEFGHIJKLMNOPQRSTUVWXYZ" : PySem.Str) ++ ("_" : PySem.Str)) ⟨#[c]⟩ = (isLet c || c == 95) := by
  have := lets_has c
  rw [contains_one] at this ⊢
  rw [app_list, show ("_" : PySem.Str).cps.toList = [95] by decide +kernel, Bool.eq_iff_iff]
  rw [Bool.eq_iff_iff] at this
  simp only [decide_eq_true_eq, List.mem_append, List.mem_singleton, Bool.or_eq_true, beq_iff_eq] at this ⊢
  rw [this]
theorem wordS_has (c : Nat) : Txt.contains (("abcdefghijklmnopqrstuvwxyzABCDEFGHIJKLMNOPQRSTUVWXYZ" : PySem.Str) ++ ("0123456789" : PySem.Str) ++ ("_" : PySem.Str)) ⟨#[c]⟩ = (isLet c || isFig c || c == 95) := by
  have h1 := lets_has c
  have h2 := figs_has c
  rw [contains_one] at h1 h2 ⊢
  rw [app_list, app_list, show ("_" : PySem.Str).cps.toList = [95] by decide +kernel, Bool.eq_iff_iff]
  rw [Bool.eq_iff_iff] at h1 h2
  simp only [decide_eq_true_eq, List.mem_append, List.mem_singleton, Bool.or_eq_true, beq_iff_eq] at h1 h2 ⊢
  rw [h1, h2]
noncomputable abbrev roW : Stmt := stI (bM 20 3) 1
section
variable {Γ : Cx} {A : Around} {st : List Env} {L : Addr} {σ : List AObj} {E : Int → Prop} {i : Nat} {x sg : PySem.Str} {e d : Int} {w post : List Nat} {b : Nat}
theorem l_run (O : Γ.Ok) (X : KF Γ.K Γ.w.params Γ.prog) (hA : AOk A (fRunOf.env L :: st) b) {r : List (Option V)} {P : Fl → List (Option V) → List AObj → Prop} (hw : ∀ c, w.head? = some c → Txt.contains sg ⟨#[c]⟩ = false) : ∀ (u : List Nat) (σ : List AObj), (∀ c ∈ u, Txt.contains sg ⟨#[c]⟩ = true) → σ[i]? = some (.inst cScan (scanFs x (atW e (u ++ w)) e d)) → Win x e (u ++ w) post →
    P .next (some (.obj i) :: some (.str sg) :: r) (σ.set i (.inst cScan (scanFs x (atW e w) e d))) → Wl Γ A st fRunOf L (whT roW) (whB roW) (some (.obj i) :: some (.str sg) :: r) σ P E := by
  have OF := X.runOf.ok
  intro u
  induction u with
  | nil =>
    intro σ hu h hW hP
    rw [show atW e w = atW e ([] ++ w) from rfl, set_same h] at hP
    cases w with
    | nil => exact Wl.stop hA.frames (Wt.andF (Wt.cmp O (a_spot O X OF .head h (a_end O X OF .head h (.lt false (by simp [atW]) ⟨rfl, rfl, hP⟩)))))
    | cons c w => exact Wl.stop hA.frames (Wt.andT (Wt.cmp O (a_spot O X OF .head h (a_end O X OF .head h (.lt true (by simp [atW]; (exact ar46)) ⟨rfl, Wt.cmp O (a_at O X OF .head h hW (We.name OF (.tail .head) (.inS false (hw c rfl) ⟨rfl, hP⟩)))⟩)))))
  | cons c u ih =>
    intro σ hu h hW hP
    refine Wl.go hA.frames (Wt.andT (Wt.cmp O (a_spot O X OF .head h (a_end O X OF .head h (.lt true (by simp [atW]; (exact ar213)) ⟨rfl, Wt.cmp O (a_at O X OF .head h hW (We.name OF (.tail .head) (.inS true (hu c (.head _)) ⟨rfl, ?_⟩)))⟩)))))
    refine Wx.cons (s_inc O X OF .head h (Wx.nil ?_))
    refine ih _ (fun c hc => hu c (.tail _ hc)) (set_get h) hW.tail ?_
    rw [List.set_set]; exact hP
theorem c_runOf {Q : V → List AObj → Prop} {u : List Nat} (O : Γ.Ok) (X : KF Γ.K Γ.w.params Γ.prog) (hA : AOk A st (b + 1)) (h : σ[i]? = some (.inst cScan (scanFs x (atW e (u ++ w)) e d))) (hW : Win x e (u ++ w) post)
    (hu : ∀ c ∈ u, Txt.contains sg ⟨#[c]⟩ = true) (hw : ∀ c, w.head? = some c → Txt.contains sg ⟨#[c]⟩ = false)
    (hq : Q (.str (mkS u)) (σ.set i (.inst cScan (scanFs x (atW e w) e d)))) : Wc Γ A st (.glob 131) [.obj i, .str sg] σ Q E := by
  have OF := X.runOf.ok
  refine Wc.fn O hA X.runOf rfl fun L A' hA' hL => ?_
  refine Wx.cons (Ws.assign OF (a_spot O X OF .head h ⟨_, .tail (.tail .head), ?_⟩))
  refine Wx.cons (Ws.while (l_run O X hA' hw u σ hu h hW ?_))
  have h' := set_get (b := AObj.inst cScan (scanFs x (atW e w) e d)) h
  refine Wx.cons (Ws.ret (We.slice (a_text O X OF .head h' (Wpart.some (We.name OF (by repeat constructor) ⟨_, rfl, Wpart.some (a_spot O X OF .head h' ⟨_, rfl, .str (by have := hW.len; (exact ar14 this)) ?_⟩)⟩)))))
  have e1 : atW e w = atW e (u ++ w) + (u.length : Nat) := by unfold atW; simp; (exact ar395)
  have e2 : Txt.slice x (some (atW e (u ++ w))) (some (atW e w)) = mkS u := by rw [e1, hW.slice]; simp
  rw [e2]
  exact hq
end
end
section
open Builtin Builtin.Str
section
variable {Γ : Cx} {A : Around} {st : List Env} {L : Addr} {σ : List AObj} {E : Int → Prop} {i : Nat} {x sg : PySem.Str} {e d : Int} {w post : List Nat} {b : Nat} {F : Fn} {ℓ : List (Option V)} {p1 p2 p3 : Pos}
theorem len_mkS (u : List Nat) : (mkS u).length = u.length := by show (u.toArray).size = _; simp
theorem b_len {Q : V → List AObj → Prop} {s : PySem.Str} {a : Expr} (O : Γ.Ok) (X : KF Γ.K Γ.w.params Γ.prog) (OF : FnOk F) (hm : (("len" : PySem.Str), NameKind.globalImplicit) ∈ F.scope.names) (ha : We Γ A st F L a ℓ σ (fun W σ1 => W = .str s ∧ s.length ≤ sizeLim ∧ Q (.int s.length) σ1) E)
    (he : ∀ env, starEach [a] env = (false, eval a env) :: starEach [] env := by intro; rfl) (hp : ∀ env, (starEach [a] env).any (·.1) = false := by intro; rfl) :
    We Γ A st F L (.Call (.Name "len" p1) [a] [] p2) ℓ σ Q E :=
  We.call O (We.gname O OF hm X.blen ⟨trivial, Wes.cons (ha.mono (fun W σ1 hpt => by obtain ⟨h1, h2, h3⟩ := hpt; exact Wes.nil (by subst h1; exact Wf.lenStr h2 h3)) fun _ x => x) he⟩) hp
theorem b_lenL {Q : V → List AObj → Prop} {a : Expr} (O : Γ.Ok) (X : KF Γ.K Γ.w.params Γ.prog) (OF : FnOk F) (hm : (("len" : PySem.Str), NameKind.globalImplicit) ∈ F.scope.names) (ha : We Γ A st F L a ℓ σ (fun W σ1 => ∃ j vs, W = .obj j ∧ σ1[j]? = some (.list vs) ∧ vs.length ≤ sizeLim ∧ Q (.int vs.length) σ1) E)
    (he : ∀ env, starEach [a] env = (false, eval a env) :: starEach [] env := by intro; rfl) (hp : ∀ env, (starEach [a] env).any (·.1) = false := by intro; rfl) :
    We Γ A st F L (.Call (.Name "len" p1) [a] [] p2) ℓ σ Q E :=
  We.call O (We.gname O OF hm X.blen ⟨trivial, Wes.cons (ha.mono (fun W σ1 hpt => by obtain ⟨j, vs, h1, h2, h3, h4⟩ := hpt; exact Wes.nil (by subst h1; exact Wf.lenList h2 h3 h4)) fun _ x => x) he⟩) hp
theorem c_number {Q : V → List AObj → Prop} {u : List Nat} {n : Int} (O : Γ.Ok) (X : KF Γ.K Γ.w.params Γ.prog) (hA : AOk A st (b + 2)) (h : σ[i]? = some (.inst cScan (scanFs x (atW e (u ++ w)) e d))) (hW : Win x e (u ++ w) post)
    (hu : ∀ c ∈ u, isFig c = true) (hw : ∀ c, w.head? = some c → isFig c = false ∧ isLet c = false ∧ c ≠ 95) (hl : u.length ≤ 60) (hn : PySem.intText? (mkS u) = some n)
    (hq : Q (.tup [.str "int", .int n, .int (atW e (u ++ w))]) (σ.set i (.inst cScan (scanFs x (atW e w) e d)))) : Wc Γ A st (.glob 138) [.obj i] σ Q E := by
  have OF := X.number.ok
  refine Wc.fn O hA X.number rfl fun L A' hA' hL => ?_
  have h' := set_get (b := AObj.inst cScan (scanFs x (atW e w) e d)) h
  have hW' : Win x e w post := hW.drop
  refine Wx.cons (Ws.assign OF (a_spot O X OF .head h ⟨_, .tail .head, ?_⟩))
  refine Wx.cons (Ws.assign OF (We.mcall O OF .head h X.mRunOf (scan_no (by decide)) X.kRunOf (Wes.cons (We.gname O OF (by repeat constructor) X.FIGURES (Wes.nil (Wf.of_Wc O (c_runOf O X hA' h hW (fun c hc => by rw [figs_has]; exact hu c hc) (fun c hc => by rw [figs_has]; exact (hw c hc).1) ⟨_, .tail (.tail .head), ?_⟩)))))))
  refine Wx.cons (Ws.ifF (Wt.cmp O (b_len O X OF (by repeat constructor) (We.name OF (by repeat constructor) ⟨rfl, by rw [len_mkS]; unfold sizeLim; (exact Nat.le_trans (by assumption) (by decide)), We.gname O OF (by repeat constructor) X.MOST_FIGURES (.gt false (by rw [len_mkS]; simp; (exact ar344 hl)) ⟨rfl, Wx.nil ?_⟩)⟩))))
  have tail : Wx Γ A' st fNumber L [stI (bM 20 4) 4] (init fNumber ([V.obj i] ++ []) |>.set 1 (some (.int (atW e (u ++ w)))) |>.set 2 (some (.str (mkS u)))) (σ.set i (.inst cScan (scanFs x (atW e w) e d))) (RetK Q) E := by
    refine Wx.cons (Ws.ret (We.tuple (by decide) (Wes.cons (We.cstr (Wes.cons (We.call O (We.gname O OF (by repeat constructor) X.tint ⟨trivial, Wes.cons (We.name OF (by repeat constructor) (Wes.nil (Wf.intText hn (by rw [len_mkS]; (exact Nat.le_trans (by assumption) (by decide))) ?_)))⟩)))))))
    exact Wes.cons (We.name OF (by repeat constructor) (Wes.nil ⟨by simp, hq⟩))
  cases w with
  | nil => exact Wx.cons (Ws.ifF (Wt.andF (Wt.cmp O (m_sign O X OF hA' .head h' hW' (We.cstr (.neS true rfl ⟨rfl, rfl, Wx.nil tail⟩))))))
  | cons c w =>
    have hc := hw c rfl
    refine Wx.cons (Ws.ifF (Wt.andT (Wt.cmp O (m_sign O X OF hA' .head h' hW' (We.cstr (.neS false ?_ ⟨rfl, Wt.cmp O (m_sign O X OF hA' .head h' hW' (We.bin (We.gname O OF (by repeat constructor) X.LETTERS (We.cstr (.addS (by decide) (.inS false ?_ ⟨rfl, Wx.nil tail⟩))))))⟩))))))
    · show ((⟨#[c]⟩ : PySem.Str) == "") = false
      rw [str_eq_iff]; simp [show ("" : PySem.Str).cps.toList = [] from rfl]
    · show Txt.contains _ ⟨#[c]⟩ = false
      rw [letsU_has, hc.2.1]; simp [hc.2.2]
theorem c_word {Q : V → List AObj → Prop} {u : List Nat} (O : Γ.Ok) (X : KF Γ.K Γ.w.params Γ.prog) (hA : AOk A st (b + 2)) (h : σ[i]? = some (.inst cScan (scanFs x (atW e (u ++ w)) e d))) (hW : Win x e (u ++ w) post)
    (hu : ∀ c ∈ u, (isLet c || isFig c || c == 95) = true) (hw : ∀ c, w.head? = some c → (isLet c || isFig c || c == 95) = false) (hl : u.length ≤ 60) (hn : wordsL.any (· == mkS u) = false)
    (hq : Q (.tup [.str "name", .str (mkS u), .int (atW e (u ++ w))]) (σ.set i (.inst cScan (scanFs x (atW e w) e d)))) : Wc Γ A st (.glob 145) [.obj i] σ Q E := by
  have OF := X.word.ok
  refine Wc.fn O hA X.word rfl fun L A' hA' hL => ?_
  have h' := set_get (b := AObj.inst cScan (scanFs x (atW e w) e d)) h
  refine Wx.cons (Ws.assign OF (a_spot O X OF .head h ⟨_, .tail .head, ?_⟩))
  refine Wx.cons (Ws.assign OF (We.mcall O OF .head h X.mRunOf (scan_no (by decide)) X.kRunOf (Wes.cons (We.bin (We.bin (We.gname O OF (by repeat constructor) X.LETTERS (We.gname O OF (by repeat constructor) X.FIGURES (.addS (by decide) (We.cstr (.addS (by decide) (Wes.nil (Wf.of_Wc O (c_runOf O X hA' h hW (fun c hc => by rw [wordS_has]; exact hu c hc) (fun c hc => by rw [wordS_has]; exact hw c hc) ⟨_, .tail (.tail .head), ?_⟩)))))))))))))
  refine Wx.cons (Ws.ret (We.tuple (by decide) (Wes.cons (We.ifexpF (Wt.cmp O (We.name OF (by repeat constructor) (We.gname O OF (by repeat constructor) X.WORDS (.inT wordsL rfl false hn ⟨rfl, We.cstr ?_⟩))))))))
  exact Wes.cons (We.name OF (by repeat constructor) (Wes.cons (We.name OF (by repeat constructor) (Wes.nil ⟨by simp, hq⟩))))
end
end
section
open Builtin Builtin.Str
section
variable {Γ : Cx} {A : Around} {st : List Env} {L : Addr} {σ : List AObj} {E : Int → Prop} {i : Nat} {x sg : PySem.Str} {e d : Int} {w post : List Nat} {b : Nat} {F : Fn} {ℓ : List (Option V)} {p1 p2 p3 : Pos}
theorem starts_win {y : PySem.Str} (h : Win x e w post) : (fromIndex x.length (atW e w) + y.length ≤ min (fromIndex x.length e) x.length && subAt x y (fromIndex x.length (atW e w))) = decide (y.cps.toList <+: w) := by
  have hl := h.len
  have hd := h.drop_eq
  obtain ⟨n, hn⟩ : ∃ n : Nat, atW e w = n := ⟨(atW e w).toNat, by (exact ar8 hl)⟩
  have he : e = ((n + w.length : Nat) : Int) := by unfold atW at hn; push_cast; (exact ar272 hn)
  rw [hn] at hd ⊢
  rw [Int.toNat_natCast] at hd
  rw [fromIndex_nat, he, fromIndex_nat, StrLaws.subAt_eq, hd]
  have hlen : y.length = y.cps.toList.length := by simp [PySem.Str.length]
  have hxl : n + w.length ≤ x.length := by (exact ar57 hl hn)
  rw [Bool.eq_iff_iff, Bool.and_eq_true, decide_eq_true_eq, decide_eq_true_eq, beq_iff_eq, hlen]
  generalize y.cps.toList = l
  rw [List.prefix_iff_eq_take]
  constructor
  · rintro ⟨h1, h2⟩
    rw [List.take_append_of_le_length (by exact ar78 h1)] at h2
    exact h2.symm
  · intro h1
    have h2 := congrArg List.length h1
    rw [List.length_take] at h2
    refine ⟨by (exact ar25 hxl h2), ?_⟩
    rw [List.take_append_of_le_length (by exact ar251 h2)]
    exact h1.symm
noncomputable abbrev mkF : Stmt := stI (bM 20 8) 0
theorem l_mark {P : Fl → List (Option V) → List AObj → Prop} {w' : List Nat} {suf : List PySem.Str} (O : Γ.Ok) (X : KF Γ.K Γ.w.params Γ.prog) (hA : AOk A (fMark.env L :: st) b) {r : List (Option V)} {xp : Pos} (h : σ[i]? = some (.inst cScan (scanFs x (atW e w) e d))) (hW : Win x e w post) (hw : w = sg.cps.toList ++ w') (hne : (sg == "==") = false)
    (hP : ∀ o, P (.ret (.tup [.str "sign", .str sg, .int (atW e w)])) (some (.obj i) :: o :: r) (σ.set i (.inst cScan (scanFs x (atW e w') e d)))) :
    ∀ (pre done : List PySem.Str) (o : Option V), (∀ s ∈ pre, ¬ s.cps.toList <+: w) → Wfr Γ A st fMark L "sign" xp (.tup ((done ++ pre ++ sg :: suf).map .str) done.length) (whB mkF) (some (.obj i) :: o :: r) σ P E := by
  have OF := X.mark.ok
  have hws : w.length = sg.length + w'.length := by rw [hw]; simp [PySem.Str.length]
  have hls : sg.length ≤ sizeLim := by have := hW.len; (exact ar55 hws this)
  intro pre
  induction pre with
  | nil =>
    intro done o hp
    refine Wfr.step O OF hA.frames (W := .str sg) (.tup (by simp)) ⟨_, .tail .head, ?_⟩
    refine Wx.cons (Ws.ifT (Wt.plain (We.meth O (a_text O X OF .head h ⟨_, .startswith, trivial, Wes.cons (We.name OF (by repeat constructor) (Wes.cons (a_spot O X OF .head h (Wes.cons (a_end O X OF .head h (Wes.nil (Wf.startswith4 ?_)))))))⟩))))
    show TruK (.bool _) _
    refine ⟨by rw [starts_win hW]; simp [hw], ?_⟩
    refine Wx.cons (Ws.augAttr O (We.name OF .head ⟨_, _, _, _, rfl, h, by repeat constructor, X.sSpot, rfl, b_len O X OF (by repeat constructor) (We.name OF (by repeat constructor) ⟨rfl, hls, rfl, _, _, rfl, rfl, _, _, _, _, rfl, h, .spot, by simp, X.ssSpot, ?_⟩)⟩))
    rw [show atW e w + ((sg.length : Nat) : Int) = atW e w' by unfold atW; (exact ar182 hws)]
    have h' := set_get (b := AObj.inst cScan (scanFs x (atW e w') e d)) h
    refine Wx.cons (Ws.ret (We.tuple (by decide) (Wes.cons (We.cstr (Wes.cons (We.ifexpF (Wt.cmp O (We.name OF (by repeat constructor) (We.cstr (.eqS false hne ⟨rfl, We.name OF (by repeat constructor) ?_⟩))))))))))
    refine Wes.cons (We.bin (a_spot O X OF .head h' (b_len O X OF (by repeat constructor) (We.name OF (by repeat constructor) ⟨rfl, hls, .subI (Wes.nil ⟨by simp, ?_⟩)⟩))))
    rw [show atW e w' - ((sg.length : Nat) : Int) = atW e w by unfold atW; (exact ar180 hws)]
    exact hP _
  | cons s pre ih =>
    intro done o hp
    refine Wfr.step O OF hA.frames (W := .str s) (.tup (by simp)) ⟨_, .tail .head, ?_⟩
    refine Wx.cons (Ws.ifF (Wt.plain (We.meth O (a_text O X OF .head h ⟨_, .startswith, trivial, Wes.cons (We.name OF (by repeat constructor) (Wes.cons (a_spot O X OF .head h (Wes.cons (a_end O X OF .head h (Wes.nil (Wf.startswith4 ?_)))))))⟩))))
    show TruK (.bool _) _
    refine ⟨by rw [starts_win hW]; simpa using hp s (.head _), Wx.nil (Wx.nil ?_)⟩
    have := ih (done ++ [s]) (some (.str s)) (fun t ht => hp t (.tail _ ht))
    simp only [List.append_assoc, List.cons_append, List.nil_append, List.length_append, List.length_cons, List.length_nil, Nat.zero_add] at this ⊢
    exact this
theorem c_mark {Q : V → List AObj → Prop} {w' : List Nat} {pre suf : List PySem.Str} (O : Γ.Ok) (X : KF Γ.K Γ.w.params Γ.prog) (hA : AOk A st (b + 1)) (h : σ[i]? = some (.inst cScan (scanFs x (atW e w) e d))) (hW : Win x e w post) (hw : w = sg.cps.toList ++ w') (hne : (sg == "==") = false)
    (hs : signsL = pre ++ sg :: suf) (hp : ∀ s ∈ pre, ¬ s.cps.toList <+: w)
    (hq : Q (.tup [.str "sign", .str sg, .int (atW e w)]) (σ.set i (.inst cScan (scanFs x (atW e w') e d)))) : Wc Γ A st (.glob 166) [.obj i] σ Q E := by
  have OF := X.mark.ok
  refine Wc.fn O hA X.mark rfl fun L A' hA' hL => ?_
  refine Wx.cons (Ws.for O (We.gname O OF (by repeat constructor) X.SIGNS ⟨_, .tup, ?_⟩))
  rw [hs]
  exact l_mark O X hA' h hW hw hne (fun o => hq) pre [] none hp
end
end
section
open Builtin Builtin.Str
section
variable {Γ : Cx} {A : Around} {st : List Env} {L : Addr} {σ : List AObj} {E : Int → Prop} {i j : Nat} {t : PySem.Str} {a e d : Int} {b : Nat}
theorem set_last {α} {σ : List α} {a b : α} : (σ ++ [a]).set σ.length b = σ ++ [b] := by simp
theorem get_last {α} {σ : List α} {a : α} : (σ ++ [a])[σ.length]? = some a := by simp
theorem x_sInit {Q : V → List AObj → Prop} {F : Fn} (OF : FnOk F) (O : Γ.Ok) (X : KF Γ.K Γ.w.params Γ.prog) (hF : F = fSInit) (h : σ[j]? = some (.inst cScan [])) (hq : Q .none (σ.set j (.inst cScan (scanFs t a e d)))) :
    Wx Γ A st fSInit L (bM 20 0) [some (.obj j), some (.str t), some (.int a), some (.int e), some (.int d)] σ (RetK Q) E := by
  subst hF
  refine Wx.cons (Ws.assignAttr O (We.name OF (by repeat constructor) (We.name OF .head ⟨_, _, _, _, rfl, h, .nil, by simp, X.ssText, ?_⟩)))
  refine Wx.cons (Ws.assignAttr O (We.name OF (by repeat constructor) (We.name OF .head ⟨_, _, _, _, rfl, set_get h, .tail (by show ("text" : PySem.Str) ≠ "spot"; decide) .nil, by simp, X.ssSpot, ?_⟩)))
  refine Wx.cons (Ws.assignAttr O (We.name OF (by repeat constructor) (We.name OF .head ⟨_, _, _, _, rfl, set_get (set_get h), .tail (by show ("text" : PySem.Str) ≠ "end"; decide) (.tail (by show ("spot" : PySem.Str) ≠ "end"; decide) .nil), by simp, X.ssEnd, ?_⟩)))
  refine Wx.cons (Ws.assignAttr O (We.name OF (by repeat constructor) (We.name OF .head ⟨_, _, _, _, rfl, set_get (set_get (set_get h)), .tail (by show ("text" : PySem.Str) ≠ "depth"; decide) (.tail (by show ("spot" : PySem.Str) ≠ "depth"; decide) (.tail (by show ("end" : PySem.Str) ≠ "depth"; decide) .nil)), by simp, X.ssDepth, ?_⟩)))
  rw [List.set_set, List.set_set, List.set_set]
  exact Wx.nil hq
theorem c_scan4 {Q : V → List AObj → Prop} (O : Γ.Ok) (X : KF Γ.K Γ.w.params Γ.prog) (hA : AOk A st (b + 2)) (hq : Q (.obj σ.length) (σ ++ [.inst cScan (scanFs t a e d)])) : Wc Γ A st (.glob cScan) [.str t, .int a, .int e, .int d] σ Q E := by
  refine .of_Wk (Wk.make O hA X.clScan fun A' hA' => ?_)
  refine Wk.fn O hA' X.sInit rfl fun L A2 hA2 hL => x_sInit (t := t) (a := a) (e := e) (d := d) X.sInit.ok O X rfl get_last ?_
  exact ⟨rfl, by rw [set_last]; exact hq⟩
theorem c_scan3 {Q : V → List AObj → Prop} (O : Γ.Ok) (X : KF Γ.K Γ.w.params Γ.prog) (hA : AOk A st (b + 2)) (hq : Q (.obj σ.length) (σ ++ [.inst cScan (scanFs t a e 0)])) : Wc Γ A st (.glob cScan) [.str t, .int a, .int e] σ Q E := by
  refine .of_Wk (Wk.make O hA X.clScan fun A' hA' => ?_)
  refine Wk.fn O hA' X.sInit3 rfl fun L A2 hA2 hL => x_sInit (t := t) (a := a) (e := e) (d := 0) X.sInit.ok O X rfl get_last ?_
  exact ⟨rfl, by rw [set_last]; exact hq⟩
end
end
section
open Builtin Builtin.Str
noncomputable def Pre (σ σ1 : List AObj) : Prop := ∃ J, σ1 = σ ++ J
theorem Pre.refl {σ} : Pre σ σ := ⟨[], by simp⟩
theorem Pre.trans {a b c : List AObj} (x : Pre a b) (y : Pre b c) : Pre a c := by obtain ⟨J, rfl⟩ := x; obtain ⟨K, rfl⟩ := y; exact ⟨J ++ K, by simp⟩
theorem Pre.app {σ σ1 : List AObj} {a : AObj} (x : Pre σ σ1) : Pre σ (σ1 ++ [a]) := x.trans ⟨[a], rfl⟩
theorem Pre.set {σ σ1 : List AObj} {k : Nat} {a : AObj} (x : Pre σ σ1) (h : σ.length ≤ k) : Pre σ (σ1.set k a) := by
  obtain ⟨J, rfl⟩ := x
  exact ⟨J.set (k - σ.length) a, by rw [List.set_append_right _ _ h]⟩
theorem Pre.get {σ σ1 : List AObj} {i : Nat} {a : AObj} (x : Pre σ σ1) (h : σ[i]? = some a) : σ1[i]? = some a := by
  obtain ⟨J, rfl⟩ := x
  rw [List.getElem?_append_left (List.getElem?_eq_some_iff.mp h).1]; exact h
theorem Pre.le {σ σ1 : List AObj} (x : Pre σ σ1) : σ.length ≤ σ1.length := by obtain ⟨J, rfl⟩ := x; simp
theorem range_pick {α : Type} (l : List α) (a n : Nat) : ((List.range n).map (a + ·)).filterMap (l[·]?) = (l.drop a).take n := by
  induction n with
  | zero => simp
  | succ n ih =>
    rw [List.range_succ, List.map_append, List.filterMap_append, ih, List.take_add_one, List.getElem?_drop]
    cases h : l[a + n]? <;> simp [h]
theorem pick_dropLast {α : Type} (l : List α) : pick l none (some (-1)) = l.dropLast := by
  unfold pick
  have e : sliceBounds none (some (-1)) none l.length = (((0 : Nat) : Int), ((l.length - 1 : Nat) : Int), 1) := by
    unfold sliceBounds
    simp
    (exact ar3)
  rw [e]
  show List.filterMap _ (sliceRange ((0 : Nat) : Int) ((l.length - 1 : Nat) : Int) 1) = _
  rw [sliceRange_one, range_pick, List.drop_zero, Nat.sub_zero, List.dropLast_eq_take]
theorem pick_tail {α : Type} (l : List α) : pick l (some 1) none = l.drop 1 := by
  unfold pick
  have e : sliceBounds (some 1) none none l.length = (((min 1 l.length : Nat) : Int), ((l.length : Nat) : Int), 1) := by
    unfold sliceBounds
    simp
    (exact ar31)
  rw [e]
  show List.filterMap _ (sliceRange ((min 1 l.length : Nat) : Int) ((l.length : Nat) : Int) 1) = _
  rw [sliceRange_one, range_pick]
  cases l with
  | nil => rfl
  | cons a r => simp
noncomputable def stkS (b : Bool) : PySem.Str := if b then "\"" else "("
noncomputable def stkL (s : List Bool) : List V := s.reverse.map fun b => .str (stkS b)
theorem stkL_cons (b : Bool) (s : List Bool) : stkL (b :: s) = stkL s ++ [.str (stkS b)] := by simp [stkL]
inductive Inn (post : List Nat) : List Bool → List Nat → List Nat → Prop
  | escP {s w wr} (r : Inn post (false :: true :: s) w wr) : Inn post (true :: s) (92 :: 40 :: w) wr
  | esc {s c w wr} (h : c ≠ 40) (r : Inn post (true :: s) w wr) : Inn post (true :: s) (92 :: c :: w) wr
  | qEnd {s w wr} (r : Inn post s w wr) : Inn post (true :: s) (34 :: w) wr
  | inS {s c w wr} (h1 : c ≠ 92) (h2 : c ≠ 34) (r : Inn post (true :: s) w wr) : Inn post (true :: s) (c :: w) wr
  | op {s w wr} (r : Inn post (false :: false :: s) w wr) : Inn post (false :: s) (40 :: w) wr
  | qu {s w wr} (r : Inn post (true :: false :: s) w wr) : Inn post (false :: s) (34 :: w) wr
  | cl {s w wr} (h : s ≠ []) (r : Inn post s w wr) : Inn post (false :: s) (41 :: w) wr
  | fin {w} : Inn post [false] (41 :: w) (41 :: w)
  | rem {s c w w' wr} (h : c = 37 ∨ (c = 47 ∧ (w ++ post).head? = some 42)) (hs : Skp post (c :: w) w') (hl : w'.length < (c :: w).length) (r : Inn post (false :: s) w' wr) : Inn post (false :: s) (c :: w) wr
  | oth {s c w wr} (h1 : c ≠ 40) (h2 : c ≠ 34) (h3 : c ≠ 41) (h4 : c ≠ 37) (h5 : ¬ (c = 47 ∧ (w ++ post).head? = some 42)) (r : Inn post (false :: s) w wr) : Inn post (false :: s) (c :: w) wr
noncomputable abbrev ieW : Stmt := stI (bM 20 6) 1
section
variable {Γ : Cx} {A : Around} {st : List Env} {F : Fn} {L : Addr} {ℓ : List (Option V)} {σ : List AObj} {E : Int → Prop} {k : Nat}
theorem a_top {Q : V → List AObj → Prop} {n : PySem.Str} {p1 p2 p3 p4 : Pos} {u : Nat} {b : Bool} {s : List Bool} (O : Γ.Ok) (OF : FnOk F) (ha : At F.scope.names ℓ n (.obj k)) (h : σ[k]? = some (.list (stkL (b :: s)))) (hq : Q (.str (stkS b)) σ) :
    We Γ A st F L (.Subscript (.Name n p1) (.UnaryOp .USub (.Constant (.int 1) u p2) p3) p4) ℓ σ Q E :=
  We.item O (We.name OF ha (We.neg (We.cint ⟨1, rfl, ⟨_, _, h, .inr ⟨rfl, by simp [stkL_cons]⟩, hq⟩⟩)))
theorem Wpart.none {Γ : Cx} {A : Around} {st : List Env} {F : Fn} {L : Addr} {ℓ : List (Option V)} {σ : List AObj} {E : Int → Prop} {Q : Option Int → List AObj → Prop} (h : Q .none σ) : Wpart Γ A st F L .none ℓ σ Q E := h
theorem SliceK.list {base : Expr} {j : Nat} {vs : List V} {lo hi : Option Int} {σ : List AObj} {Q : V → List AObj → Prop} (hb : isName base = true) (h : σ[j]? = some (.list vs)) (hl : vs.length ≤ sizeLim) (hq : Q (.obj σ.length) (σ ++ [.list (pick vs lo hi)])) : SliceK base (.obj j) lo hi σ Q := ⟨hb, vs, h, hl, hq⟩
noncomputable def ifT : Stmt → Expr
  | .If t .. => t
  | _ => .Constant .none 0 ⟨0, 0, 0, 0⟩
theorem inPQ {c : Nat} (h1 : c ≠ 40) (h2 : c ≠ 34) : (["(", "\""] : List PySem.Str).any (· == ⟨#[c]⟩) = false := by
  have e1 : ((("(" : PySem.Str)) == ⟨#[c]⟩) = false := by rw [show ("(" : PySem.Str) = ⟨#[40]⟩ from rfl, chr_eq c 40 rfl]; simpa using Ne.symm h1
  have e2 : ((("\"" : PySem.Str)) == ⟨#[c]⟩) = false := by rw [show ("\"" : PySem.Str) = ⟨#[34]⟩ from rfl, chr_eq c 34 rfl]; simpa using Ne.symm h2
  simp [e1, e2]
theorem Skp.suffix {post w w' : List Nat} (h : Skp post w w') : ∃ u, w = u ++ w' := by
  induction h with
  | nil => exact ⟨[], rfl⟩
  | @blank c w w' _ _ ih => obtain ⟨u, hu⟩ := ih; exact ⟨c :: u, by rw [hu]; rfl⟩
  | @line l w w' _ _ _ ih => obtain ⟨u, hu⟩ := ih; exact ⟨37 :: (l ++ u), by rw [hu]; simp⟩
  | @block m w w' _ _ ih => obtain ⟨u, hu⟩ := ih; exact ⟨47 :: 42 :: (m ++ 42 :: 47 :: u), by rw [hu]; simp⟩
  | other _ _ _ => exact ⟨[], rfl⟩
theorem Wt.or2F {Γ : Cx} {A : Around} {st : List Env} {F : Fn} {L : Addr} {ℓ : List (Option V)} {σ : List AObj} {E : Int → Prop} {x y : Expr} {pos} {Q : Bool → List AObj → Prop} (h : Wt Γ A st F L x ℓ σ (fun b σ1 => b = false ∧ Wt Γ A st F L y ℓ σ1 Q E) E) : Wt Γ A st F L (.BoolOp .Or [x, y] pos) ℓ σ Q E :=
  Wt.or (Wt.mono h (fun b σ1 hpt => by
    obtain ⟨h1, h2⟩ := hpt
    subst h1
    simp only [Bool.false_eq_true, if_false]
    exact Wt.mono h2 (fun c σ2 h3 => by cases c <;> simpa [WtOr] using h3) fun _ x => x) fun _ x => x)
theorem stkL_len (s : List Bool) : (stkL s).length = s.length := by simp [stkL]
theorem lt_of_some {α} {σ : List α} {k : Nat} {a : α} (h : σ[k]? = some a) : k < σ.length := (List.getElem?_eq_some_iff.mp h).1
theorem get_app {σ : List AObj} {k : Nat} {a b : AObj} (h : σ[k]? = some a) : (σ ++ [b])[k]? = some a := by rw [List.getElem?_append_left (lt_of_some h)]; exact h
end
section
variable {Γ : Cx} {A : Around} {st : List Env} {L : Addr} {σ : List AObj} {E : Int → Prop} {i : Nat} {x : PySem.Str} {e d spot : Int} {w post : List Nat} {b : Nat}
set_option maxHeartbeats 2000000 in
theorem l_inner {P : Fl → List (Option V) → List AObj → Prop} {wr : List Nat} (O : Γ.Ok) (X : KF Γ.K Γ.w.params Γ.prog) (hA : AOk A (fInnerEnd.env L :: st) (b + 3)) {r : List (Option V)} {bg : V} (hi : σ[i]? = some (.inst cScan (scanFs x spot e d))) {M : Nat} (hM : M + 10 ≤ sizeLim)
    (hP : ∀ ℓ σ', Pre σ σ' → P (.ret (.int (atW e wr))) ℓ σ') {s : List Bool} (hs : Inn post s w wr) : ∀ (σ1 : List AObj) (k : Nat) (o1 o2 o3 : Option V), Pre σ σ1 → σ.length ≤ k → σ1[k]? = some (.list (stkL s)) → Win x e w post → s.length + w.length ≤ M →
      Wl Γ A st fInnerEnd L (whT ieW) (whB ieW) (some (.obj i) :: some bg :: some (.int (atW e w)) :: some (.obj k) :: o1 :: o2 :: o3 :: r) σ1 P E := by
  have OF := X.innerEnd.ok
  have go : ∀ {c : Nat} {w : List Nat} {σ1 : List AObj} {k : Nat} {o1 o2 o3 : Option V}, Pre σ σ1 → Win x e (c :: w) post →
      Wx Γ A st fInnerEnd L (stI (whB ieW) 1 :: [stI (whB ieW) 2]) (some (.obj i) :: some bg :: some (.int (atW e (c :: w))) :: some (.obj k) :: some (.str ⟨#[c]⟩) :: some (.str (mkS ((c :: w ++ post).take 2))) :: o3 :: r) σ1 (LoopK P fun ℓ2 σ2 => Wl Γ A st fInnerEnd L (whT ieW) (whB ieW) ℓ2 σ2 P E) E →
      Wl Γ A st fInnerEnd L (whT ieW) (whB ieW) (some (.obj i) :: some bg :: some (.int (atW e (c :: w))) :: some (.obj k) :: o1 :: o2 :: o3 :: r) σ1 P E := by
    intro c w σ1 k o1 o2 o3 hp hW hk
    have h := hp.get hi
    refine Wl.go hA.frames (Wt.cmp O (We.name OF (by repeat constructor) (a_end O X OF .head h (.lt true (by simp [atW]; (exact ar46)) ⟨rfl, ?_⟩))))
    refine Wx.cons (Ws.assignSwap (names := ["sign", "behind"]) hA.handled (We.tuple (by decide) (Wes.cons (We.item O (a_text O X OF .head h (We.name OF (by repeat constructor) (.str hW.len.1 (Win.big (c := 0) hW) hW.head ?_)))))) (by intro; rfl) (by rfl))
    refine Wes.cons (We.slice (a_text O X OF .head h (Wpart.some (We.name OF (by repeat constructor) ⟨_, rfl, Wpart.some (We.bin (We.name OF (by repeat constructor) (We.cint (.addI ⟨_, rfl, .str (by have := hW.len; (exact ar14 this)) (Wes.nil ⟨by simp, _, rfl, by simp, ?_⟩)⟩))))⟩))))
    rw [show atW e (c :: w) + 2 = atW e (c :: w) + ((2 : Nat) : Int) from rfl, hW.slice]
    refine Wa.bind OF ⟨_, .tail (.tail (.tail (.tail (.tail .head)))), ?_⟩
    refine Wa.bind OF ⟨_, .tail (.tail (.tail (.tail .head))), ?_⟩
    exact hk
  -- a turn's last statement
  have last : ∀ {v : Int} {w : List Nat} {σ1 : List AObj} {k : Nat} {o1 o2 o3 : Option V} {T : Fl → List (Option V) → List AObj → Prop}, v + 1 = atW e w → T = (LoopK P fun ℓ2 σ2 => Wl Γ A st fInnerEnd L (whT ieW) (whB ieW) ℓ2 σ2 P E) →
      Wl Γ A st fInnerEnd L (whT ieW) (whB ieW) (some (.obj i) :: some bg :: some (.int (atW e w)) :: some (.obj k) :: o1 :: o2 :: o3 :: r) σ1 P E →
      Wx Γ A st fInnerEnd L [stI (whB ieW) 2] (some (.obj i) :: some bg :: some (.int v) :: some (.obj k) :: o1 :: o2 :: o3 :: r) σ1 T E := by
    intro v w σ1 k o1 o2 o3 T hv hT h
    subst hT
    refine Wx.cons (Ws.augName OF (by repeat constructor) (We.cint ⟨rfl, _, _, _, rfl, rfl, .tail (.tail .head), Wx.nil ?_⟩))
    show Wl _ _ _ _ _ _ _ _ _ _ _
    rw [hv]; exact h
  induction hs with
  | @escP s w wr hr ih =>
    intro σ1 k o1 o2 o3 hp hk hl hW hN
    refine go hp hW ?_
    have hkl := lt_of_some hl
    refine Wx.cons (Ws.ifT (Wt.andT (Wt.cmp O (a_top O OF (by repeat constructor) hl (We.cstr (.eqS true rfl ⟨rfl, Wt.cmp O (We.name OF (by repeat constructor) (We.cstr (.eqS true rfl ⟨rfl, ?_⟩)))⟩))))))
    refine Wx.cons (Ws.expr OF (We.meth O (We.name OF (by repeat constructor) ⟨_, .extend hl, trivial, Wes.cons (We.ifexpT (Wt.cmp O (We.name OF (by repeat constructor) (We.cstr (.eqS true (by rw [two_eq (s := "\\(") 92 40 _ rfl]; simp) ⟨rfl, We.list (Wes.cons (We.cstr (Wes.nil ⟨by simp, Wes.nil (Wf.extend O (get_app hl) get_last (Nat.ne_of_lt hkl) (by simp [stkL_len] at hN ⊢; (exact ar153 hM hN)) ?_)⟩)))⟩)))))⟩)))
    refine Wx.cons (Ws.augName OF (by repeat constructor) (We.cint ⟨rfl, _, _, _, rfl, rfl, .tail (.tail .head), Wx.nil ?_⟩))
    rw [atW_tail]
    refine last (atW_tail _ _ _) rfl (ih hP _ _ _ _ _ (hp.app.set hk) hk (by rw [List.getElem?_set_self (by simp; (exact ar298 hkl))]; simp [stkL_cons, stkS]) hW.tail.tail (by simp at hN ⊢; (exact ar187 hN)))
  | @esc s c w wr hc hr ih =>
    intro σ1 k o1 o2 o3 hp hk hl hW hN
    refine go hp hW ?_
    have hkl := lt_of_some hl
    refine Wx.cons (Ws.ifT (Wt.andT (Wt.cmp O (a_top O OF (by repeat constructor) hl (We.cstr (.eqS true rfl ⟨rfl, Wt.cmp O (We.name OF (by repeat constructor) (We.cstr (.eqS true rfl ⟨rfl, ?_⟩)))⟩))))))
    refine Wx.cons (Ws.expr OF (We.meth O (We.name OF (by repeat constructor) ⟨_, .extend hl, trivial, Wes.cons (We.ifexpF (Wt.cmp O (We.name OF (by repeat constructor) (We.cstr (.eqS false (by rw [two_eq (s := "\\(") 92 40 _ rfl]; simpa using hc) ⟨rfl, We.list (Wes.nil ⟨by simp, Wes.nil (Wf.extend O (get_app hl) get_last (Nat.ne_of_lt hkl) (by simp [stkL_len] at hN ⊢; (exact ar162 hM hN)) ?_)⟩)⟩)))))⟩)))
    refine Wx.cons (Ws.augName OF (by repeat constructor) (We.cint ⟨rfl, _, _, _, rfl, rfl, .tail (.tail .head), Wx.nil ?_⟩))
    rw [atW_tail]
    refine last (atW_tail _ _ _) rfl (ih hP _ _ _ _ _ (hp.app.set hk) hk (by rw [List.getElem?_set_self (by simp; (exact ar298 hkl))]; simp) hW.tail.tail (by simp at hN ⊢; (exact ar204 hN)))
  | @qEnd s w wr hr ih =>
    intro σ1 k o1 o2 o3 hp hk hl hW hN
    refine go hp hW ?_
    refine Wx.cons (Ws.ifF (Wt.andT (Wt.cmp O (a_top O OF (by repeat constructor) hl (We.cstr (.eqS true rfl ⟨rfl, Wt.cmp O (We.name OF (by repeat constructor) (We.cstr (.eqS false (by rw [chr_eq (s := "\\") 92 _ rfl]; rfl) ⟨rfl, ?_⟩)))⟩))))))
    refine Wx.cons (Ws.ifT (Wt.cmp O (a_top O OF (by repeat constructor) hl (We.cstr (.eqS true rfl ⟨rfl, ?_⟩)))))
    refine Wx.cons (Ws.assign OF (We.ifexpT (Wt.cmp O (We.name OF (by repeat constructor) (We.cstr (.eqS true (by rw [chr_eq (s := "\"") 34 _ rfl]; rfl) ⟨rfl, We.slice (We.name OF (by repeat constructor) (Wpart.none (Wpart.some (We.neg (We.cint ⟨1, rfl, _, rfl, SliceK.list rfl hl (by simp [stkL_len] at hN ⊢; (exact ar166 hM hN)) ⟨_, .tail (.tail (.tail .head)), Wx.nil (Wx.nil ?_)⟩⟩)))))⟩))))))
    refine last (atW_tail _ _ _) rfl (ih hP _ _ _ _ _ hp.app hp.le (by rw [get_last, pick_dropLast, stkL_cons]; simp) hW.tail (by simp at hN ⊢; (exact ar241 hN)))
  | @inS s c w wr h1 h2 hr ih =>
    intro σ1 k o1 o2 o3 hp hk hl hW hN
    refine go hp hW ?_
    refine Wx.cons (Ws.ifF (Wt.andT (Wt.cmp O (a_top O OF (by repeat constructor) hl (We.cstr (.eqS true rfl ⟨rfl, Wt.cmp O (We.name OF (by repeat constructor) (We.cstr (.eqS false (by rw [chr_eq (s := "\\") 92 _ rfl]; simpa using h1) ⟨rfl, ?_⟩)))⟩))))))
    refine Wx.cons (Ws.ifT (Wt.cmp O (a_top O OF (by repeat constructor) hl (We.cstr (.eqS true rfl ⟨rfl, ?_⟩)))))
    refine Wx.cons (Ws.assign OF (We.ifexpF (Wt.cmp O (We.name OF (by repeat constructor) (We.cstr (.eqS false (by rw [chr_eq (s := "\"") 34 _ rfl]; simpa using h2) ⟨rfl, We.name OF (by repeat constructor) ⟨_, .tail (.tail (.tail .head)), Wx.nil (Wx.nil ?_)⟩⟩))))))
    exact last (atW_tail _ _ _) rfl (ih hP _ _ _ _ _ hp hk hl hW.tail (by simp at hN ⊢; (exact Nat.le_of_lt (by assumption))))
  | @op s w wr hr ih =>
    intro σ1 k o1 o2 o3 hp hk hl hW hN
    refine go hp hW ?_
    refine Wx.cons (Ws.ifF (Wt.andF (Wt.cmp O (a_top O OF (by repeat constructor) hl (We.cstr (.eqS false rfl ⟨rfl, rfl, ?_⟩))))))
    refine Wx.cons (Ws.ifF (Wt.cmp O (a_top O OF (by repeat constructor) hl (We.cstr (.eqS false rfl ⟨rfl, ?_⟩)))))
    refine Wx.cons (Ws.ifT (Wt.cmp O (We.name OF (by repeat constructor) (We.tuple (by decide) (Wes.cons (We.cstr (Wes.cons (We.cstr (Wes.nil ⟨by simp, .inT ["(", "\""] rfl true rfl ⟨rfl, ?_⟩⟩)))))))))
    refine Wx.cons (Ws.expr OF (We.meth O (We.name OF (by repeat constructor) ⟨_, .append hl, trivial, Wes.cons (We.name OF (by repeat constructor) (Wes.nil (Wf.append O hl (by simp [stkL_len] at hN ⊢; (exact ar166 hM hN)) ?_)))⟩)))
    refine Wx.nil (Wx.nil (Wx.nil ?_))
    exact last (atW_tail _ _ _) rfl (ih hP _ _ _ _ _ (hp.set hk) hk (by rw [List.getElem?_set_self (lt_of_some hl), stkL_cons false (false :: s)]; rfl) hW.tail (by simp at hN ⊢; (exact ar191 hN)))
  | @qu s w wr hr ih =>
    intro σ1 k o1 o2 o3 hp hk hl hW hN
    refine go hp hW ?_
    refine Wx.cons (Ws.ifF (Wt.andF (Wt.cmp O (a_top O OF (by repeat constructor) hl (We.cstr (.eqS false rfl ⟨rfl, rfl, ?_⟩))))))
    refine Wx.cons (Ws.ifF (Wt.cmp O (a_top O OF (by repeat constructor) hl (We.cstr (.eqS false rfl ⟨rfl, ?_⟩)))))
    refine Wx.cons (Ws.ifT (Wt.cmp O (We.name OF (by repeat constructor) (We.tuple (by decide) (Wes.cons (We.cstr (Wes.cons (We.cstr (Wes.nil ⟨by simp, .inT ["(", "\""] rfl true rfl ⟨rfl, ?_⟩⟩)))))))))
    refine Wx.cons (Ws.expr OF (We.meth O (We.name OF (by repeat constructor) ⟨_, .append hl, trivial, Wes.cons (We.name OF (by repeat constructor) (Wes.nil (Wf.append O hl (by simp [stkL_len] at hN ⊢; (exact ar166 hM hN)) ?_)))⟩)))
    refine Wx.nil (Wx.nil (Wx.nil ?_))
    exact last (atW_tail _ _ _) rfl (ih hP _ _ _ _ _ (hp.set hk) hk (by rw [List.getElem?_set_self (lt_of_some hl), stkL_cons true (false :: s)]; rfl) hW.tail (by simp at hN ⊢; (exact ar191 hN)))
  | @cl s w wr h hr ih =>
    intro σ1 k o1 o2 o3 hp hk hl hW hN
    refine go hp hW ?_
    refine Wx.cons (Ws.ifF (Wt.andF (Wt.cmp O (a_top O OF (by repeat constructor) hl (We.cstr (.eqS false rfl ⟨rfl, rfl, ?_⟩))))))
    refine Wx.cons (Ws.ifF (Wt.cmp O (a_top O OF (by repeat constructor) hl (We.cstr (.eqS false rfl ⟨rfl, ?_⟩)))))
    refine Wx.cons (Ws.ifF (Wt.cmp O (We.name OF (by repeat constructor) (We.tuple (by decide) (Wes.cons (We.cstr (Wes.cons (We.cstr (Wes.nil ⟨by simp, .inT ["(", "\""] rfl false rfl ⟨rfl, ?_⟩⟩)))))))))
    refine Wx.cons (Ws.ifT (Wt.cmp O (We.name OF (by repeat constructor) (We.cstr (.eqS true rfl ⟨rfl, ?_⟩)))))
    have hl' := hl
    rw [stkL_cons] at hl'
    refine Wx.cons (Ws.expr OF (We.meth O (We.name OF (by repeat constructor) ⟨_, .pop hl', trivial, Wes.nil (Wf.pop O hl' (by simp [stkL_len] at hN ⊢; (exact ar177 hM hN)) ?_)⟩)))
    have hl2 : (σ1.set k (.list (stkL s)))[k]? = some (.list (stkL s)) := set_get hl
    refine Wx.cons (Ws.ifF (Wt.cmp O (b_lenL O X OF (by repeat constructor) (We.name OF (by repeat constructor) ⟨_, _, rfl, hl2, by simp [stkL_len] at hN ⊢; (exact ar177 hM hN), We.cint (.eqI false (by simpa [stkL_len] using h) ⟨rfl, ?_⟩)⟩))))
    refine Wx.nil (Wx.nil (Wx.nil (Wx.nil (Wx.nil ?_))))
    exact last (atW_tail _ _ _) rfl (ih hP _ _ _ _ _ (hp.set hk) hk hl2 hW.tail (by simp at hN ⊢; (exact ar241 hN)))
  | @fin w =>
    intro σ1 k o1 o2 o3 hp hk hl hW hN
    refine go hp hW ?_
    refine Wx.cons (Ws.ifF (Wt.andF (Wt.cmp O (a_top O OF (by repeat constructor) hl (We.cstr (.eqS false rfl ⟨rfl, rfl, ?_⟩))))))
    refine Wx.cons (Ws.ifF (Wt.cmp O (a_top O OF (by repeat constructor) hl (We.cstr (.eqS false rfl ⟨rfl, ?_⟩)))))
    refine Wx.cons (Ws.ifF (Wt.cmp O (We.name OF (by repeat constructor) (We.tuple (by decide) (Wes.cons (We.cstr (Wes.cons (We.cstr (Wes.nil ⟨by simp, .inT ["(", "\""] rfl false rfl ⟨rfl, ?_⟩⟩)))))))))
    refine Wx.cons (Ws.ifT (Wt.cmp O (We.name OF (by repeat constructor) (We.cstr (.eqS true rfl ⟨rfl, ?_⟩)))))
    have hl' := hl
    rw [stkL_cons] at hl'
    refine Wx.cons (Ws.expr OF (We.meth O (We.name OF (by repeat constructor) ⟨_, .pop hl', trivial, Wes.nil (Wf.pop O hl' (by simp [stkL_len]) ?_)⟩)))
    have hl2 : (σ1.set k (.list (stkL [])))[k]? = some (.list (stkL [])) := set_get hl
    refine Wx.cons (Ws.ifT (Wt.cmp O (b_lenL O X OF (by repeat constructor) (We.name OF (by repeat constructor) ⟨_, _, rfl, hl2, by simp [stkL_len], We.cint (.eqI true rfl ⟨rfl, ?_⟩)⟩))))
    exact Wx.cons (Ws.ret (We.name OF (by repeat constructor) (hP _ _ (hp.set hk))))
  | @rem s c w w' wr h hs hl' hr ih =>
    intro σ1 k o1 o2 o3 hp hk hl hW hN
    have h40 : c ≠ 40 ∧ c ≠ 34 ∧ c ≠ 41 := by rcases h with rfl | ⟨rfl, _⟩ <;> decide
    refine go hp hW ?_
    refine Wx.cons (Ws.ifF (Wt.andF (Wt.cmp O (a_top O OF (by repeat constructor) hl (We.cstr (.eqS false rfl ⟨rfl, rfl, ?_⟩))))))
    refine Wx.cons (Ws.ifF (Wt.cmp O (a_top O OF (by repeat constructor) hl (We.cstr (.eqS false rfl ⟨rfl, ?_⟩)))))
    refine Wx.cons (Ws.ifF (Wt.cmp O (We.name OF (by repeat constructor) (We.tuple (by decide) (Wes.cons (We.cstr (Wes.cons (We.cstr (Wes.nil ⟨by simp, .inT ["(", "\""] rfl false (inPQ h40.1 h40.2.1) ⟨rfl, ?_⟩⟩)))))))))
    refine Wx.cons (Ws.ifF (Wt.cmp O (We.name OF (by repeat constructor) (We.cstr (.eqS false (by rw [chr_eq (s := ")") 41 _ rfl]; simpa using h40.2.2) ⟨rfl, ?_⟩)))))
    have test : Wt Γ A st fInnerEnd L (ifT (stI (ifB (stI (ifB (stI (ifB (stI (ifB (stI (whB ieW) 1)) 0)) 0)) 0)) 0)) (some (.obj i) :: some bg :: some (.int (atW e (c :: w))) :: some (.obj k) :: some (.str ⟨#[c]⟩) :: some (.str (mkS ((c :: w ++ post).take 2))) :: o3 :: r) σ1 (fun b σ2 => b = true ∧ σ2 = σ1) E := by
      by_cases h37 : c = 37
      · subst h37
        exact Wt.or (Wt.cmp O (We.name OF (by repeat constructor) (We.cstr (.eqS true rfl (by rw [if_pos rfl]; exact ⟨rfl, rfl⟩)))))
      · have h' : c = 47 ∧ (w ++ post).head? = some 42 := h.resolve_left h37
        refine Wt.or (Wt.cmp O (We.name OF (by repeat constructor) (We.cstr (.eqS false (by rw [chr_eq (s := "%") 37 _ rfl]; simpa using h37) ?_))))
        rw [if_neg (by decide)]
        refine Wt.cmp O (We.name OF (by repeat constructor) (We.cstr (.eqS true ?_ ?_)))
        · rw [two_eq (s := "/*") 47 42 _ rfl]
          have := h'.2
          rw [List.head?_eq_getElem?] at this
          simp [h'.1, this]
        · rw [if_pos rfl]; exact ⟨rfl, rfl⟩
    refine Wx.cons (Ws.ifT (test.mono (fun bb σ2 hb => ?_) fun _ x => x))
    obtain ⟨e1, rfl⟩ := hb
    refine ⟨e1, ?_⟩
    have hsc := hp.get hi
    refine Wx.cons (Ws.assign OF (We.call O (We.gname O OF (by repeat constructor) X.gScanner ⟨X.kScan, Wes.cons (a_text O X OF .head hsc (Wes.cons (We.name OF (by repeat constructor) (Wes.cons (a_end O X OF .head hsc (Wes.nil (Wf.of_Wc O (c_scan3 O X (b := b + 1) hA ⟨_, .tail (.tail (.tail (.tail (.tail (.tail .head))))), ?_⟩))))))))⟩)))
    refine Wx.cons (Ws.expr OF (We.mcall O OF (by repeat constructor) get_last X.mSkip (scan_no (by decide)) X.kSkip (Wes.nil (Wf.of_Wc O (c_skip O X (b := b + 1) hA get_last hW hs ?_)))))
    rw [set_last]
    refine Wx.cons (Ws.assign OF (We.bin (a_spot O X OF (by repeat constructor) get_last (We.cint (.subI ⟨_, .tail (.tail .head), ?_⟩)))))
    refine Wx.nil (Wx.nil (Wx.nil (Wx.nil (Wx.nil ?_))))
    have hW' : Win x e w' post := by obtain ⟨u, hu⟩ := hs.suffix; rw [hu] at hW; exact hW.drop
    exact last (by exact ar401) rfl (ih hP _ _ _ _ _ hp.app hk (get_app hl) hW' (by simp at hN hl' ⊢; (exact ar148 hl' hN)))
  | @oth s c w wr h1 h2 h3 h4 h5 hr ih =>
    intro σ1 k o1 o2 o3 hp hk hl hW hN
    refine go hp hW ?_
    refine Wx.cons (Ws.ifF (Wt.andF (Wt.cmp O (a_top O OF (by repeat constructor) hl (We.cstr (.eqS false rfl ⟨rfl, rfl, ?_⟩))))))
    refine Wx.cons (Ws.ifF (Wt.cmp O (a_top O OF (by repeat constructor) hl (We.cstr (.eqS false rfl ⟨rfl, ?_⟩)))))
    refine Wx.cons (Ws.ifF (Wt.cmp O (We.name OF (by repeat constructor) (We.tuple (by decide) (Wes.cons (We.cstr (Wes.cons (We.cstr (Wes.nil ⟨by simp, .inT ["(", "\""] rfl false (inPQ h1 h2) ⟨rfl, ?_⟩⟩)))))))))
    refine Wx.cons (Ws.ifF (Wt.cmp O (We.name OF (by repeat constructor) (We.cstr (.eqS false (by rw [chr_eq (s := ")") 41 _ rfl]; simpa using h3) ⟨rfl, ?_⟩)))))
    refine Wx.cons (Ws.ifF (Wt.or2F (Wt.cmp O (We.name OF (by repeat constructor) (We.cstr (.eqS false (by rw [chr_eq (s := "%") 37 _ rfl]; simpa using h4) ⟨rfl, Wt.cmp O (We.name OF (by repeat constructor) (We.cstr (.eqS false ?_ ⟨rfl, ?_⟩)))⟩))))))
    · rw [two_eq (s := "/*") 47 42 _ rfl]
      rw [List.head?_eq_getElem?] at h5
      simpa using h5
    · refine Wx.nil (Wx.nil (Wx.nil (Wx.nil (Wx.nil ?_))))
      exact last (atW_tail _ _ _) rfl (ih hP _ _ _ _ _ hp hk hl hW.tail (by simp at hN ⊢; (exact Nat.le_of_lt (by assumption))))
end
end
section
open Builtin Builtin.Str
section
variable {Γ : Cx} {A : Around} {st : List Env} {L : Addr} {σ : List AObj} {E : Int → Prop} {i : Nat} {x : PySem.Str} {e d spot : Int} {w post : List Nat} {b : Nat}
theorem c_innerEnd {Q : V → List AObj → Prop} {wr : List Nat} (O : Γ.Ok) (X : KF Γ.K Γ.w.params Γ.prog) (hA : AOk A st (b + 4)) (hi : σ[i]? = some (.inst cScan (scanFs x spot e d))) (hW : Win x e w post) {M : Nat} (hM : M + 10 ≤ sizeLim) (hN : w.length + 1 ≤ M) (hs : Inn post [false] w wr)
    (hq : ∀ σ', Pre σ σ' → Q (.int (atW e wr)) σ') : Wc Γ A st (.glob 152) [.obj i, .int (atW e w)] σ Q E := by
  have OF := X.innerEnd.ok
  refine Wc.fn O hA X.innerEnd rfl fun L A' hA' hL => ?_
  refine Wx.cons (Ws.assignSwap (names := ["spot", "within"]) hA'.handled (We.tuple (by decide) (Wes.cons (We.name OF (by repeat constructor) (Wes.cons (We.list (Wes.cons (We.cstr (Wes.nil ⟨by simp, Wes.nil ⟨by simp, _, rfl, by simp, ?_⟩⟩)))))))) (by intro; rfl) (by rfl))
  refine Wa.bind OF ⟨_, .tail (.tail (.tail .head)), ?_⟩
  refine Wa.bind OF ⟨_, .tail (.tail .head), ?_⟩
  refine Wx.cons (Ws.while (l_inner O X hA' hi hM (fun ℓ σ' hp => hq σ' hp) hs _ _ _ _ _ (Pre.refl.app) (Nat.le_refl _) (by rw [get_last]; rfl) hW (by simp; (exact ar311 hN))))
end
end
section
open Builtin Builtin.Str
inductive Tk where
  | num (k a : Int)
  | nam (s : PySem.Str) (a : Int)
  | str (ps : List (PySem.Str × List Tk)) (last : PySem.Str) (a : Int)
  | sg (s : PySem.Str) (a : Int)
  | fin (a : Int)
mutual
inductive RpT (σ : List AObj) (D : Nat → Prop) : Tk → V → Prop
  | num {k a} : RpT σ D (.num k a) (.tup [.str "int", .int k, .int a])
  | nam {s a} : RpT σ D (.nam s a) (.tup [.str "name", .str s, .int a])
  | sg {s a} : RpT σ D (.sg s a) (.tup [.str "sign", .str s, .int a])
  | fin {a} : RpT σ D (.fin a) (.tup [.str "end", .str "", .int a])
  | str {ps last a j vs} (hd : D j) (hj : σ[j]? = some (.list vs)) (h : RpP σ D ps last vs) : RpT σ D (.str ps last a) (.tup [.str "str", .obj j, .int a])
inductive RpP (σ : List AObj) (D : Nat → Prop) : List (PySem.Str × List Tk) → PySem.Str → List V → Prop
  | last {s} : RpP σ D [] s [.str s]
  | cons {s ts ps last k us vs} (hd : D k) (hk : σ[k]? = some (.list us)) (h1 : RpL σ D ts us) (h2 : RpP σ D ps last vs) : RpP σ D ((s, ts) :: ps) last (.str s :: .obj k :: vs)
inductive RpL (σ : List AObj) (D : Nat → Prop) : List Tk → List V → Prop
  | nil : RpL σ D [] []
  | cons {t v ts vs} (h1 : RpT σ D t v) (h2 : RpL σ D ts vs) : RpL σ D (t :: ts) (v :: vs)
end
section
variable {σ σ' : List AObj} {D D' : Nat → Prop}
theorem RpL.mono (h : ∀ j vs, D j → σ[j]? = some (.list vs) → D' j ∧ σ'[j]? = some (.list vs)) {ts vs} (x : RpL σ D ts vs) : RpL σ' D' ts vs :=
  x.rec (motive_1 := fun t v _ => RpT σ' D' t v) (motive_2 := fun p l v _ => RpP σ' D' p l v) (motive_3 := fun t v _ => RpL σ' D' t v) .num .nam .sg .fin (fun hd hj _ ih => .str (h _ _ hd hj).1 (h _ _ hd hj).2 ih) .last (fun hd hk _ _ i1 i2 => .cons (h _ _ hd hk).1 (h _ _ hd hk).2 i1 i2) .nil (fun _ _ i1 i2 => .cons i1 i2)
theorem RpP.mono (h : ∀ j vs, D j → σ[j]? = some (.list vs) → D' j ∧ σ'[j]? = some (.list vs)) {ps l vs} (x : RpP σ D ps l vs) : RpP σ' D' ps l vs :=
  x.rec (motive_1 := fun t v _ => RpT σ' D' t v) (motive_2 := fun p l v _ => RpP σ' D' p l v) (motive_3 := fun t v _ => RpL σ' D' t v) .num .nam .sg .fin (fun hd hj _ ih => .str (h _ _ hd hj).1 (h _ _ hd hj).2 ih) .last (fun hd hk _ _ i1 i2 => .cons (h _ _ hd hk).1 (h _ _ hd hk).2 i1 i2) .nil (fun _ _ i1 i2 => .cons i1 i2)
theorem RpT.mono (h : ∀ j vs, D j → σ[j]? = some (.list vs) → D' j ∧ σ'[j]? = some (.list vs)) {t v} (x : RpT σ D t v) : RpT σ' D' t v :=
  x.rec (motive_1 := fun t v _ => RpT σ' D' t v) (motive_2 := fun p l v _ => RpP σ' D' p l v) (motive_3 := fun t v _ => RpL σ' D' t v) .num .nam .sg .fin (fun hd hj _ ih => .str (h _ _ hd hj).1 (h _ _ hd hj).2 ih) .last (fun hd hk _ _ i1 i2 => .cons (h _ _ hd hk).1 (h _ _ hd hk).2 i1 i2) .nil (fun _ _ i1 i2 => .cons i1 i2)
theorem RpL.ind {M : List Tk → List V → Prop} (n : M [] []) (c : ∀ {t v ts vs}, RpT σ D t v → M ts vs → M (t :: ts) (v :: vs)) {ts vs} (x : RpL σ D ts vs) : M ts vs :=
  x.rec (motive_1 := fun _ _ _ => True) (motive_2 := fun _ _ _ _ => True) (motive_3 := fun t v _ => M t v) trivial trivial trivial trivial (fun _ _ _ _ => trivial) trivial (fun _ _ _ _ _ _ => trivial) n (fun h _ _ i => c h i)
theorem RpL.snoc {t v ts vs} (x : RpL σ D ts vs) (h : RpT σ D t v) : RpL σ D (ts ++ [t]) (vs ++ [v]) :=
  RpL.ind (M := fun ts vs => RpL σ D (ts ++ [t]) (vs ++ [v])) (.cons h .nil) (fun a i => .cons a i) x
inductive RpQ (σ : List AObj) (D : Nat → Prop) : List (PySem.Str × List Tk) → List V → Prop
  | nil : RpQ σ D [] []
  | cons {s ts ps k us vs} (hd : D k) (hk : σ[k]? = some (.list us)) (h1 : RpL σ D ts us) (h2 : RpQ σ D ps vs) : RpQ σ D ((s, ts) :: ps) (.str s :: .obj k :: vs)
theorem RpQ.mono (h : ∀ j vs, D j → σ[j]? = some (.list vs) → D' j ∧ σ'[j]? = some (.list vs)) {ps vs} (x : RpQ σ D ps vs) : RpQ σ' D' ps vs :=
  x.rec (motive := fun ps vs _ => RpQ σ' D' ps vs) .nil (fun hd hk h1 _ ih => .cons (h _ _ hd hk).1 (h _ _ hd hk).2 (h1.mono h) ih)
theorem RpQ.snoc {s ts k us} (hd : D k) (hk : σ[k]? = some (.list us)) (h1 : RpL σ D ts us) {ps vs} (x : RpQ σ D ps vs) : RpQ σ D (ps ++ [(s, ts)]) (vs ++ [.str s, .obj k]) :=
  x.rec (motive := fun ps vs _ => RpQ σ D (ps ++ [(s, ts)]) (vs ++ [V.str s, V.obj k])) (.cons hd hk h1 .nil) (fun a b c _ ih => .cons a b c ih)
theorem RpQ.last {s ps vs} (x : RpQ σ D ps vs) : RpP σ D ps s (vs ++ [.str s]) :=
  x.rec (motive := fun ps vs _ => RpP σ D ps s (vs ++ [V.str s])) .last (fun a b c _ ih => .cons a b c ih)
end
noncomputable abbrev TkRel := List Nat → Int → Int → List Nat → List Tk → Prop
noncomputable def escOf (c v : Nat) : Prop := (c = 34 ∧ v = 34) ∨ (c = 92 ∧ v = 92) ∨ (c = 110 ∧ v = 10) ∨ (c = 116 ∧ v = 9)
inductive BodyR (T : TkRel) (post : List Nat) (e d : Int) : List Nat → List Nat → List (PySem.Str × List Tk) → PySem.Str → Option (List Nat) → Prop
  | fin {fs w} : BodyR T post e d fs (34 :: w) [] (mkS fs) (some w)
  | stop {fs} : BodyR T post e d fs [] [] (mkS fs) none
  | ch {fs c w ps l o} (h1 : c ≠ 34) (h2 : c ≠ 10) (h3 : c ≠ 92) (r : BodyR T post e d (fs ++ [c]) w ps l o) : BodyR T post e d fs (c :: w) ps l o
  | esc {fs c v w ps l o} (h : escOf c v) (r : BodyR T post e d (fs ++ [v]) w ps l o) : BodyR T post e d fs (92 :: c :: w) ps l o
  | inner {fs wi w2 ts ps l o} (hd : d < 4) (h : Inn post [false] (wi ++ 41 :: w2) (41 :: w2)) (ht : T (41 :: w2 ++ post) (atW e (41 :: w2)) (d + 1) wi ts) (r : BodyR T post e d [] w2 ps l o) : BodyR T post e d fs (92 :: 40 :: (wi ++ 41 :: w2)) ((mkS fs, ts) :: ps) l o
inductive TokW (T : TkRel) (post : List Nat) (e d : Int) : List Nat → List Tk → Prop
  | fin : TokW T post e d [] [.fin e]
  | num {u w w' ts n} (hu : ∀ c ∈ u, isFig c = true) (h0 : u ≠ []) (hl : u.length ≤ 60) (hw : ∀ c, w.head? = some c → isFig c = false ∧ isLet c = false ∧ c ≠ 95) (hn : PySem.intText? (mkS u) = some n) (hs : Skp post w w') (r : TokW T post e d w' ts) : TokW T post e d (u ++ w) (.num n (atW e (u ++ w)) :: ts)
  | nam {u w w' ts} (hu : ∀ c ∈ u, (isLet c || isFig c || c == 95) = true) (h0 : ∃ c r, u = c :: r ∧ isLet c = true) (hl : u.length ≤ 60) (hw : ∀ c, w.head? = some c → (isLet c || isFig c || c == 95) = false) (hn : wordsL.any (· == mkS u) = false) (hs : Skp post w w') (r : TokW T post e d w' ts) : TokW T post e d (u ++ w) (.nam (mkS u) (atW e (u ++ w)) :: ts)
  | str {w ps l w1 w' ts} (h : BodyR T post e d [] w ps l (some w1)) (hs : Skp post w1 w') (r : TokW T post e d w' ts) : TokW T post e d (34 :: w) (.str ps l (atW e (34 :: w)) :: ts)
  | sg {s : PySem.Str} {pre suf : List PySem.Str} {w w' ts} (hne : (s == "==") = false) (hs : signsL = pre ++ s :: suf) (hp : ∀ t ∈ pre, ¬ t.cps.toList <+: s.cps.toList ++ w) (hc : ∃ c r, s.cps.toList = c :: r ∧ isFig c = false ∧ isLet c = false ∧ c ≠ 34) (hk : Skp post w w') (r : TokW T post e d w' ts) : TokW T post e d (s.cps.toList ++ w) (.sg s (atW e (s.cps.toList ++ w)) :: ts)
inductive TokR (T : TkRel) (post : List Nat) (e d : Int) (w : List Nat) (ts : List Tk) : Prop
  | mk {w'} (hs : Skp post w w') (r : TokW T post e d w' ts) : TokR T post e d w ts
noncomputable def TokLv : Nat → TkRel
  | 0 => fun _ _ _ _ _ => False
  | k + 1 => TokR (TokLv k)
end
section
open Builtin Builtin.Str
noncomputable def PreI (i : Nat) (σ σ1 : List AObj) : Prop := ∃ ao J, σ1 = σ.set i ao ++ J
section
variable {σ σ1 σ2 : List AObj} {i : Nat} {a b : AObj}
theorem PreI.of_pre (h : Pre σ σ1) (hi : i < σ.length) : PreI i σ σ1 := by
  obtain ⟨J, rfl⟩ := h
  exact ⟨σ[i], J, by rw [List.set_getElem_self]⟩
theorem PreI.le (h : PreI i σ σ1) : σ.length ≤ σ1.length := by obtain ⟨ao, J, rfl⟩ := h; simp
theorem PreI.app (h : PreI i σ σ1) : PreI i σ (σ1 ++ [a]) := by obtain ⟨ao, J, rfl⟩ := h; exact ⟨ao, J ++ [a], by simp⟩
theorem PreI.pre (h : PreI i σ σ1) (p : Pre σ1 σ2) : PreI i σ σ2 := by obtain ⟨ao, J, rfl⟩ := h; obtain ⟨K, rfl⟩ := p; exact ⟨ao, J ++ K, by simp⟩
theorem PreI.set (h : PreI i σ σ1) {k : Nat} (hk : σ.length ≤ k) : PreI i σ (σ1.set k a) := by
  obtain ⟨ao, J, rfl⟩ := h
  exact ⟨ao, J.set (k - σ.length) a, by rw [List.set_append_right _ _ (by simpa using hk)]; simp⟩
theorem PreI.setI (h : PreI i σ σ1) (hi : i < σ.length) : PreI i σ (σ1.set i a) := by
  obtain ⟨ao, J, rfl⟩ := h
  exact ⟨a, J, by rw [List.set_append_left _ _ (by simpa using hi), List.set_set]⟩
theorem PreI.trans {i' : Nat} (h : PreI i σ σ1) (h' : PreI i' σ1 σ2) (hi : i' = i ∨ σ.length ≤ i') (hl : i < σ.length) : PreI i σ σ2 := by
  obtain ⟨ao, J, rfl⟩ := h'
  refine PreI.pre ?_ ⟨J, rfl⟩
  rcases hi with rfl | hi
  · exact h.setI hl
  · exact h.set hi
theorem PreI.get (h : PreI i σ σ1) {j : Nat} (hj : σ[j]? = some a) (hne : j ≠ i) : σ1[j]? = some a := by
  obtain ⟨ao, J, rfl⟩ := h
  have hl := lt_of_some hj
  rw [List.getElem?_append_left (by simpa using hl), List.getElem?_set_ne (Ne.symm hne)]; exact hj
theorem PreI.refl (hi : i < σ.length) : PreI i σ σ := PreI.of_pre .refl hi
end
noncomputable def CTok (T : TkRel) (N : Nat) : Prop := ∀ (Γ : Cx) (A : Around) (st : List Env) (σ : List AObj) (E : Int → Prop) (Q : V → List AObj → Prop) (i : Nat) (x : PySem.Str) (e d : Int) (w post : List Nat) (ts : List Tk), Γ.Ok → KF Γ.K Γ.w.params Γ.prog → AOk A st N →
  σ[i]? = some (.inst cScan (scanFs x (atW e w) e d)) → Win x e w post → x.length ≤ 900000 → T post e d w ts →
  (∀ σ' j vs, PreI i σ σ' → σ.length ≤ j → σ'[j]? = some (.list vs) → RpL σ' (fun k => σ.length ≤ k) ts vs → Q (.obj j) σ') → Wc Γ A st (.glob 173) [.obj i] σ Q E
theorem signs_mkS (fs : List Nat) : fs.map (fun c => (⟨#[c]⟩ : PySem.Str)) = signs (mkS fs) := by simp [signs]
theorem join_chs (fs : List Nat) : Txt.join "" (fs.map fun c => ⟨#[c]⟩) = mkS fs := by
  show glued "" _ = _
  rw [StrLaws.glued_eq_join, signs_mkS]
  exact join_nil_signs (mkS fs)
theorem foldl_ones (fs : List Nat) : ∀ k : Nat, (fs.map fun c => (⟨#[c]⟩ : PySem.Str)).foldl (fun a s => a + s.length + ("" : PySem.Str).length) k = k + fs.length := by
  induction fs with
  | nil => intro k; rfl
  | cons c r ih =>
    intro k
    rw [List.map_cons, List.foldl_cons, ih]
    show k + 1 + 0 + r.length = k + (r.length + 1)
    (exact ar392)
theorem joinOk_chs {fs : List Nat} (h : fs.length ≤ 999990) : JoinOk "" (fs.map fun c => ⟨#[c]⟩) = true := by
  unfold JoinOk tooLong
  rw [List.foldl_toArray, foldl_ones]
  have : fs.length ≤ sizeLine := by rw [sizeLine_eq]; (exact Nat.le_trans (by assumption) (by decide))
  simp; (exact Nat.le_trans (by assumption) (by decide))
noncomputable abbrev stW : Stmt := stI (bM 20 7) 2
noncomputable def chs (fs : List Nat) : List V := fs.map fun c => .str ⟨#[c]⟩
section
variable {Γ : Cx} {A : Around} {st : List Env} {F : Fn} {L : Addr} {ℓ : List (Option V)} {σ : List AObj} {E : Int → Prop} {Q : V → List AObj → Prop} {a b c : PySem.Str} {k k1 k2 k3 : Nat} {p p1 p2 p3 : Pos}
theorem e_tup2 (hq : Q (.tup [.str a, .str b]) σ) : We Γ A st F L (.Tuple [.Constant (.str a) k1 p1, .Constant (.str b) k2 p2] k p) ℓ σ Q E :=
  We.tuple (by simp) (Wes.cons (We.cstr (Wes.cons (We.cstr (Wes.nil ⟨by simp, hq⟩)))))
theorem e_tup3 (hq : Q (.tup [.str a, .str b, .str c]) σ) : We Γ A st F L (.Tuple [.Constant (.str a) k1 p1, .Constant (.str b) k2 p2, .Constant (.str c) k3 p3] k p) ℓ σ Q E :=
  We.tuple (by simp) (Wes.cons (We.cstr (Wes.cons (We.cstr (Wes.cons (We.cstr (Wes.nil ⟨by simp, hq⟩)))))))
end
section
variable {Γ : Cx} {A : Around} {st : List Env} {L : Addr} {σ : List AObj} {E : Int → Prop} {i : Nat} {x : PySem.Str} {e d : Int} {w post : List Nat} {N : Nat} {T : TkRel}
set_option maxHeartbeats 4000000 in
theorem l_string {P : Fl → List (Option V) → List AObj → Prop} {PS : List (PySem.Str × List Tk)} (O : Γ.Ok) (X : KF Γ.K Γ.w.params Γ.prog) (hA : AOk A (fString.env L :: st) (N + 5)) (CT : CTok T N) {r : List (Option V)} {bg : V} (hx : x.length ≤ 900000)
    {fs0 : List Nat} {w0 : List Nat} {ps : List (PySem.Str × List Tk)} {l : PySem.Str} {o : Option (List Nat)} (hs : BodyR T post e d fs0 w0 ps l o)
    (hP : ∀ σ' p f oc w1 fs vs, PreI i σ σ' → σ.length ≤ p → σ.length ≤ f → p ≠ f → σ'[i]? = some (.inst cScan (scanFs x (atW e w1) e d)) → Win x e w1 post → (∀ w2, o = some w2 → w1 = 34 :: w2) → (o = none → w1 = []) → σ'[p]? = some (.list vs) → σ'[f]? = some (.list (chs fs)) → l = mkS fs → fs.length ≤ 999990 → vs.length ≤ 999990 → RpQ σ' (fun k => σ.length ≤ k ∧ k ≠ p ∧ k ≠ f) PS vs →
      P .next (some (.obj i) :: some bg :: some (.obj p) :: some (.obj f) :: oc :: r) σ') (hi : i < σ.length) :
    ∀ (pd : List (PySem.Str × List Tk)) (hps : pd ++ ps = PS) (σ1 : List AObj) (p f : Nat) (oc : Option V) (vs : List V), PreI i σ σ1 → σ.length ≤ p → σ.length ≤ f → p ≠ f → σ1[i]? = some (.inst cScan (scanFs x (atW e w0) e d)) → Win x e w0 post →
      σ1[p]? = some (.list vs) → σ1[f]? = some (.list (chs fs0)) → RpQ σ1 (fun k => σ.length ≤ k ∧ k ≠ p ∧ k ≠ f) pd vs → fs0.length + w0.length ≤ 999990 → vs.length + w0.length ≤ 999990 →
      Wl Γ A st fString L (whT stW) (whB stW) (some (.obj i) :: some bg :: some (.obj p) :: some (.obj f) :: oc :: r) σ1 P E := by
  have OF := X.string.ok
  induction hs with
  | @fin fs w =>
    intro pd hps σ1 p f oc vs hp hlp hlf hne h hW hgp hgf hq hb hv
    refine Wl.stop hA.frames (Wt.cmp O (m_sign O X OF hA .head h hW (e_tup3 (.notInT ["", "\"", "\n"] rfl true rfl ⟨rfl, ?_⟩))))
    rw [List.append_nil] at hps
    subst hps
    exact hP _ _ _ _ _ _ _ hp hlp hlf hne h hW (fun w2 e => by cases e; rfl) (fun e => by cases e) hgp hgf rfl (by exact ar32 hb) (by exact ar32 hv) hq
  | @stop fs =>
    intro pd hps σ1 p f oc vs hp hlp hlf hne h hW hgp hgf hq hb hv
    refine Wl.stop hA.frames (Wt.cmp O (m_sign O X OF hA .head h hW (e_tup3 (.notInT ["", "\"", "\n"] rfl true rfl ⟨rfl, ?_⟩))))
    rw [List.append_nil] at hps
    subst hps
    exact hP _ _ _ _ _ _ _ hp hlp hlf hne h hW (fun w2 e => by cases e) (fun e => rfl) hgp hgf rfl (by (exact Nat.le_trans (by assumption) (by decide))) (by (exact Nat.le_trans (by assumption) (by decide))) hq
  | @ch fs c w ps l o h1 h2 h3 hr ih =>
    intro pd hps σ1 p f oc vs hp hlp hlf hne h hW hgp hgf hq hb hv
    have hif : i ≠ f := by (first | lia | omega)
    refine Wl.go hA.frames (Wt.cmp O (m_sign O X OF hA .head h hW (e_tup3 (.notInT ["", "\"", "\n"] rfl false (by rw [any_sgn (ys := ["", "\"", "\n"]) [none, some 34, some 10] rfl]; simp; (exact ar387 h1 h2)) ⟨rfl, ?_⟩))))
    refine Wx.cons (Ws.ifT (Wt.cmp O (m_sign O X OF hA .head h hW (We.cstr (.neS false (by show ((⟨#[c]⟩ : PySem.Str) == "\\") = false; rw [chr_eq (s := "\\") 92 _ rfl]; simpa using h3) ⟨rfl, ?_⟩)))))
    refine Wx.cons (Ws.expr OF (We.meth O (We.name OF (by repeat constructor) ⟨_, .append hgf, trivial, Wes.cons (m_sign O X OF hA .head h hW (Wes.nil (Wf.append O hgf (by simp [chs] at hb ⊢; unfold sizeLim; (exact ar280 hb)) ?_)))⟩)))
    have h' : (σ1.set f (.list (chs fs ++ [.str (sgn (c :: w))])))[i]? = some (.inst cScan (scanFs x (atW e (c :: w)) e d)) := by rw [List.getElem?_set_ne (Ne.symm hif)]; exact h
    refine Wx.cons (s_inc O X OF .head h' (Wx.cons (Ws.cont ?_)))
    have e1 : chs fs ++ [.str (sgn (c :: w))] = chs (fs ++ [c]) := by simp [chs, sgn]
    rw [e1] at h' ⊢
    have hset : ∀ k, k ≠ i → k ≠ f → ((σ1.set f (.list (chs (fs ++ [c])))).set i (.inst cScan (scanFs x (atW e w) e d)))[k]? = σ1[k]? := fun k a b => by
      rw [List.getElem?_set_ne (Ne.symm a), List.getElem?_set_ne (Ne.symm b)]
    refine ih hP pd hps _ p f oc vs ((hp.set hlf).setI hi) hlp hlf hne (set_get h') hW.tail ?_ ?_ ?_ (by simp at hb ⊢; (exact ar252 hb)) (by simp at hv ⊢; (exact Nat.le_of_lt (by assumption)))
    · rw [hset p (by (first | lia | omega)) hne]; exact hgp
    · rw [List.getElem?_set_ne hif]; exact set_get hgf
    · exact hq.mono fun j us hd hj => ⟨hd, by rw [hset j (by (first | lia | omega)) hd.2.2]; exact hj⟩
  | @esc fs c v w ps l o hc hr ih =>
    intro pd hps σ1 p f oc vs hp hlp hlf hne h hW hgp hgf hq hb hv
    have hif : i ≠ f := by (first | lia | omega)
    have hc40 : c ≠ 40 := by rcases hc with ⟨rfl, _⟩ | ⟨rfl, _⟩ | ⟨rfl, _⟩ | ⟨rfl, _⟩ <;> decide
    refine Wl.go hA.frames (Wt.cmp O (m_sign O X OF hA .head h hW (e_tup3 (.notInT ["", "\"", "\n"] rfl false (by rw [any_sgn (ys := ["", "\"", "\n"]) [none, some 34, some 10] rfl]; simp) ⟨rfl, ?_⟩))))
    refine Wx.cons (Ws.ifF (Wt.cmp O (m_sign O X OF hA .head h hW (We.cstr (.neS true (by show ((⟨#[92]⟩ : PySem.Str) == "\\") = true; rw [chr_eq (s := "\\") 92 _ rfl]; rfl) ⟨rfl, Wx.nil ?_⟩)))))
    refine Wx.cons (s_inc O X OF .head h ?_)
    have h2 := set_get (b := AObj.inst cScan (scanFs x (atW e (c :: w)) e d)) h
    have hgf2 : (σ1.set i (.inst cScan (scanFs x (atW e (c :: w)) e d)))[f]? = some (.list (chs fs)) := by rw [List.getElem?_set_ne hif]; exact hgf
    refine Wx.cons (Ws.ifF (Wt.cmp O (m_sign O X OF hA .head h2 hW.tail (We.cstr (.eqS false (by show ((⟨#[c]⟩ : PySem.Str) == "(") = false; rw [chr_eq (s := "(") 40 _ rfl]; simpa using hc40) ⟨rfl, ?_⟩)))))
    obtain ⟨ees, en, eK, eL⟩ := X.esc
    have hesc : ∃ y, nsIn Γ.K 90 ⟨#[c]⟩ = some (some y) ∧ CR Γ.K y (.str ⟨#[v]⟩) := by
      rcases hc with ⟨rfl, rfl⟩ | ⟨rfl, rfl⟩ | ⟨rfl, rfl⟩ | ⟨rfl, rfl⟩
      · exact X.escQ
      · exact X.escB
      · exact X.escN
      · exact X.escT
    obtain ⟨y, hy1, hy2⟩ := hesc
    refine Wx.cons (Ws.ifT (Wt.cmp O (m_sign O X OF hA .head h2 hW.tail (We.gname O OF (by repeat constructor) X.gESCAPES ⟨_, _, _, eK, eL, hy1, by decide, rfl, ?_⟩))))
    refine Wx.cons (Ws.expr OF (We.meth O (We.name OF (by repeat constructor) ⟨_, .append hgf2, trivial, Wes.cons (We.item O (We.gname O OF (by repeat constructor) X.gESCAPES (m_sign O X OF hA .head h2 hW.tail ⟨_, ⟨_, _, _, eK, eL, hy1, hy2⟩, Wes.nil (Wf.append O hgf2 (by simp [chs] at hb ⊢; unfold sizeLim; (exact ar275 hb)) ?_)⟩)))⟩)))
    have h3 : ((σ1.set i (.inst cScan (scanFs x (atW e (c :: w)) e d))).set f (.list (chs fs ++ [.str ⟨#[v]⟩])))[i]? = some (.inst cScan (scanFs x (atW e (c :: w)) e d)) := by rw [List.getElem?_set_ne (Ne.symm hif)]; exact h2
    refine Wx.cons (s_inc O X OF .head h3 (Wx.nil (Wx.nil (Wx.nil ?_))))
    have e1 : chs fs ++ [.str ⟨#[v]⟩] = chs (fs ++ [v]) := by simp [chs]
    rw [e1] at h3 ⊢
    have hset : ∀ k, k ≠ i → k ≠ f → (((σ1.set i (.inst cScan (scanFs x (atW e (c :: w)) e d))).set f (.list (chs (fs ++ [v])))).set i (.inst cScan (scanFs x (atW e w) e d)))[k]? = σ1[k]? := fun k a b => by
      rw [List.getElem?_set_ne (Ne.symm a), List.getElem?_set_ne (Ne.symm b), List.getElem?_set_ne (Ne.symm a)]
    refine ih hP pd hps _ p f oc vs (((hp.setI hi).set hlf).setI hi) hlp hlf hne (set_get h3) hW.tail.tail ?_ ?_ ?_ (by simp at hb ⊢; (exact ar244 hb)) (by simp at hv ⊢; (exact ar291 hv))
    · rw [hset p (by (first | lia | omega)) hne]; exact hgp
    · rw [List.getElem?_set_ne hif]; exact set_get hgf2
    · exact hq.mono fun j us hd hj => ⟨hd, by rw [hset j (by (first | lia | omega)) hd.2.2]; exact hj⟩
  | @inner fs wi w2 ts ps l o hd hin ht hr ih =>
    intro pd hps σ1 p f oc vs hp hlp hlf hne h hW hgp hgf hq hb hv
    have hif : i ≠ f := by (first | lia | omega)
    have hip : i ≠ p := by (first | lia | omega)
    refine Wl.go hA.frames (Wt.cmp O (m_sign O X OF hA .head h hW (e_tup3 (.notInT ["", "\"", "\n"] rfl false (by rw [any_sgn (ys := ["", "\"", "\n"]) [none, some 34, some 10] rfl]; simp) ⟨rfl, ?_⟩))))
    refine Wx.cons (Ws.ifF (Wt.cmp O (m_sign O X OF hA .head h hW (We.cstr (.neS true (by show ((⟨#[92]⟩ : PySem.Str) == "\\") = true; rw [chr_eq (s := "\\") 92 _ rfl]; rfl) ⟨rfl, Wx.nil ?_⟩)))))
    refine Wx.cons (s_inc O X OF .head h ?_)
    have h2 := set_get (b := AObj.inst cScan (scanFs x (atW e (40 :: (wi ++ 41 :: w2))) e d)) h
    generalize hσ2 : σ1.set i (.inst cScan (scanFs x (atW e (40 :: (wi ++ 41 :: w2))) e d)) = σ2 at h2 ⊢
    have hp2 : PreI i σ σ2 := by rw [← hσ2]; exact hp.setI hi
    have hget2 : ∀ k, k ≠ i → σ2[k]? = σ1[k]? := fun k a => by rw [← hσ2, List.getElem?_set_ne (Ne.symm a)]
    have hW2 : Win x e (40 :: (wi ++ 41 :: w2)) post := hW.tail
    have hW3 : Win x e (wi ++ 41 :: w2) post := hW2.tail
    refine Wx.cons (Ws.ifT (Wt.cmp O (m_sign O X OF hA .head h2 hW2 (We.cstr (.eqS true (by show ((⟨#[40]⟩ : PySem.Str) == "(") = true; rw [chr_eq (s := "(") 40 _ rfl]; rfl) ⟨rfl, ?_⟩)))))
    refine Wx.cons (Ws.ifF (Wt.cmp O (a_depth O X OF .head h2 (We.gname O OF (by repeat constructor) X.MOST_STRINGS (.eqI false (by simp; (exact ar334 hd)) ⟨rfl, Wx.nil ?_⟩)))))
    refine Wx.cons (Ws.assign OF (We.mcall O OF .head h2 X.mInnerEnd (scan_no (by decide)) X.kInnerEnd (Wes.cons (We.bin (a_spot O X OF .head h2 (We.cint (.addI (Wes.nil (Wf.of_Wc O ?_)))))))))
    rw [atW_tail]
    have hlen := hW3.len
    refine c_innerEnd O X (b := N + 1) hA h2 hW3 (M := 999980) (by unfold sizeLim; (exact ar420)) (by exact ar91 hx hlen) hin fun σ3 hp3 => ⟨_, .tail (.tail (.tail (.tail .head))), ?_⟩
    have h3 := hp3.get h2
    have hf3 : σ3[f]? = some (.list ((fs.map fun c => (⟨#[c]⟩ : PySem.Str)).map V.str)) := hp3.get (by rw [hget2 f (Ne.symm hif), hgf]; simp [chs])
    have hp3' : σ3[p]? = some (.list vs) := hp3.get (by rw [hget2 p (Ne.symm hip), hgp])
    refine Wx.cons (Ws.expr OF (We.meth O (We.name OF (by repeat constructor) ⟨_, .extend hp3', trivial, Wes.cons (We.list (Wes.cons (We.meth O (We.cstr ⟨_, .join, trivial, Wes.cons (We.name OF (by repeat constructor) (Wes.nil (Wf.join (x := "") (ys := fs.map fun c => (⟨#[c]⟩ : PySem.Str)) hf3 (joinOk_chs (by simp at hb; (exact ar202 hb))) ?_)))⟩))))⟩)))
    rw [join_chs]
    refine Wes.cons (We.meth O (We.call O (We.gname O OF (by repeat constructor) X.gScanner ⟨X.kScan, Wes.cons (a_text O X OF .head h3 (Wes.cons (We.bin (a_spot O X OF .head h3 (We.cint (.addI (Wes.cons (We.name OF (by repeat constructor) (Wes.cons (We.bin (a_depth O X OF .head h3 (We.cint (.addI (Wes.nil (Wf.of_Wc O (c_scan4 O X (b := N + 3) hA ?_))))))))))))))))⟩)))
    have hWi : Win x (atW e (41 :: w2)) wi (41 :: w2 ++ post) := by
      obtain ⟨pre, a1, a2, a3⟩ := hW3
      refine ⟨pre, by rw [a1]; simp, ?_, a3⟩
      rw [a2]; unfold atW; simp; (exact ar381)
    have e1 : atW e (40 :: (wi ++ 41 :: w2)) + 1 = atW (atW e (41 :: w2)) wi := by unfold atW; simp; (exact ar371)
    rw [e1]
    refine ⟨_, .inst get_last X.mTokens (scan_no (by decide)), X.kTokens, Wes.nil (Wf.of_Wc O (CT Γ A _ _ _ _ _ x (atW e (41 :: w2)) (d + 1) wi (41 :: w2 ++ post) ts O X (hA.le (by exact ar365)) get_last hWi hx ht fun σ4 j us hp4 hj4 hg4 hr4 => Wes.nil ⟨by simp, Wes.nil ?_⟩))⟩
    have hl3 : σ1.length ≤ σ3.length := by rw [← hσ2] at hp3; have := hp3.le; simpa using this
    have hl4 : σ3.length + 1 ≤ σ4.length := by have := hp4.le; simpa using this
    have hget4 : ∀ (k : Nat) ao, k ≠ i → σ1[k]? = some ao → σ4[k]? = some ao := fun k ao a b => by
      have b3 := hp3.get (by rw [hget2 k a]; exact b)
      have := lt_of_some b3
      exact hp4.get (get_app b3) (by (exact Nat.ne_of_lt (by assumption)))
    have hsc4 : σ4[i]? = some (.inst cScan (scanFs x (atW e (40 :: (wi ++ 41 :: w2))) e d)) := hp4.get (get_app h3) (by have := lt_of_some h3; (exact Nat.ne_of_lt (by assumption)))
    have hpp : PreI i σ σ4 := ((hp2.pre hp3).app (a := .inst cScan (scanFs x (atW (atW e (41 :: w2)) wi) (atW e (41 :: w2)) (d + 1)))).trans hp4 (.inr (by have := hp2.le; have := hp3.le; (exact ar294 (by assumption) this))) hi
    have hj4' : σ3.length + 1 ≤ j := by simpa using hj4
    have hpl := lt_of_some hgp
    have hfl := lt_of_some hgf
    refine Wf.extend O (get_app (hget4 p _ (Ne.symm hip) hgp)) get_last (by exact ar218 hl3 hl4 hpl) (by simp at hv ⊢; unfold sizeLim; (exact ar45 hv)) ?_
    generalize hσ5 : (σ4 ++ [AObj.list [V.str (mkS fs), V.obj j]]).set p (.list (vs ++ [V.str (mkS fs), V.obj j])) = σ5
    have hl5 : σ5.length = σ4.length + 1 := by rw [← hσ5]; simp
    have hget5 : ∀ (k : Nat) ao, k ≠ p → σ4[k]? = some ao → σ5[k]? = some ao := fun k ao a b => by
      rw [← hσ5, List.getElem?_set_ne (Ne.symm a)]; exact get_app b
    have hg5p : σ5[p]? = some (.list (vs ++ [V.str (mkS fs), V.obj j])) := by rw [← hσ5]; exact List.getElem?_set_self (by simp; (exact ar181 hl3 hl4 hpl))
    have hpp5 : PreI i σ σ5 := by rw [← hσ5]; exact hpp.app.set hlp
    have hsc5 := hget5 i _ hip hsc4
    refine Wx.cons (Ws.assignTup hA.handled (We.tuple (by decide) (Wes.cons (We.list (Wes.nil ⟨by simp, Wes.cons (We.bin (We.name OF (by repeat constructor) (We.cint (.addI (Wes.nil ⟨by simp, _, rfl, by simp, ?_⟩)))))⟩)))) (by intro; rfl) (by rfl) (by intro; rfl))
    refine Wa.name OF ⟨_, .tail (.tail (.tail .head)), ?_⟩
    refine Wa.attr O (We.name OF .head ⟨_, _, _, _, rfl, get_app hsc5, .spot, by simp, X.ssSpot, ?_⟩)
    refine Wx.nil (Wx.nil ?_)
    show Wl _ _ _ _ _ _ _ _ _ _ _
    rw [atW_tail]
    have hW2' : Win x e w2 post := Win.drop (u := wi ++ [41]) (by simpa using hW3)
    have hset : ∀ (k : Nat) ao, k ≠ i → σ5[k]? = some ao → ((σ5 ++ [AObj.list []]).set i (.inst cScan (scanFs x (atW e w2) e d)))[k]? = some ao := fun k ao a b => by
      rw [List.getElem?_set_ne (Ne.symm a)]; exact get_app b
    refine ih hP (pd ++ [(mkS fs, ts)]) (by rw [← hps]; simp) _ p σ5.length _ (vs ++ [V.str (mkS fs), V.obj j]) ((hpp5.app).setI hi) hlp hpp5.le (by exact ar196 hl3 hl4 hpl hl5) (set_get (get_app hsc5)) hW2' ?_ ?_ ?_ (by simp at hb ⊢; (exact ar53 hb)) (by simp at hv ⊢; (exact ar47 hv))
    · exact hset p _ (Ne.symm hip) hg5p
    · rw [List.getElem?_set_ne (by exact ar126 hi hlf hl3 hl4 hfl hl5)]; exact get_last
    · refine RpQ.snoc ?_ (hset j _ (by (first | lia | omega)) (hget5 j _ (by exact ar219 hl3 hj4' hpl) hg4)) ?_ ?_
      · exact ⟨by have := hp2.le; have := hp3.le; (exact ar175 hlf hl3 hj4' hfl), by (exact ar219 hl3 hj4' hpl), by have := lt_of_some hg4; (exact ar178 hl5 this)⟩
      · refine hr4.mono fun k us hk hg => ?_
        have hk' : σ3.length + 1 ≤ k := by simpa using hk
        exact ⟨⟨by have := hp2.le; have := hp3.le; (exact ar176 hlf hl3 hfl hk'), by (exact ar220 hl3 hpl hk'), by have := lt_of_some hg; (exact ar178 hl5 this)⟩, hset k _ (by (first | lia | omega)) (hget5 k _ (by exact ar220 hl3 hpl hk') hg)⟩
      · refine hq.mono fun k us hk hg => ?_
        have := lt_of_some hg
        exact ⟨⟨hk.1, hk.2.1, by (exact ar197 hl3 hl4 hl5 this)⟩, hset k _ (by (first | lia | omega)) (hget5 k _ hk.2.1 (hget4 k _ (by (first | lia | omega)) hg))⟩
end
end
section
open Builtin Builtin.Str
section
variable {Γ : Cx} {A : Around} {st : List Env} {L : Addr} {σ : List AObj} {E : Int → Prop} {i : Nat} {x : PySem.Str} {e d : Int} {w post : List Nat} {N : Nat} {T : TkRel}
set_option maxHeartbeats 4000000 in
theorem c_string {Q : V → List AObj → Prop} (O : Γ.Ok) (X : KF Γ.K Γ.w.params Γ.prog) (hA : AOk A st (N + 7)) (CT : CTok T N) (hx : x.length ≤ 900000) {PS : List (PySem.Str × List Tk)} {l : PySem.Str} {o : Option (List Nat)}
    (h : σ[i]? = some (.inst cScan (scanFs x (atW e (34 :: w)) e d))) (hW : Win x e (34 :: w) post) (hs : BodyR T post e d [] w PS l o)
    (hq : ∀ w1 σ' v, o = some w1 → PreI i σ σ' → σ'[i]? = some (.inst cScan (scanFs x (atW e w1) e d)) → Win x e w1 post → RpT σ' (fun k => σ.length ≤ k) (.str PS l (atW e (34 :: w))) v → Q v σ')
    (hE : o = none → E (atW e (34 :: w))) : Wc Γ A st (.glob 159) [.obj i] σ Q E := by
  have OF := X.string.ok
  have hi := lt_of_some h
  refine Wc.fn O hA X.string rfl fun L A' hA' hL => ?_
  refine Wx.cons (Ws.assignSwap (names := ["begin", "pieces", "found"]) hA'.handled (We.tuple (by decide) (Wes.cons (a_spot O X OF .head h (Wes.cons (We.list (Wes.nil ⟨by simp, Wes.cons (We.list (Wes.nil ⟨by simp, Wes.nil ⟨by simp, _, rfl, by simp, ?_⟩⟩))⟩)))))) (by intro; rfl) (by rfl))
  refine Wa.bind OF ⟨_, .tail (.tail (.tail .head)), ?_⟩
  refine Wa.bind OF ⟨_, .tail (.tail .head), ?_⟩
  refine Wa.bind OF ⟨_, .tail .head, ?_⟩
  have h2 : (σ ++ [AObj.list []] ++ [AObj.list []])[i]? = some (.inst cScan (scanFs x (atW e (34 :: w)) e d)) := get_app (get_app h)
  refine Wx.cons (s_inc O X OF .head h2 ?_)
  have hp : PreI i σ ((σ ++ [AObj.list []] ++ [AObj.list []]).set i (.inst cScan (scanFs x (atW e w) e d))) := (((PreI.refl hi).app).app).setI hi
  have hlen : w.length ≤ 900000 := by have := hW.tail.len; (exact ar99 hx this)
  refine Wx.cons (Ws.while (l_string (N := N) O X (hA'.le (by exact ar391)) CT hx hs ?_ hi [] rfl _ σ.length (σ ++ [AObj.list []]).length _ [] hp (Nat.le_refl _) (by simp) (by simp) (set_get h2) hW.tail ?_ ?_ .nil (by simp; (exact Nat.le_trans (by assumption) (by decide))) (by simp; (exact Nat.le_trans (by assumption) (by decide)))))
  · intro σ1 p f oc w1 fs vs hp1 hlp hlf hne h1 hW1 ho1 ho2 hgp hgf hl hfs hvs hr
    cases o with
    | none =>
      have hw1 := ho2 rfl
      subst hw1
      refine Wx.cons (Ws.ifT (Wt.cmp O (m_sign O X OF hA' .head h1 hW1 (We.cstr (.neS false rfl ⟨rfl, ?_⟩)))))
      exact Wx.cons (Ws.raise O OF hA' (by exact ar421) X.exc (by repeat constructor) X.gTextFault X.kTF (Wes.cons (We.cstr (Wes.cons (We.name OF (by repeat constructor) (Wes.nil ⟨_, _, rfl, hE rfl⟩))))))
    | some w2 =>
      have hw1 := ho1 w2 rfl
      subst hw1
      refine Wx.cons (Ws.ifF (Wt.cmp O (m_sign O X OF hA' .head h1 hW1 (We.cstr (.neS true rfl ⟨rfl, Wx.nil ?_⟩)))))
      refine Wx.cons (s_inc O X OF .head h1 ?_)
      have hip : i ≠ p := by (first | lia | omega)
      have hif : i ≠ f := by (first | lia | omega)
      have hset : ∀ (k : Nat), k ≠ i → (σ1.set i (.inst cScan (scanFs x (atW e w2) e d)))[k]? = σ1[k]? := fun k a => by rw [List.getElem?_set_ne (Ne.symm a)]
      have hgp' := (hset p (Ne.symm hip)).trans hgp
      have hgf' : (σ1.set i (.inst cScan (scanFs x (atW e w2) e d)))[f]? = some (.list ((fs.map fun c => (⟨#[c]⟩ : PySem.Str)).map V.str)) := by rw [hset f (Ne.symm hif), hgf]; simp [chs]
      refine Wx.cons (Ws.ret (We.tuple (by decide) (Wes.cons (We.cstr (Wes.cons (We.bin (We.name OF (by repeat constructor) (We.list (Wes.cons (We.meth O (We.cstr ⟨_, .join, trivial, Wes.cons (We.name OF (by repeat constructor) (Wes.nil (Wf.join (x := "") (ys := fs.map fun c => (⟨#[c]⟩ : PySem.Str)) hgf' ?_ ?_)))⟩)))))))))))
      · exact joinOk_chs hfs
      rw [join_chs, ← hl]
      refine Wes.nil ⟨by simp, ⟨_, _, get_app hgp', get_last, by simp; unfold sizeLim; (exact ar345 hvs), ?_⟩⟩
      refine Wes.cons (We.name OF (by repeat constructor) (Wes.nil ⟨by simp, ?_⟩))
      refine hq w2 _ _ rfl (((hp1.setI hi).app).app) (get_app (get_app (set_get h1))) hW1.tail ?_
      refine .str ?_ get_last ?_
      · have := (hp1.le); simp; (exact ar29 this)
      · refine (hr.mono fun k us hk hg => ?_).last
        exact ⟨hk.1, get_app (get_app ((hset k (by (first | lia | omega))).trans hg))⟩
  · rw [List.getElem?_set_ne (by (exact Nat.ne_of_lt (by assumption))), List.getElem?_append_left (by simp)]; exact get_last
  · rw [List.getElem?_set_ne (by simp; (exact ar325 hi))]
    exact get_last
end
end
section
open Builtin Builtin.Str
theorem BodyR.len {T : TkRel} {post : List Nat} {e d : Int} {fs w : List Nat} {ps l o} (h : BodyR T post e d fs w ps l o) : ∀ w1, o = some w1 → w1.length ≤ w.length := by
  induction h with
  | fin => intro w1 e; cases e; simp
  | stop => intro w1 e; cases e
  | ch _ _ _ _ ih => intro w1 e; have := ih w1 e; simp; (exact ar29 this)
  | esc _ _ ih => intro w1 e; have := ih w1 e; simp; (exact ar303 this)
  | inner _ _ _ _ ih => intro w1 e; have := ih w1 e; simp; (exact ar229 this)
noncomputable abbrev tkW : Stmt := stI (bM 20 9) 2
section
variable {Γ : Cx} {A : Around} {st : List Env} {L : Addr} {σ : List AObj} {E : Int → Prop} {i : Nat} {x : PySem.Str} {e d : Int} {w post : List Nat} {N : Nat} {T : TkRel}
theorem neEmpty {c : Nat} {w : List Nat} : (sgn (c :: w) == ("" : PySem.Str)) = false := by rw [str_eq_iff]; simp [sgn, show ("" : PySem.Str).cps.toList = [] from rfl]
set_option maxHeartbeats 4000000 in
theorem l_tokens {P : Fl → List (Option V) → List AObj → Prop} {TS : List Tk} (O : Γ.Ok) (X : KF Γ.K Γ.w.params Γ.prog) (hA : AOk A (fTokens.env L :: st) (N + 9)) (CT : CTok T N) {r : List (Option V)} (hx : x.length ≤ 900000) {f : Nat} (hi : i < σ.length) (hf : σ.length ≤ f)
    {w0 : List Nat} {ts : List Tk} (hs : TokW T post e d w0 ts)
    (hP : ∀ σ' vs td, PreI i σ σ' → σ'[i]? = some (.inst cScan (scanFs x (atW e []) e d)) → σ'[f]? = some (.list vs) → vs.length ≤ 999990 → TS = td ++ [.fin e] → RpL σ' (fun k => f < k) td vs → P .next (some (.obj i) :: some (.obj f) :: r) σ') :
    ∀ (td : List Tk) (hts : td ++ ts = TS) (σ1 : List AObj) (vs : List V), PreI i σ σ1 → σ1[i]? = some (.inst cScan (scanFs x (atW e w0) e d)) → Win x e w0 post → σ1[f]? = some (.list vs) → RpL σ1 (fun k => f < k) td vs → vs.length + w0.length ≤ 999990 →
      Wl Γ A st fTokens L (whT tkW) (whB tkW) (some (.obj i) :: some (.obj f) :: r) σ1 P E := by
  have OF := X.tokens.ok
  -- a token appended, then blanks passed
  have fin : ∀ {w w' : List Nat} {t : Tk} {v : V} {td : List Tk} {ts : List Tk} {σ1 σ2 : List AObj} {vs : List V}, Skp post w w' → PreI i σ σ1 → PreI i σ1 σ2 → σ1[f]? = some (.list vs) → RpL σ1 (fun k => f < k) td vs → RpT σ2 (fun k => f < k) t v → σ2[i]? = some (.inst cScan (scanFs x (atW e w) e d)) → Win x e w post → vs.length ≤ 999990 →
      (∀ σ3, PreI i σ σ3 → σ3[i]? = some (.inst cScan (scanFs x (atW e w') e d)) → Win x e w' post → σ3[f]? = some (.list (vs ++ [v])) → RpL σ3 (fun k => f < k) (td ++ [t]) (vs ++ [v]) → Wl Γ A st fTokens L (whT tkW) (whB tkW) (some (.obj i) :: some (.obj f) :: r) σ3 P E) →
      Wf Γ A st fTokens L (.blt "list.append") [.obj f, v] σ2 (fun _ σ3 => Wx Γ A st fTokens L [stI (whB tkW) 1] (some (.obj i) :: some (.obj f) :: r) σ3 (LoopK P fun ℓ2 σ2 => Wl Γ A st fTokens L (whT tkW) (whB tkW) ℓ2 σ2 P E) E) E := by
    intro w w' t v td ts σ1 σ2 vs hsk hp1 hp2 hgf hr hv hsc hW hl hk
    have hif : i ≠ f := by (exact ar144 hi hf)
    have hgf2 := hp2.get hgf (Ne.symm hif)
    refine Wf.append O hgf2 (by unfold sizeLim; (exact Nat.le_trans (by assumption) (by decide))) ?_
    have hsc' : (σ2.set f (.list (vs ++ [v])))[i]? = some (.inst cScan (scanFs x (atW e w) e d)) := by rw [List.getElem?_set_ne (Ne.symm hif)]; exact hsc
    refine Wx.cons (Ws.expr OF (We.mcall O OF .head hsc' X.mSkip (scan_no (by decide)) X.kSkip (Wes.nil (Wf.of_Wc O (c_skip O X (b := N + 7) hA hsc' hW hsk (Wx.nil ?_))))))
    show Wl _ _ _ _ _ _ _ _ _ _ _
    have hset : ∀ (k : Nat), k ≠ i → k ≠ f → ((σ2.set f (.list (vs ++ [v]))).set i (.inst cScan (scanFs x (atW e w') e d)))[k]? = σ2[k]? := fun k a b => by rw [List.getElem?_set_ne (Ne.symm a), List.getElem?_set_ne (Ne.symm b)]
    have hpp : PreI i σ σ2 := hp1.trans hp2 (.inl rfl) hi
    refine hk _ ((hpp.set hf).setI hi) (set_get hsc') (by obtain ⟨u, hu⟩ := hsk.suffix; rw [hu] at hW; exact hW.drop) (by rw [List.getElem?_set_ne hif]; exact set_get hgf2) ?_
    refine RpL.snoc (hr.mono fun k us hk hg => ⟨hk, ?_⟩) (hv.mono fun k us hk hg => ⟨hk, ?_⟩)
    · rw [hset k (by exact ar221 hi hf hk) (by (exact Nat.ne_of_gt (by assumption)))]; exact hp2.get hg (by exact ar221 hi hf hk)
    · rw [hset k (by (first | lia | omega)) (by (exact Nat.ne_of_gt (by assumption)))]; exact hg
  induction hs with
  | fin =>
    intro td hts σ1 vs hp h hW hgf hr hb
    refine Wl.stop hA.frames (Wt.cmp O (m_sign O X OF hA .head h hW (We.cstr (.neS true rfl ⟨rfl, ?_⟩))))
    exact hP _ _ _ hp h hgf (by simp at hb; (exact Nat.le_trans (by assumption) (by decide))) hts.symm hr
  | @num u w w' ts n hu h0 hl hw hn hsk hr' ih =>
    intro td hts σ1 vs hp h hW hgf hr hb
    obtain ⟨c, u', rfl⟩ : ∃ c u', u = c :: u' := by cases u with | nil => exact absurd rfl h0 | cons c u' => exact ⟨c, u', rfl⟩
    refine Wl.go hA.frames (Wt.cmp O (m_sign O X OF hA .head h hW (We.cstr (.neS false neEmpty ⟨rfl, ?_⟩))))
    refine Wx.cons (Ws.ifT (Wt.cmp O (m_sign O X OF hA .head h hW (We.gname O OF (by repeat constructor) X.FIGURES (.inS true (by show Txt.contains _ ⟨#[c]⟩ = true; rw [figs_has]; exact hu c (.head _)) ⟨rfl, ?_⟩)))))
    refine Wx.cons (Ws.expr OF (We.meth O (We.name OF (by repeat constructor) ⟨_, .append hgf, trivial, Wes.cons (We.mcall O OF .head h X.mNumber (scan_no (by decide)) X.kNumber (Wes.nil (Wf.of_Wc O (c_number O X (b := N + 7) hA h hW hu hw hl hn (Wes.nil ?_)))))⟩)))
    refine (fin (ts := ts) hsk hp ((PreI.refl (lt_of_some h)).setI (lt_of_some h)) hgf hr .num (set_get h) hW.drop (by exact ar32 hb) fun σ3 a1 a2 a3 a4 a5 => ?_).mono (fun _ σ3 h3 => Wx.nil h3) fun _ x => x
    exact ih _ (by rw [← hts]; simp) _ _ a1 a2 a3 a4 a5 (by obtain ⟨u2, hu2⟩ := hsk.suffix; have := congrArg List.length hu2; simp at this hb ⊢; (exact ar109 this hb))
  | @nam u w w' ts hu h0 hl hw hn hsk hr' ih =>
    intro td hts σ1 vs hp h hW hgf hr hb
    obtain ⟨c, u', rfl, hc⟩ := h0
    have hfig : isFig c = false := by unfold isFig; unfold isLet at hc; simp at hc ⊢; (exact ar248 hc)
    refine Wl.go hA.frames (Wt.cmp O (m_sign O X OF hA .head h hW (We.cstr (.neS false neEmpty ⟨rfl, ?_⟩))))
    refine Wx.cons (Ws.ifF (Wt.cmp O (m_sign O X OF hA .head h hW (We.gname O OF (by repeat constructor) X.FIGURES (.inS false (by show Txt.contains _ ⟨#[c]⟩ = false; rw [figs_has]; exact hfig) ⟨rfl, ?_⟩)))))
    refine Wx.cons (Ws.ifT (Wt.cmp O (m_sign O X OF hA .head h hW (We.gname O OF (by repeat constructor) X.LETTERS (.inS true (by show Txt.contains _ ⟨#[c]⟩ = true; rw [lets_has]; exact hc) ⟨rfl, ?_⟩)))))
    refine Wx.cons (Ws.expr OF (We.meth O (We.name OF (by repeat constructor) ⟨_, .append hgf, trivial, Wes.cons (We.mcall O OF .head h X.mWord (scan_no (by decide)) X.kWord (Wes.nil (Wf.of_Wc O (c_word O X (b := N + 7) hA h hW hu hw hl hn (Wes.nil ?_)))))⟩)))
    refine (fin (ts := ts) hsk hp ((PreI.refl (lt_of_some h)).setI (lt_of_some h)) hgf hr .nam (set_get h) hW.drop (by exact ar32 hb) fun σ3 a1 a2 a3 a4 a5 => ?_).mono (fun _ σ3 h3 => Wx.nil (Wx.nil h3)) fun _ x => x
    exact ih _ (by rw [← hts]; simp) _ _ a1 a2 a3 a4 a5 (by obtain ⟨u2, hu2⟩ := hsk.suffix; have := congrArg List.length hu2; simp at this hb ⊢; (exact ar109 this hb))
  | @str w ps l w1 w' ts h' hsk hr' ih =>
    intro td hts σ1 vs hp h hW hgf hr hb
    refine Wl.go hA.frames (Wt.cmp O (m_sign O X OF hA .head h hW (We.cstr (.neS false neEmpty ⟨rfl, ?_⟩))))
    refine Wx.cons (Ws.ifF (Wt.cmp O (m_sign O X OF hA .head h hW (We.gname O OF (by repeat constructor) X.FIGURES (.inS false (by show Txt.contains _ ⟨#[34]⟩ = false; rw [figs_has]; rfl) ⟨rfl, ?_⟩)))))
    refine Wx.cons (Ws.ifF (Wt.cmp O (m_sign O X OF hA .head h hW (We.gname O OF (by repeat constructor) X.LETTERS (.inS false (by show Txt.contains _ ⟨#[34]⟩ = false; rw [lets_has]; rfl) ⟨rfl, ?_⟩)))))
    refine Wx.cons (Ws.ifT (Wt.cmp O (m_sign O X OF hA .head h hW (We.cstr (.eqS true rfl ⟨rfl, ?_⟩)))))
    refine Wx.cons (Ws.expr OF (We.meth O (We.name OF (by repeat constructor) ⟨_, .append hgf, trivial, Wes.cons (We.mcall O OF .head h X.mString (scan_no (by decide)) X.kString (Wes.nil (Wf.of_Wc O (c_string O X (N := N) (hA.le (by exact ar316)) CT hx h hW h' (fun w2 σ2 v e1 a1 a2 a3 a4 => Wes.nil ?_) (fun q => by cases q)))))⟩)))
    cases e1
    refine (fin (ts := ts) hsk hp a1 hgf hr (a4.mono fun k us hk hg => ⟨?_, hg⟩) a2 a3 (by exact ar32 hb) fun σ3 a1 a2 a3 a4 a5 => ?_).mono (fun _ σ3 h3 => Wx.nil (Wx.nil (Wx.nil h3))) fun _ x => x
    · have := lt_of_some hgf; (exact ar250 hk this)
    · exact ih _ (by rw [← hts]; simp) _ _ a1 a2 a3 a4 a5 (by
        obtain ⟨u2, hu2⟩ := hsk.suffix
        have h1 := congrArg List.length hu2
        have h2 := h'.len _ rfl
        simp at h1 h2 hb ⊢; (exact ar112 hb h2 h1))
  | @sg s pre suf w w' ts hne hs hp' hc hsk hr' ih =>
    intro td hts σ1 vs hp h hW hgf hr hb
    obtain ⟨c, r', hcr, hc1, hc2, hc3⟩ := hc
    have hsg : sgn (s.cps.toList ++ w) = ⟨#[c]⟩ := by rw [hcr]; rfl
    refine Wl.go hA.frames (Wt.cmp O (m_sign O X OF hA .head h hW (We.cstr (.neS false (by rw [hcr]; exact neEmpty) ⟨rfl, ?_⟩))))
    refine Wx.cons (Ws.ifF (Wt.cmp O (m_sign O X OF hA .head h hW (We.gname O OF (by repeat constructor) X.FIGURES (.inS false (by rw [hsg, figs_has]; exact hc1) ⟨rfl, ?_⟩)))))
    refine Wx.cons (Ws.ifF (Wt.cmp O (m_sign O X OF hA .head h hW (We.gname O OF (by repeat constructor) X.LETTERS (.inS false (by rw [hsg, lets_has]; exact hc2) ⟨rfl, ?_⟩)))))
    refine Wx.cons (Ws.ifF (Wt.cmp O (m_sign O X OF hA .head h hW (We.cstr (.eqS false (by rw [hsg, chr_eq (s := "\"") 34 _ rfl]; simpa using hc3) ⟨rfl, ?_⟩)))))
    refine Wx.cons (Ws.expr OF (We.meth O (We.name OF (by repeat constructor) ⟨_, .append hgf, trivial, Wes.cons (We.mcall O OF .head h X.mMark (scan_no (by decide)) X.kMark (Wes.nil (Wf.of_Wc O (c_mark O X (b := N + 8) hA h hW rfl hne hs hp' (Wes.nil ?_)))))⟩)))
    refine (fin (ts := ts) hsk hp ((PreI.refl (lt_of_some h)).setI (lt_of_some h)) hgf hr .sg (set_get h) hW.drop (by exact ar32 hb) fun σ3 a1 a2 a3 a4 a5 => ?_).mono (fun _ σ3 h3 => Wx.nil (Wx.nil (Wx.nil h3))) fun _ x => x
    exact ih _ (by rw [← hts]; simp) _ _ a1 a2 a3 a4 a5 (by obtain ⟨u2, hu2⟩ := hsk.suffix; have := congrArg List.length hu2; rw [hcr] at hb; simp at this hb ⊢; (exact ar109 this hb))
theorem c_tokens (CT : CTok T N) : CTok (TokR T) (N + 10) := by
  intro Γ A st σ E Q i x e d w post ts O X hA h hW hx ht hq
  obtain ⟨hsk, hr⟩ := ht
  have OF := X.tokens.ok
  have hi := lt_of_some h
  refine Wc.fn O hA X.tokens rfl fun L A' hA' hL => ?_
  refine Wx.cons (Ws.assign OF (We.list (Wes.nil ⟨by simp, _, .tail .head, ?_⟩)))
  have h2 : (σ ++ [AObj.list []])[i]? = some (.inst cScan (scanFs x (atW e w) e d)) := get_app h
  refine Wx.cons (Ws.expr OF (We.mcall O OF .head h2 X.mSkip (scan_no (by decide)) X.kSkip (Wes.nil (Wf.of_Wc O (c_skip O X (b := N + 7) hA' h2 hW hsk ?_)))))
  have hW' : ∀ {w'}, Skp post w w' → Win x e w' post := fun hk => by obtain ⟨u, hu⟩ := hk.suffix; rw [hu] at hW; exact hW.drop
  refine Wx.cons (Ws.while (l_tokens (N := N) (TS := ts) (σ := σ) O X (hA'.le (by exact Nat.le_refl _)) CT hx (f := σ.length) hi (Nat.le_refl _) hr ?_ [] rfl _ [] (((PreI.refl hi).app).setI hi) (set_get h2) (hW' hsk) ?_ .nil (by simp; have := (hW' hsk).len; (exact ar102 hx this))))
  · intro σ1 vs td hp h1 hgf hl hts hr1
    refine Wx.cons (Ws.expr OF (We.meth O (We.name OF (by repeat constructor) ⟨_, .append hgf, trivial, Wes.cons (We.tuple (by decide) (Wes.cons (We.cstr (Wes.cons (We.cstr (Wes.cons (a_end O X OF .head h1 (Wes.nil ⟨by simp, Wes.nil (Wf.append O hgf (by unfold sizeLim; (exact Nat.le_trans (by assumption) (by decide))) ?_)⟩))))))))⟩)))
    refine Wx.cons (Ws.ret (We.name OF (by repeat constructor) ?_))
    refine hq _ _ _ (hp.set (Nat.le_refl _)) (Nat.le_refl _) (set_get hgf) ?_
    rw [hts]
    refine RpL.snoc (hr1.mono fun k us hk hg => ⟨by (exact Nat.le_of_lt (by assumption)), ?_⟩) .fin
    rw [List.getElem?_set_ne (by (exact Nat.ne_of_lt (by assumption)))]; exact hg
  · rw [List.getElem?_set_ne (by (exact Nat.ne_of_lt (by assumption)))]; exact get_last
theorem c_tokLv : ∀ k, CTok (TokLv k) (10 * k)
  | 0 => fun _ _ _ _ _ _ _ _ _ _ _ _ _ _ _ _ _ _ _ h => h.elim
  | k + 1 => c_tokens (c_tokLv k)
end
end
section
open Builtin Builtin.Str
section
variable {Γ : Cx} {A : Around} {st : List Env} {L : Addr} {σ : List AObj} {E : Int → Prop} {i : Nat} {x : PySem.Str} {e d : Int} {w post : List Nat} {N : Nat} {T : TkRel}
set_option maxHeartbeats 2000000 in
theorem c_tokensE {Q : V → List AObj → Prop} {w1 : List Nat} {PS : List (PySem.Str × List Tk)} {l : PySem.Str} (CT : CTok T N) (O : Γ.Ok) (X : KF Γ.K Γ.w.params Γ.prog) (hA : AOk A st (N + 10)) (h : σ[i]? = some (.inst cScan (scanFs x (atW e w) e d))) (hW : Win x e w post) (hx : x.length ≤ 900000)
    (hsk : Skp post w (34 :: w1)) (hs : BodyR T post e d [] w1 PS l none) (hE : E (atW e (34 :: w1))) : Wc Γ A st (.glob 173) [.obj i] σ Q E := by
  have OF := X.tokens.ok
  have hi := lt_of_some h
  refine Wc.fn O hA X.tokens rfl fun L A' hA' hL => ?_
  refine Wx.cons (Ws.assign OF (We.list (Wes.nil ⟨by simp, _, .tail .head, ?_⟩)))
  have h2 : (σ ++ [AObj.list []])[i]? = some (.inst cScan (scanFs x (atW e w) e d)) := get_app h
  refine Wx.cons (Ws.expr OF (We.mcall O OF .head h2 X.mSkip (scan_no (by decide)) X.kSkip (Wes.nil (Wf.of_Wc O (c_skip O X (b := N + 7) hA' h2 hW hsk ?_)))))
  have hW' : Win x e (34 :: w1) post := by obtain ⟨u, hu⟩ := hsk.suffix; rw [hu] at hW; exact hW.drop
  have h3 := set_get (b := AObj.inst cScan (scanFs x (atW e (34 :: w1)) e d)) h2
  have hgf : ((σ ++ [AObj.list []]).set i (.inst cScan (scanFs x (atW e (34 :: w1)) e d)))[σ.length]? = some (.list []) := by rw [List.getElem?_set_ne (by (exact Nat.ne_of_lt (by assumption)))]; exact get_last
  refine Wx.cons (Ws.while (Wl.go hA'.frames (Wt.cmp O (m_sign O X OF hA' .head h3 hW' (We.cstr (.neS false neEmpty ⟨rfl, ?_⟩))))))
  refine Wx.cons (Ws.ifF (Wt.cmp O (m_sign O X OF hA' .head h3 hW' (We.gname O OF (by repeat constructor) X.FIGURES (.inS false (by show Txt.contains _ ⟨#[34]⟩ = false; rw [figs_has]; rfl) ⟨rfl, ?_⟩)))))
  refine Wx.cons (Ws.ifF (Wt.cmp O (m_sign O X OF hA' .head h3 hW' (We.gname O OF (by repeat constructor) X.LETTERS (.inS false (by show Txt.contains _ ⟨#[34]⟩ = false; rw [lets_has]; rfl) ⟨rfl, ?_⟩)))))
  refine Wx.cons (Ws.ifT (Wt.cmp O (m_sign O X OF hA' .head h3 hW' (We.cstr (.eqS true rfl ⟨rfl, ?_⟩)))))
  exact Wx.cons (Ws.expr OF (We.meth O (We.name OF (by repeat constructor) ⟨_, .append hgf, trivial, Wes.cons (We.mcall O OF .head h3 X.mString (scan_no (by decide)) X.kString (Wes.nil (Wf.of_Wc O (c_string O X (N := N) (hA'.le (by exact ar316)) CT hx h3 hW' hs (fun w2 σ2 v e1 a1 a2 a3 a4 => nomatch e1) (fun _ => hE)))))⟩)))
end
noncomputable abbrev parsFs (t : Nat) (place d : Int) : List (PySem.Str × V) := [("tokens", .obj t), ("place", .int place), ("depth", .int d)]
noncomputable def kindOf : Tk → PySem.Str
  | .num .. => "int"
  | .nam .. => "name"
  | .str .. => "str"
  | .sg .. => "sign"
  | .fin .. => "end"
noncomputable def spotOf : Tk → Int
  | .num _ a => a
  | .nam _ a => a
  | .str _ _ a => a
  | .sg _ a => a
  | .fin a => a
section
variable {Γ : Cx} {A : Around} {st : List Env} {F : Fn} {L : Addr} {ℓ : List (Option V)} {σ : List AObj} {E : Int → Prop} {i t : Nat} {n : PySem.Str} {p d : Int} {vs : List V} {b : Nat} {p1 p2 p3 p4 p5 : Pos} {Q : V → List AObj → Prop}
theorem pars_no {m : PySem.Str} (h : m ∉ (["tokens", "place", "depth"] : List PySem.Str)) : m ∉ (parsFs t p d).map (·.1) := h
theorem b_tokens (O : Γ.Ok) (X : KF Γ.K Γ.w.params Γ.prog) (OF : FnOk F) (ha : At F.scope.names ℓ n (.obj i)) (h : σ[i]? = some (.inst cPars (parsFs t p d))) (hq : Q (.obj t) σ) : We Γ A st F L (.Attribute (.Name n p1) "tokens" p2) ℓ σ Q E := We.att O OF ha X.pTokens h (by repeat constructor) rfl hq
theorem b_place (O : Γ.Ok) (X : KF Γ.K Γ.w.params Γ.prog) (OF : FnOk F) (ha : At F.scope.names ℓ n (.obj i)) (h : σ[i]? = some (.inst cPars (parsFs t p d))) (hq : Q (.int p) σ) : We Γ A st F L (.Attribute (.Name n p1) "place" p2) ℓ σ Q E := We.att O OF ha X.pPlace h (by repeat constructor) rfl hq
theorem b_depth (O : Γ.Ok) (X : KF Γ.K Γ.w.params Γ.prog) (OF : FnOk F) (ha : At F.scope.names ℓ n (.obj i)) (h : σ[i]? = some (.inst cPars (parsFs t p d))) (hq : Q (.int d) σ) : We Γ A st F L (.Attribute (.Name n p1) "depth" p2) ℓ σ Q E := We.att O OF ha X.pDepth h (by repeat constructor) rfl hq
theorem ItemK.list {j : Nat} {k : Int} {vs : List V} {W : V} {σ : List AObj} {Q : V → List AObj → Prop} (h : σ[j]? = some (.list vs)) (p : Nat) (hk : k = p) (hp : vs.length ≤ 999990) (hv : vs[p]? = some W) (hq : Q W σ) : ItemK Γ (.obj j) (.int k) σ Q :=
  ⟨vs, W, h, .inl ⟨by (exact ar357 hk), by have := lt_of_some hv; (exact ar164 hk hp this), by subst hk; simpa using hv⟩, hq⟩
theorem ItemK.tup {k : Int} {Ws : List V} {W : V} {σ : List AObj} {Q : V → List AObj → Prop} (h0 : 0 ≤ k) (h1 : k < 2 ^ 62) (hv : Ws[k.toNat]? = some W) (hq : Q W σ) : ItemK Γ (.tup Ws) (.int k) σ Q := ⟨W, h0, h1, hv, hq⟩
structure AtP (σ : List AObj) (i t : Nat) (p : Nat) (d : Int) (vs : List V) : Prop where
  inst : σ[i]? = some (.inst cPars (parsFs t p d))
  toks : σ[t]? = some (.list vs)
  small : vs.length ≤ 999990
theorem b_tok {W : V} {p : Nat} (O : Γ.Ok) (X : KF Γ.K Γ.w.params Γ.prog) (OF : FnOk F) (ha : At F.scope.names ℓ n (.obj i)) (h : AtP σ i t p d vs) (hv : vs[p]? = some W) (hq : Q W σ) :
    We Γ A st F L (.Subscript (.Attribute (.Name n p1) "tokens" p2) (.Attribute (.Name n p3) "place" p4) p5) ℓ σ Q E :=
  We.item O (b_tokens O X OF ha h.inst (b_place O X OF ha h.inst ⟨vs, W, h.toks, .inl ⟨by (exact ar135), by have := lt_of_some hv; have := h.small; (exact ar199 (by assumption) this), by simpa using hv⟩, hq⟩))
theorem PutF.place {t : Nat} {a b d : Int} : PutF (parsFs t a d) "place" (.int b) (parsFs t b d) := .tail (by show ("tokens" : PySem.Str) ≠ "place"; decide) .head
theorem PutF.pdepth {t : Nat} {a b d : Int} : PutF (parsFs t a d) "depth" (.int b) (parsFs t a b) := .tail (by show ("tokens" : PySem.Str) ≠ "depth"; decide) (.tail (by show ("place" : PySem.Str) ≠ "depth"; decide) .head)
theorem c_kind {p : Nat} {K : V} {r : List V} (O : Γ.Ok) (X : KF Γ.K Γ.w.params Γ.prog) (hA : AOk A st (b + 1)) (h : AtP σ i t p d vs) (hv : vs[p]? = some (.tup (K :: r))) (hq : Q K σ) : Wc Γ A st (.glob 201) [.obj i] σ Q E := by
  have OF := X.kind.ok
  refine Wc.fn O hA X.kind rfl fun L A' hA' hL => ?_
  exact Wx.cons (Ws.ret (We.item O (b_tok O X OF .head h hv (We.cint ⟨K, by decide, by decide, rfl, hq⟩))))
theorem c_spot {p : Nat} {a b' c : V} (O : Γ.Ok) (X : KF Γ.K Γ.w.params Γ.prog) (hA : AOk A st (b + 1)) (h : AtP σ i t p d vs) (hv : vs[p]? = some (.tup [a, b', c])) (hq : Q c σ) : Wc Γ A st (.glob 208) [.obj i] σ Q E := by
  have OF := X.spot.ok
  refine Wc.fn O hA X.spot rfl fun L A' hA' hL => ?_
  exact Wx.cons (Ws.ret (We.item O (b_tok O X OF .head h hv (We.cint ⟨c, by decide, by decide, rfl, hq⟩))))
theorem c_take {p : Nat} {a b' c : V} (O : Γ.Ok) (X : KF Γ.K Γ.w.params Γ.prog) (hA : AOk A st (b + 1)) (h : AtP σ i t p d vs) (hv : vs[p]? = some (.tup [a, b', c])) (hq : Q b' (σ.set i (.inst cPars (parsFs t (p + 1 : Nat) d)))) : Wc Γ A st (.glob 215) [.obj i] σ Q E := by
  have OF := X.take.ok
  refine Wc.fn O hA X.take rfl fun L A' hA' hL => ?_
  refine Wx.cons (Ws.augAttr O (We.name OF .head ⟨_, _, _, _, rfl, h.inst, by repeat constructor, X.pPlace, rfl, We.cint ⟨rfl, _, _, rfl, rfl, _, _, _, _, rfl, h.inst, .place, by simp, X.spPlace, ?_⟩⟩))
  have h1 := set_get (b := AObj.inst cPars (parsFs t ((p : Int) + 1) d)) h.inst
  have hti : t ≠ i := fun q => by have := h.toks; rw [q, h.inst] at this; cases this
  have h2 : (σ.set i (AObj.inst cPars (parsFs t ((p : Int) + 1) d)))[t]? = some (.list vs) := by rw [List.getElem?_set_ne (Ne.symm hti)]; exact h.toks
  exact Wx.cons (Ws.ret (We.item O (We.item O (b_tokens O X OF .head h1 (We.bin (b_place O X OF .head h1 (We.cint (.subI (.list h2 p (by exact ar310) h.small hv (We.cint (.tup (by decide) (by decide) rfl hq)))))))))))
end
end
section
open Builtin Builtin.Str
noncomputable def isNx (t : Tk) (v : PySem.Str) : Bool := match t with
  | .sg s _ => s == v
  | _ => false
section
variable {Γ : Cx} {A : Around} {st : List Env} {F : Fn} {L : Addr} {ℓ : List (Option V)} {σ : List AObj} {E : Int → Prop} {i t : Nat} {n v : PySem.Str} {p : Nat} {d : Int} {vs : List V} {b : Nat} {p1 p2 p3 p4 p5 : Pos} {Q : V → List AObj → Prop} {W : V} {tk : Tk} {D : Nat → Prop}
theorem We.and2T {a b : Expr} {pos} (h : We Γ A st F L a ℓ σ (fun v σ1 => v = .bool true ∧ We Γ A st F L b ℓ σ1 Q E) E) : We Γ A st F L (.BoolOp .And [a, b] pos) ℓ σ Q E :=
  We.and2 (h.mono (fun v σ1 hpt => by obtain ⟨h1, h2⟩ := hpt; subst h1; simpa [TruK] using h2) fun _ x => x)
theorem We.and2F {a b : Expr} {pos} (h : We Γ A st F L a ℓ σ (fun v σ1 => v = .bool false ∧ Q (.bool false) σ1) E) : We Γ A st F L (.BoolOp .And [a, b] pos) ℓ σ Q E :=
  We.and2 (h.mono (fun v σ1 hpt => by obtain ⟨h1, h2⟩ := hpt; subst h1; simpa [TruK] using h2) fun _ x => x)
theorem RpT.shape (h : RpT σ D tk W) : ∃ v1, W = .tup [.str (kindOf tk), v1, .int (spotOf tk)] ∧ (∀ s a, tk = .sg s a → v1 = .str s) ∧ (∀ k a, tk = .num k a → v1 = .int k) ∧ (∀ s a, tk = .nam s a → v1 = .str s) ∧ (∀ a, tk = .fin a → v1 = .str "") := by
  cases h <;> exact ⟨_, rfl, (fun _ _ q => by cases q <;> rfl), (fun _ _ q => by cases q <;> rfl), (fun _ _ q => by cases q <;> rfl), (fun _ q => by cases q <;> rfl)⟩
theorem c_isNext (O : Γ.Ok) (X : KF Γ.K Γ.w.params Γ.prog) (hA : AOk A st (b + 1)) (h : AtP σ i t p d vs) (hv : vs[p]? = some W) (hr : RpT σ D tk W) (hq : Q (.bool (isNx tk v)) σ) : Wc Γ A st (.glob 222) [.obj i, .str v] σ Q E := by
  have OF := X.isNext.ok
  obtain ⟨v1, rfl, hs, -⟩ := hr.shape
  refine Wc.fn O hA X.isNext rfl fun L A' hA' hL => ?_
  cases tk with
  | sg s a =>
    have := hs s a rfl
    subst this
    exact Wx.cons (Ws.ret (We.and2T (We.cmp O (We.item O (b_tok O X OF .head h hv (We.cint (.tup (by decide) (by decide) rfl (e_tup2 (.inT ["word", "sign"] rfl true rfl ⟨rfl, We.cmp O (We.item O (b_tok O X OF .head h hv (We.cint (.tup (by decide) (by decide) rfl (We.name OF (by repeat constructor) (.eqS _ rfl hq))))))⟩)))))))))
  | num => exact Wx.cons (Ws.ret (We.and2F (We.cmp O (We.item O (b_tok O X OF .head h hv (We.cint (.tup (by decide) (by decide) rfl (e_tup2 (.inT ["word", "sign"] rfl false rfl ⟨rfl, hq⟩)))))))))
  | nam => exact Wx.cons (Ws.ret (We.and2F (We.cmp O (We.item O (b_tok O X OF .head h hv (We.cint (.tup (by decide) (by decide) rfl (e_tup2 (.inT ["word", "sign"] rfl false rfl ⟨rfl, hq⟩)))))))))
  | str => exact Wx.cons (Ws.ret (We.and2F (We.cmp O (We.item O (b_tok O X OF .head h hv (We.cint (.tup (by decide) (by decide) rfl (e_tup2 (.inT ["word", "sign"] rfl false rfl ⟨rfl, hq⟩)))))))))
  | fin => exact Wx.cons (Ws.ret (We.and2F (We.cmp O (We.item O (b_tok O X OF .head h hv (We.cint (.tup (by decide) (by decide) rfl (e_tup2 (.inT ["word", "sign"] rfl false rfl ⟨rfl, hq⟩)))))))))
theorem AtP.set {d' : Int} {p' : Nat} (h : AtP σ i t p d vs) : AtP (σ.set i (.inst cPars (parsFs t p' d'))) i t p' d' vs := by
  have hti : t ≠ i := fun q => by have := h.toks; rw [q, h.inst] at this; cases this
  exact ⟨set_get h.inst, by rw [List.getElem?_set_ne (Ne.symm hti)]; exact h.toks, h.small⟩
theorem c_tookT (O : Γ.Ok) (X : KF Γ.K Γ.w.params Γ.prog) (hA : AOk A st (b + 2)) (h : AtP σ i t p d vs) (hv : vs[p]? = some W) (hr : RpT σ D tk W) (hn : isNx tk v = true) (hq : Q (.bool true) (σ.set i (.inst cPars (parsFs t (p + 1 : Nat) d)))) : Wc Γ A st (.glob 229) [.obj i, .str v] σ Q E := by
  have OF := X.took.ok
  refine Wc.fn O hA X.took rfl fun L A' hA' hL => ?_
  refine Wx.cons (Ws.ifT (Wt.plain (We.mcall O OF .head h.inst X.mIsNext (pars_no (by decide)) X.kIsNext (Wes.cons (We.name OF (by repeat constructor) (Wes.nil (Wf.of_Wc O (c_isNext O X (b := b) hA' h hv hr ?_))))))))
  rw [hn]
  refine ⟨rfl, ?_⟩
  refine Wx.cons (Ws.augAttr O (We.name OF .head ⟨_, _, _, _, rfl, h.inst, by repeat constructor, X.pPlace, rfl, We.cint ⟨rfl, _, _, rfl, rfl, _, _, _, _, rfl, h.inst, .place, by simp, X.spPlace, ?_⟩⟩))
  exact Wx.cons (Ws.ret (We.cbool hq))
theorem c_tookF (O : Γ.Ok) (X : KF Γ.K Γ.w.params Γ.prog) (hA : AOk A st (b + 2)) (h : AtP σ i t p d vs) (hv : vs[p]? = some W) (hr : RpT σ D tk W) (hn : isNx tk v = false) (hq : Q (.bool false) σ) : Wc Γ A st (.glob 229) [.obj i, .str v] σ Q E := by
  have OF := X.took.ok
  refine Wc.fn O hA X.took rfl fun L A' hA' hL => ?_
  refine Wx.cons (Ws.ifF (Wt.plain (We.mcall O OF .head h.inst X.mIsNext (pars_no (by decide)) X.kIsNext (Wes.cons (We.name OF (by repeat constructor) (Wes.nil (Wf.of_Wc O (c_isNext O X (b := b) hA' h hv hr ?_))))))))
  rw [hn]
  exact ⟨rfl, Wx.nil (Wx.cons (Ws.ret (We.cbool hq)))⟩
theorem c_want (O : Γ.Ok) (X : KF Γ.K Γ.w.params Γ.prog) (hA : AOk A st (b + 3)) (h : AtP σ i t p d vs) (hv : vs[p]? = some W) (hr : RpT σ D tk W) (hn : isNx tk v = true) (hq : Q .none (σ.set i (.inst cPars (parsFs t (p + 1 : Nat) d)))) : Wc Γ A st (.glob 236) [.obj i, .str v] σ Q E := by
  have OF := X.want.ok
  refine Wc.fn O hA X.want rfl fun L A' hA' hL => ?_
  exact Wx.cons (Ws.ifF (Wt.not (Wt.plain (We.mcall O OF .head h.inst X.mTook (pars_no (by decide)) X.kTook (Wes.cons (We.name OF (by repeat constructor) (Wes.nil (Wf.of_Wc O (c_tookT O X (b := b) hA' h hv hr hn ⟨rfl, Wx.nil (Wx.nil hq)⟩)))))))))
noncomputable def lvl : Tk → Int
  | .sg s _ => if s == "+" then 9 else if s == "++" then 12 else 0
  | _ => 0
noncomputable def lvKnown : Tk → Prop
  | .sg s _ => s = "+" ∨ s = "++" ∨ s = "(" ∨ s = ")"
  | _ => True
theorem c_level (O : Γ.Ok) (X : KF Γ.K Γ.w.params Γ.prog) (hA : AOk A st (b + 2)) (h : AtP σ i t p d vs) (hv : vs[p]? = some W) (hr : RpT σ D tk W) (hk : lvKnown tk) (hq : Q (.int (lvl tk)) σ) : Wc Γ A st (.glob 264) [.obj i] σ Q E := by
  have OF := X.level.ok
  obtain ⟨v1, rfl, hs, -⟩ := hr.shape
  refine Wc.fn O hA X.level rfl fun L A' hA' hL => ?_
  cases tk with
  | sg s a =>
    have := hs s a rfl
    subst this
    refine Wx.cons (Ws.ifF (Wt.cmp O (We.mcall O OF .head h.inst X.mKind (pars_no (by decide)) X.kKind (Wes.nil (Wf.of_Wc O (c_kind O X (b := b) hA' h hv (e_tup2 (.notInT ["word", "sign"] rfl true rfl ⟨rfl, Wx.nil ?_⟩))))))))
    obtain ⟨ees, en, eK, eL⟩ := X.lev
    refine Wx.cons (Ws.ret (We.meth O (We.gname O OF (by repeat constructor) X.gLEVELS ⟨_, .get eK, trivial, Wes.cons (We.item O (b_tok O X OF .head h hv (We.cint (.tup (by decide) (by decide) rfl (Wes.cons (We.cint (Wes.nil ?_)))))))⟩)))
    rcases hk with rfl | rfl | rfl | rfl
    · obtain ⟨y, hy, hc⟩ := X.levP; exact Wf.getDefault O eK eL (by decide) hy hc hq
    · obtain ⟨y, hy, hc⟩ := X.levC; exact Wf.getDefault O eK eL (by decide) hy hc hq
    · exact Wf.getDefault O eK eL (by decide) X.levO rfl hq
    · exact Wf.getDefault O eK eL (by decide) X.levX rfl hq
  | num => exact Wx.cons (Ws.ifT (Wt.cmp O (We.mcall O OF .head h.inst X.mKind (pars_no (by decide)) X.kKind (Wes.nil (Wf.of_Wc O (c_kind O X (b := b) hA' h hv (e_tup2 (.notInT ["word", "sign"] rfl false rfl ⟨rfl, Wx.cons (Ws.ret (We.cint hq))⟩))))))))
  | nam => exact Wx.cons (Ws.ifT (Wt.cmp O (We.mcall O OF .head h.inst X.mKind (pars_no (by decide)) X.kKind (Wes.nil (Wf.of_Wc O (c_kind O X (b := b) hA' h hv (e_tup2 (.notInT ["word", "sign"] rfl false rfl ⟨rfl, Wx.cons (Ws.ret (We.cint hq))⟩))))))))
  | str => exact Wx.cons (Ws.ifT (Wt.cmp O (We.mcall O OF .head h.inst X.mKind (pars_no (by decide)) X.kKind (Wes.nil (Wf.of_Wc O (c_kind O X (b := b) hA' h hv (e_tup2 (.notInT ["word", "sign"] rfl false rfl ⟨rfl, Wx.cons (Ws.ret (We.cint hq))⟩))))))))
  | fin => exact Wx.cons (Ws.ifT (Wt.cmp O (We.mcall O OF .head h.inst X.mKind (pars_no (by decide)) X.kKind (Wes.nil (Wf.of_Wc O (c_kind O X (b := b) hA' h hv (e_tup2 (.notInT ["word", "sign"] rfl false rfl ⟨rfl, Wx.cons (Ws.ret (We.cint hq))⟩))))))))
end
end
section
open Builtin Builtin.Str
inductive Pt where
  | num (k a : Int)
  | nam (s : PySem.Str) (a : Int)
  | str (a : Int) (ps : List (PySem.Str × Pt)) (last : PySem.Str)
  | call (a : Int) (s : PySem.Str) (one : Pt)
  | bin (a : Int) (plus : Bool) (one other : Pt)
noncomputable def opS (plus : Bool) : PySem.Str := if plus then "+" else "++"
noncomputable abbrev sNode (a : Int) (s : PySem.Str) : V := .tup [.str "str", .int a, .str s]
noncomputable abbrev cNode (a : Int) (n : V) : V := .tup [.str "call", .int a, .str "show", .tup [n]]
noncomputable abbrev jNode (a : Int) (n late : V) : V := .tup [.str "bin", .int a, .str "++", n, late]
mutual
noncomputable def node : Pt → V
  | .num k a => .tup [.str "int", .int a, .int k]
  | .nam s a => .tup [.str "name", .int a, .str s]
  | .str a ps last => strNode a ps last
  | .call a s one => .tup [.str "call", .int a, .str s, .tup [node one]]
  | .bin a plus one other => .tup [.str "bin", .int a, .str (opS plus), node one, node other]
noncomputable def strNode (a : Int) : List (PySem.Str × Pt) → PySem.Str → V
  | [], last => sNode a last
  | (s, p) :: r, last => strFold a (jNode a (sNode a s) (cNode a (node p))) r last
noncomputable def strFold (a : Int) (acc : V) : List (PySem.Str × Pt) → PySem.Str → V
  | [], last => jNode a acc (sNode a last)
  | (s, p) :: r, last => strFold a (jNode a (jNode a acc (sNode a s)) (cNode a (node p))) r last
end
mutual
inductive PT : Pt → List Tk → Prop
  | num {k a} : PT (.num k a) [.num k a]
  | nam {s a} : PT (.nam s a) [.nam s a]
  | str {a ps last tps} (h : PTs ps tps) : PT (.str a ps last) [.str tps last a]
  | call {a s one ts b c} (h : PT one ts) : PT (.call a s one) (.nam s a :: .sg "(" b :: ts ++ [.sg ")" c])
  | bin {a plus one other t1 t2 b c} (h1 : PT one t1) (h2 : PT other t2) : PT (.bin a plus one other) (.sg "(" b :: t1 ++ .sg (opS plus) a :: t2 ++ [.sg ")" c])
inductive PTs : List (PySem.Str × Pt) → List (PySem.Str × List Tk) → Prop
  | nil : PTs [] []
  | cons {s p ts e ps tps} (h : PT p ts) (r : PTs ps tps) : PTs ((s, p) :: ps) ((s, ts ++ [.fin e]) :: tps)
end
mutual
noncomputable def dep : Pt → Nat
  | .num .. => 0
  | .nam .. => 0
  | .str _ ps _ => deps ps
  | .call _ _ one => dep one + 1
  | .bin _ _ one other => max (dep one) (dep other) + 1
noncomputable def deps : List (PySem.Str × Pt) → Nat
  | [] => 0
  | (_, p) :: r => max (dep p + 1) (deps r)
end
section
variable {Γ : Cx} {A : Around} {st : List Env} {F : Fn} {L : Addr} {ℓ : List (Option V)} {σ : List AObj} {E : Int → Prop} {i t : Nat} {n v : PySem.Str} {p : Nat} {d : Int} {vs : List V} {b : Nat} {Q : V → List AObj → Prop} {W : V} {tk : Tk} {D : Nat → Prop}
theorem c_put {j : Nat} {l r : V} {a : Int} {op : PySem.Str} {lv : V} (O : Γ.Ok) (X : KF Γ.K Γ.w.params Γ.prog) (hA : AOk A st (b + 1)) (h : σ[j]? = some (.list [l, r])) (hop : (op == "..") = false)
    (hq : Q .none (σ.set j (.list [.tup [.str "bin", .int a, .str op, l, r]]))) (self : V) : Wc Γ A st (.glob 278) [self, .obj j, .tup [lv, .int a, .str op]] σ Q E := by
  have OF := X.putTogether.ok
  refine Wc.fn O hA X.putTogether rfl fun L A' hA' hL => ?_
  have h1 : σ[j]? = some (.list ([l] ++ [r])) := h
  refine Wx.cons (Ws.assignSwap (names := ["right", "left"]) hA'.handled (We.tuple (by decide) (Wes.cons (We.meth O (We.name OF (by repeat constructor) ⟨_, .pop h1, trivial, Wes.nil (Wf.pop O h1 (by simp [sizeLim]) ?_)⟩)))) (by intro; rfl) (by rfl))
  have h2 : (σ.set j (.list [l]))[j]? = some (.list ([] ++ [l])) := set_get h
  refine Wes.cons (We.meth O (We.name OF (by repeat constructor) ⟨_, .pop h2, trivial, Wes.nil (Wf.pop O h2 (by simp) (Wes.nil ⟨by simp, _, rfl, by simp, ?_⟩))⟩))
  refine Wa.bind OF ⟨_, .tail (.tail (.tail (.tail .head))), ?_⟩
  refine Wa.bind OF ⟨_, .tail (.tail (.tail .head)), ?_⟩
  have h3 : ((σ.set j (.list [l])).set j (.list []))[j]? = some (.list []) := set_get h2
  refine Wx.cons (Ws.ifF (Wt.cmp O (We.item O (We.name OF (by repeat constructor) (We.cint (.tup (by decide) (by decide) rfl (We.cstr (.eqS false hop ⟨rfl, ?_⟩))))))))
  refine Wx.cons (Ws.expr OF (We.meth O (We.name OF (by repeat constructor) ⟨_, .append h3, trivial, Wes.cons (We.tuple (by decide) (Wes.cons (We.cstr (Wes.cons (We.item O (We.name OF (by repeat constructor) (We.cint (.tup (by decide) (by decide) rfl (Wes.cons (We.item O (We.name OF (by repeat constructor) (We.cint (.tup (by decide) (by decide) rfl (Wes.cons (We.name OF (by repeat constructor) (Wes.cons (We.name OF (by repeat constructor) (Wes.nil ⟨by simp, Wes.nil (Wf.append O h3 (by simp) ?_)⟩))))))))))))))))))⟩)))
  refine Wx.nil (Wx.nil ?_)
  rw [List.set_set, List.set_set]
  exact hq
end
end
section
open Builtin Builtin.Str
section
variable {σ σ' : List AObj} {D : Nat → Prop}
theorem RpL.get {tk : Tk} {TS : List Tk} {vs : List V} {q : Nat} (x : RpL σ D TS vs) (e : TS[q]? = some tk) : ∃ W, vs[q]? = some W ∧ RpT σ D tk W := by
  refine RpL.ind (M := fun TS vs => ∀ q : Nat, TS[q]? = some tk → ∃ W, vs[q]? = some W ∧ RpT σ D tk W) (fun q e => by simp at e) (fun {t v ts vs} h ih q e => ?_) x q e
  cases q with
  | zero => exact ⟨v, rfl, Option.some.inj e ▸ h⟩
  | succ q => exact ih q e
theorem RpL.len {TS : List Tk} {vs : List V} (x : RpL σ D TS vs) : vs.length = TS.length :=
  RpL.ind (M := fun TS vs => vs.length = TS.length) rfl (fun _ ih => congrArg (· + 1) ih) x
end
structure OkNt (nt : Tk) : Prop where
  paren : isNx nt "(" = false
  brack : isNx nt "[" = false
  known : lvKnown nt
structure Rdy (σ : List AObj) (i t q : Nat) (d : Int) (vs : List V) (D : Nat → Prop) (TS ts : List Tk) (nt : Tk) : Prop where
  atp : AtP σ i t q d vs
  rp : RpL σ D TS vs
  cut : ∃ pre post, TS = pre ++ (ts ++ nt :: post) ∧ q = pre.length
theorem Rdy.get {σ : List AObj} {i t q : Nat} {d : Int} {vs : List V} {D TS ts nt} (h : Rdy σ i t q d vs D TS ts nt) {k : Nat} {tk : Tk} (e : (ts ++ [nt])[k]? = some tk) : ∃ W, vs[q + k]? = some W ∧ RpT σ D tk W := by
  obtain ⟨pre, post, h1, h2⟩ := h.cut
  refine h.rp.get ?_
  rw [h1, h2, List.getElem?_append_right (by exact ar353)]
  have : ts ++ nt :: post = (ts ++ [nt]) ++ post := by simp
  rw [this, List.getElem?_append_left (by have := (List.getElem?_eq_some_iff.mp e).1; (exact ar21 this))]
  rw [← e]; congr 1; (exact ar20)
theorem Rdy.skip {σ σ' : List AObj} {i t q : Nat} {d d' : Int} {vs : List V} {D TS t1 t2 nt} (h : Rdy σ i t q d vs D TS (t1 ++ t2) nt) (hp : PreI i σ σ') (ha : AtP σ' i t (q + t1.length) d' vs) : Rdy σ' i t (q + t1.length) d' vs D TS t2 nt := by
  obtain ⟨pre, post, h1, h2⟩ := h.cut
  refine ⟨ha, h.rp.mono fun j us hd hj => ⟨hd, hp.get hj fun q => ?_⟩, pre ++ t1, post, by rw [h1]; simp, by rw [h2]; simp⟩
  rw [q, h.atp.inst] at hj; cases hj
theorem Rdy.cutT {σ : List AObj} {i t q : Nat} {d : Int} {vs : List V} {D TS t1 t2 nt nt2} (h : Rdy σ i t q d vs D TS (t1 ++ nt :: t2) nt2) : Rdy σ i t q d vs D TS t1 nt := by
  obtain ⟨pre, post, h1, h2⟩ := h.cut
  exact ⟨h.atp, h.rp, pre, t2 ++ nt2 :: post, by rw [h1]; simp, h2⟩
noncomputable def CFn (f : Addr) (p : Pt) (N : Nat) : Prop := ∀ (Γ : Cx) (A : Around) (st : List Env) (σ : List AObj) (E : Int → Prop) (Q : V → List AObj → Prop) (i t q : Nat) (d : Int) (vs : List V) (D : Nat → Prop) (TS ts : List Tk) (nt : Tk), Γ.Ok → KF Γ.K Γ.w.params Γ.prog → AOk A st N →
  Rdy σ i t q d vs D TS ts nt → PT p ts → OkNt nt → 0 ≤ d → d + dep p ≤ 38 →
  (∀ σ', PreI i σ σ' → AtP σ' i t (q + ts.length) d vs → Q (node p) σ') → Wc Γ A st (.glob f) [.obj i] σ Q E
theorem PT.head {p ts} (h : PT p ts) : ∃ t r, ts = t :: r ∧ isNx t "-" = false ∧ isNx t "+" = false ∧ isNx t "not" = false := by
  cases h <;> exact ⟨_, _, rfl, rfl, rfl, rfl⟩
section
variable {Γ : Cx} {A : Around} {st : List Env} {F : Fn} {L : Addr} {ℓ : List (Option V)} {σ : List AObj} {E : Int → Prop} {i t q : Nat} {d : Int} {vs : List V} {b : Nat} {D : Nat → Prop} {n v : PySem.Str} {W : V} {tk : Tk} {p1 p2 p3 p4 : Pos} {u : Nat}
theorem m_isNext {Q : V → List AObj → Prop} {pl : Env → Sem Bool} (O : Γ.Ok) (X : KF Γ.K Γ.w.params Γ.prog) (OF : FnOk F) (hA : AOk A (F.env L :: st) (b + 1)) (ha : At F.scope.names ℓ n (.obj i)) (h : AtP σ i t q d vs) (hv : vs[q]? = some W) (hr : RpT σ D tk W) (hq : Q (.bool (isNx tk v)) σ)
    (he : ∀ env, eval (.Call (.Attribute (.Name n p1) "is_next" p2) [.Constant (.str v) u p4] [] p3) env = (do
      let ov ← eval (.Name n p1) env
      standAt p2.atName
      let (f, first) ← holding [ov] (getMethod ov "is_next" (pl env))
      callWith p3 f first (backTo p3 (starEach [.Constant (.str v) u p4] env)) []) := by intro; rfl) :
    We Γ A st F L (.Call (.Attribute (.Name n p1) "is_next" p2) [.Constant (.str v) u p4] [] p3) ℓ σ Q E :=
  We.mcall O OF ha h.inst X.mIsNext (pars_no (by decide)) X.kIsNext (Wes.cons (We.cstr (Wes.nil (Wf.of_Wc O (c_isNext O X hA h hv hr hq))))) he
theorem c_operand {p : Pt} {N : Nat} (CA : CFn 299 p N) (hN : 3 ≤ N) : CFn 285 p (N + 1) := by
  intro Γ A st σ E Q i t q d vs D TS ts nt O X hA hR hpt hnt hd0 hd hq
  have OF := X.operand.ok
  obtain ⟨t0, r, rfl, n1, n2, n3⟩ := hpt.head
  obtain ⟨m, rfl⟩ : ∃ m, N = m + 1 := ⟨N - 1, by (exact ar115 hN)⟩
  refine Wc.fn O hA X.operand rfl fun L A' hA' hL => ?_
  refine Wx.cons (Ws.assign OF (We.list (Wes.nil ⟨by simp, _, .tail .head, ?_⟩)))
  have hi := lt_of_some hR.atp.inst
  have hp1 : PreI i σ (σ ++ [AObj.list []]) := (PreI.refl hi).app
  have hR1 : Rdy (σ ++ [AObj.list []]) i t q d vs D TS (t0 :: r) nt := Rdy.skip (t1 := []) hR hp1 ⟨get_app hR.atp.inst, get_app hR.atp.toks, hR.atp.small⟩
  obtain ⟨W, hW, hr⟩ := hR1.get (k := 0) (tk := t0) rfl
  refine Wx.cons (Ws.while (Wl.stop hA'.frames (Wt.or (Wt.plain (m_isNext O X OF hA' .head hR1.atp hW hr ?_)))))
  rw [n1]
  refine Wt.plain (m_isNext O X OF hA' .head hR1.atp hW hr ?_)
  rw [n2]
  refine Wt.plain (m_isNext O X OF hA' .head hR1.atp hW hr ?_)
  rw [n3]
  refine ⟨rfl, ?_⟩
  refine Wx.cons (Ws.assign OF (We.mcall O OF .head hR1.atp.inst X.mAtom (pars_no (by decide)) X.kAtom (Wes.nil (Wf.of_Wc O (CA _ _ _ _ _ _ i t q d vs D TS (t0 :: r) nt O X hA' hR1 hpt hnt hd0 hd fun σ2 hp2 ha2 => ⟨_, .tail (.tail .head), ?_⟩)))))
  have hR2 : Rdy σ2 i t (q + (t0 :: r).length) d vs D TS [] nt := Rdy.skip (t1 := t0 :: r) (t2 := []) (by simpa using hR1) hp2 ha2
  obtain ⟨W2, hW2, hr2⟩ := hR2.get (k := 0) (tk := nt) rfl
  refine Wx.cons (Ws.while (Wl.stop hA'.frames (Wt.plain (m_isNext O X OF hA' .head hR2.atp hW2 hr2 ?_))))
  rw [hnt.brack]
  refine ⟨rfl, ?_⟩
  have hg : σ2[σ.length]? = some (.list []) := hp2.get get_last (by (exact Nat.ne_of_gt (by assumption)))
  refine Wx.cons (Ws.while (Wl.stop hA'.frames (Wt.cmp O (b_lenL O X OF (by repeat constructor) (We.name OF (by repeat constructor) ⟨_, _, rfl, hg, by simp, We.cint (.gt false (by simp) ⟨rfl, ?_⟩)⟩)))))
  refine Wx.cons (Ws.ret (We.name OF (by repeat constructor) ?_))
  exact hq _ (hp1.trans hp2 (.inl rfl) hi) ha2
end
end
section
open Builtin Builtin.Str
section
variable {Γ : Cx} {A : Around} {st : List Env} {F : Fn} {L : Addr} {ℓ : List (Option V)} {σ : List AObj} {E : Int → Prop}
theorem Ws.subAttr {Q : Fl → List (Option V) → List AObj → Prop} {x attr : PySem.Str} {xp tp pos : Pos} {v : Expr} (O : Γ.Ok) (h : We Γ A st F L (.Name x xp) ℓ σ (fun o σ1 => AttrK Γ attr o σ1 fun a σ2 => We Γ A st F L v ℓ σ2 (fun b σ3 => ∃ i j, a = .int i ∧ b = .int j ∧ SetK Γ attr o (.int (i - j)) σ3 fun σ4 => Q .next ℓ σ4) E) E) :
    Ws Γ A st F L (.AugAssign (.Attribute (.Name x xp) attr tp) .Sub v pos) ℓ σ Q E := .mk fun s R m r l => by
  refine wpAny_AugAssign_AttributeAny (h.use r l fun vo s1 o σ1 R1 P1 hvo h1 l1 => ?_)
  refine wpAny_mono (attr_sound (E := E) O (Post.refl P1.rel l1) hvo h1) (fun va s2 hpat => ?_) fun _ _ x => x
  obtain ⟨a, σ2, R2, P2, hva, h2⟩ := hpat
  refine h2.use P2.rel (l1.post P2) fun vb s3 b σ3 R3 P3 hvb hq l3 => ?_
  obtain ⟨i, j, rfl, rfl, h3⟩ := hq
  (obtain ⟨_, rfl⟩ := VR.inv hva); (obtain ⟨_, rfl⟩ := VR.inv hvb)
  refine PyProof.Rows.isub_int ?_
  exact wpAny_mono (setAttr_sound (s := { s3 with toks := s3.toks + 1 }) O (P3.rel.tok _) (l3.post ((Post.refl P3.rel l3).tok _)) ((hvo.ext P2.ext).ext P3.ext) (.int _ _) h3) (fun _ s4 hpt => by obtain ⟨σ4, P4, hq⟩ := hpt; exact ⟨_, _, _, _, _, P4.rel, (l3.post ((Post.refl P3.rel l3).tok _)).post P4, ((P1.ext.trans P2.ext).trans P3.ext).trans P4.ext, .next, hq⟩) fun _ _ x => x
end
noncomputable def CEx (p : Pt) (N : Nat) : Prop := ∀ (Γ : Cx) (A : Around) (st : List Env) (σ : List AObj) (E : Int → Prop) (Q : V → List AObj → Prop) (i t q : Nat) (d : Int) (vs : List V) (D : Nat → Prop) (TS ts : List Tk) (nt : Tk), Γ.Ok → KF Γ.K Γ.w.params Γ.prog → AOk A st N →
  Rdy σ i t q d vs D TS ts nt → PT p ts → OkNt nt → lvl nt = 0 → 0 ≤ d → d + dep p ≤ 37 →
  (∀ σ', PreI i σ σ' → AtP σ' i t (q + ts.length) d vs → Q (node p) σ') → Wc Γ A st (.glob 271) [.obj i] σ Q E
section
variable {Γ : Cx} {A : Around} {st : List Env} {F : Fn} {L : Addr} {ℓ : List (Option V)} {σ : List AObj} {E : Int → Prop} {i t q : Nat} {d : Int} {vs : List V} {b : Nat} {D : Nat → Prop} {n v : PySem.Str} {W : V} {tk : Tk} {p1 p2 p3 p4 : Pos} {u : Nat}
theorem m_level {Q : V → List AObj → Prop} {pl : Env → Sem Bool} (O : Γ.Ok) (X : KF Γ.K Γ.w.params Γ.prog) (OF : FnOk F) (hA : AOk A (F.env L :: st) (b + 2)) (ha : At F.scope.names ℓ n (.obj i)) (h : AtP σ i t q d vs) (hv : vs[q]? = some W) (hr : RpT σ D tk W) (hk : lvKnown tk) (hq : Q (.int (lvl tk)) σ)
    (he : ∀ env, eval (.Call (.Attribute (.Name n p1) "level" p2) [] [] p3) env = (do
      let ov ← eval (.Name n p1) env
      standAt p2.atName
      let (f, first) ← holding [ov] (getMethod ov "level" (pl env))
      callWith p3 f first (backTo p3 (starEach [] env)) []) := by intro; rfl) :
    We Γ A st F L (.Call (.Attribute (.Name n p1) "level" p2) [] [] p3) ℓ σ Q E :=
  We.mcall O OF ha h.inst X.mLevel (pars_no (by decide)) X.kLevel (Wes.nil (Wf.of_Wc O (c_level O X hA h hv hr hk hq))) he
theorem c_expr1 {p : Pt} {N : Nat} (CO : CFn 285 p N) (hN : 6 ≤ N) : CEx p (N + 1) := by
  intro Γ A st σ E Q i t q d vs D TS ts nt O X hA hR hpt hnt hl0 hd0 hd hq
  have OF := X.expr.ok
  obtain ⟨m, rfl⟩ : ∃ m, N = m + 2 := ⟨N - 2, by (exact ar30 hN)⟩
  have hi := lt_of_some hR.atp.inst
  refine Wc.fn O hA X.expr rfl fun L A' hA' hL => ?_
  refine Wx.cons (Ws.augAttr O (We.name OF .head ⟨_, _, _, _, rfl, hR.atp.inst, by repeat constructor, X.pDepth, rfl, We.cint ⟨rfl, _, _, rfl, rfl, _, _, _, _, rfl, hR.atp.inst, .pdepth, by simp, X.spDepth, ?_⟩⟩))
  have ha1 : AtP (σ.set i (.inst cPars (parsFs t q (d + 1)))) i t q (d + 1) vs := hR.atp.set
  have hp1 : PreI i σ (σ.set i (.inst cPars (parsFs t q (d + 1)))) := (PreI.refl hi).setI hi
  generalize σ.set i (.inst cPars (parsFs t q (d + 1))) = σ1 at ha1 hp1 ⊢
  have hR1 : Rdy σ1 i t q (d + 1) vs D TS ts nt := Rdy.skip (t1 := []) hR hp1 ha1
  refine Wx.cons (Ws.ifF (Wt.cmp O (b_depth O X OF .head ha1.inst (We.gname O OF (by repeat constructor) X.MOST_DEPTH (.gt false (by simp; (exact ar94 hd)) ⟨rfl, Wx.nil ?_⟩)))))
  refine Wx.cons (Ws.assignSwap (names := ["parts", "waiting"]) hA'.handled (We.tuple (by decide) (Wes.cons (We.list (Wes.cons (We.mcall O OF .head ha1.inst X.mOperand (pars_no (by decide)) X.kOperand (Wes.nil (Wf.of_Wc O (CO _ _ _ _ _ _ i t q (d + 1) vs D TS ts nt O X hA' hR1 hpt hnt (by exact ar133 hd0) (by exact ar84 hd) fun σ2 hp2 ha2 => Wes.nil ⟨by simp, ?_⟩))))))))  (by intro; rfl) (by rfl))
  refine Wes.cons (We.list (Wes.nil ⟨by simp, Wes.nil ⟨by simp, _, rfl, by simp, ?_⟩⟩))
  refine Wa.bind OF ⟨_, .tail (.tail .head), ?_⟩
  refine Wa.bind OF ⟨_, .tail .head, ?_⟩
  have hi1 := lt_of_some ha1.inst
  have hp3 : PreI i σ1 (σ2 ++ [AObj.list [node p]] ++ [AObj.list []]) := hp2.app.app
  have ha3 : AtP (σ2 ++ [AObj.list [node p]] ++ [AObj.list []]) i t (q + ts.length) (d + 1) vs := ⟨get_app (get_app ha2.inst), get_app (get_app ha2.toks), ha2.small⟩
  have hg1 : (σ2 ++ [AObj.list [node p]] ++ [AObj.list []])[σ2.length]? = some (.list [node p]) := get_app get_last
  have hg2 : (σ2 ++ [AObj.list [node p]] ++ [AObj.list []])[(σ2 ++ [AObj.list [node p]]).length]? = some (.list []) := get_last
  generalize σ2 ++ [AObj.list [node p]] ++ [AObj.list []] = σ3 at hp3 ha3 hg1 hg2 ⊢
  have hR3 : Rdy σ3 i t (q + ts.length) (d + 1) vs D TS [] nt := Rdy.skip (t1 := ts) (t2 := []) (by simpa using hR1) hp3 ha3
  obtain ⟨W3, hW3, hr3⟩ := hR3.get (k := 0) (tk := nt) rfl
  refine Wx.cons (Ws.while (Wl.stop hA'.frames (Wt.cmp O (m_level O X OF (b := m) hA' .head ha3 hW3 hr3 hnt.known (We.cint (.gt false (by rw [hl0]; rfl) ⟨rfl, ?_⟩))))))
  refine Wx.cons (Ws.while (Wl.stop hA'.frames (Wt.cmp O (b_lenL O X OF (by repeat constructor) (We.name OF (by repeat constructor) ⟨_, _, rfl, hg2, by simp, We.cint (.gt false (by simp) ⟨rfl, ?_⟩)⟩)))))
  refine Wx.cons (Ws.subAttr O (We.name OF .head ⟨_, _, _, _, rfl, ha3.inst, by repeat constructor, X.pDepth, rfl, We.cint ⟨_, _, rfl, rfl, _, _, _, _, rfl, ha3.inst, .pdepth, by simp, X.spDepth, ?_⟩⟩))
  rw [show d + 1 - 1 = d by (exact ar368)]
  have hne : σ2.length ≠ i := by have := hp2.le; (exact ar79 hi1 this)
  refine Wx.cons (Ws.ret (We.item O (We.name OF (by repeat constructor) (We.cint (.list (p := 0) (vs := [node p]) ?_ rfl (by simp) rfl ?_)))))
  · rw [List.getElem?_set_ne (Ne.symm hne)]; exact hg1
  · exact hq _ ((hp1.trans hp3 (.inl rfl) hi).setI hi) ha3.set
end
end
section
open Builtin Builtin.Str
noncomputable def CE2 (plus : Bool) (a : Int) (one other : Pt) (N : Nat) : Prop := ∀ (Γ : Cx) (A : Around) (st : List Env) (σ : List AObj) (E : Int → Prop) (Q : V → List AObj → Prop) (i t q : Nat) (d : Int) (vs : List V) (D : Nat → Prop) (TS t1 t2 : List Tk) (nt : Tk), Γ.Ok → KF Γ.K Γ.w.params Γ.prog → AOk A st N →
  Rdy σ i t q d vs D TS (t1 ++ .sg (opS plus) a :: t2) nt → PT one t1 → PT other t2 → OkNt nt → lvl nt = 0 → 0 ≤ d → d + dep one ≤ 37 → d + dep other ≤ 37 →
  (∀ σ', PreI i σ σ' → AtP σ' i t (q + (t1.length + 1 + t2.length)) d vs → Q (.tup [.str "bin", .int a, .str (opS plus), node one, node other]) σ') → Wc Γ A st (.glob 271) [.obj i] σ Q E
theorem okOp (plus : Bool) (a : Int) : OkNt (.sg (opS plus) a) := by cases plus <;> exact ⟨rfl, rfl, by simp [lvKnown, opS]⟩
section
variable {Γ : Cx} {A : Around} {st : List Env} {F : Fn} {L : Addr} {ℓ : List (Option V)} {σ : List AObj} {E : Int → Prop} {i t q : Nat} {d : Int} {vs : List V} {b : Nat} {D : Nat → Prop} {n v : PySem.Str} {W : V} {tk : Tk} {p1 p2 p3 p4 : Pos} {u : Nat}
set_option maxHeartbeats 4000000 in
theorem c_expr2 {one other : Pt} {plus : Bool} {a : Int} {N : Nat} (C1 : CFn 285 one N) (C2 : CFn 285 other N) (hN : 6 ≤ N) : CE2 plus a one other (N + 1) := by
  intro Γ A st σ E Q i t q d vs D TS t1 t2 nt O X hA hR hpt1 hpt2 hnt hl0 hd0 hd1 hd2 hq
  have OF := X.expr.ok
  obtain ⟨m, rfl⟩ : ∃ m, N = m + 2 := ⟨N - 2, by (exact ar30 hN)⟩
  have hi := lt_of_some hR.atp.inst
  refine Wc.fn O hA X.expr rfl fun L A' hA' hL => ?_
  refine Wx.cons (Ws.augAttr O (We.name OF .head ⟨_, _, _, _, rfl, hR.atp.inst, by repeat constructor, X.pDepth, rfl, We.cint ⟨rfl, _, _, rfl, rfl, _, _, _, _, rfl, hR.atp.inst, .pdepth, by simp, X.spDepth, ?_⟩⟩))
  have ha1 : AtP (σ.set i (.inst cPars (parsFs t q (d + 1)))) i t q (d + 1) vs := hR.atp.set
  have hp1 : PreI i σ (σ.set i (.inst cPars (parsFs t q (d + 1)))) := (PreI.refl hi).setI hi
  generalize σ.set i (.inst cPars (parsFs t q (d + 1))) = σ1 at ha1 hp1 ⊢
  have hR1 : Rdy σ1 i t q (d + 1) vs D TS (t1 ++ .sg (opS plus) a :: t2) nt := Rdy.skip (t1 := []) hR hp1 ha1
  refine Wx.cons (Ws.ifF (Wt.cmp O (b_depth O X OF .head ha1.inst (We.gname O OF (by repeat constructor) X.MOST_DEPTH (.gt false (by simp; (exact ar94 hd1)) ⟨rfl, Wx.nil ?_⟩)))))
  refine Wx.cons (Ws.assignSwap (names := ["parts", "waiting"]) hA'.handled (We.tuple (by decide) (Wes.cons (We.list (Wes.cons (We.mcall O OF .head ha1.inst X.mOperand (pars_no (by decide)) X.kOperand (Wes.nil (Wf.of_Wc O (C1 _ _ _ _ _ _ i t q (d + 1) vs D TS t1 (.sg (opS plus) a) O X hA' hR1.cutT hpt1 (okOp plus a) (by exact ar133 hd0) (by exact ar84 hd1) fun σ2 hp2 ha2 => Wes.nil ⟨by simp, ?_⟩))))))))  (by intro; rfl) (by rfl))
  refine Wes.cons (We.list (Wes.nil ⟨by simp, Wes.nil ⟨by simp, _, rfl, by simp, ?_⟩⟩))
  refine Wa.bind OF ⟨_, .tail (.tail .head), ?_⟩
  refine Wa.bind OF ⟨_, .tail .head, ?_⟩
  have hi1 := lt_of_some ha1.inst
  have hjw : (σ2 ++ [AObj.list [node one]]).length = σ2.length + 1 := by simp
  have hp3 : PreI i σ1 (σ2 ++ [AObj.list [node one]] ++ [AObj.list []]) := hp2.app.app
  have ha3 : AtP (σ2 ++ [AObj.list [node one]] ++ [AObj.list []]) i t (q + t1.length) (d + 1) vs := ⟨get_app (get_app ha2.inst), get_app (get_app ha2.toks), ha2.small⟩
  have hg1 : (σ2 ++ [AObj.list [node one]] ++ [AObj.list []])[σ2.length]? = some (.list [node one]) := get_app get_last
  have hg2 : (σ2 ++ [AObj.list [node one]] ++ [AObj.list []])[(σ2 ++ [AObj.list [node one]]).length]? = some (.list []) := get_last
  rw [hjw] at hg2
  rw [hjw]
  generalize σ2 ++ [AObj.list [node one]] ++ [AObj.list []] = σ3 at hp3 ha3 hg1 hg2 ⊢
  have hl12 : σ1.length ≤ σ2.length := hp2.le
  have hR3 : Rdy σ3 i t (q + t1.length) (d + 1) vs D TS (.sg (opS plus) a :: t2) nt := Rdy.skip (t1 := t1) hR1 hp3 ha3
  obtain ⟨W3, hW3, hr3⟩ := hR3.get (k := 0) (tk := .sg (opS plus) a) rfl
  obtain ⟨lv, hlv, hlv1⟩ : ∃ lv : Int, lvl (.sg (opS plus) a) = lv ∧ 0 < lv := ⟨_, rfl, by cases plus <;> (simp [lvl, opS]; try decide)⟩
  have hW3' : vs[q + t1.length]? = some (.tup [.str "sign", .str (opS plus), .int a]) := by cases hr3; exact hW3
  refine Wx.cons (Ws.while (Wl.go hA'.frames (Wt.cmp O (m_level O X OF (b := m) hA' .head ha3 hW3 hr3 (okOp plus a).known (We.cint (.gt true (by rw [hlv]; simpa using hlv1) ⟨rfl, ?_⟩))))))
  refine Wx.cons (Ws.assignSwap (names := ["level", "spot"]) hA'.handled (We.tuple (by decide) (Wes.cons (m_level O X OF (b := m) hA' .head ha3 hW3 hr3 (okOp plus a).known (Wes.cons (We.mcall O OF .head ha3.inst X.mSpot (pars_no (by decide)) X.kSpot (Wes.nil (Wf.of_Wc O (c_spot O X (b := m + 1) hA' ha3 hW3' (Wes.nil ⟨by simp, _, rfl, by simp, ?_⟩)))))))))  (by intro; rfl) (by rfl))
  refine Wa.bind OF ⟨_, .tail (.tail (.tail (.tail .head))), ?_⟩
  refine Wa.bind OF ⟨_, .tail (.tail (.tail .head)), ?_⟩
  refine Wx.cons (Ws.while (Wl.stop hA'.frames (Wt.andF (Wt.cmp O (b_lenL O X OF (by repeat constructor) (We.name OF (by repeat constructor) ⟨_, _, rfl, hg2, by simp, We.cint (.gt false (by simp) ⟨rfl, rfl, ?_⟩)⟩))))))
  have hnw : i ≠ σ2.length + 1 := by (exact ar269 hi1 hl12)
  have hnp : i ≠ σ2.length := by (exact ar144 hi1 hl12)
  have hntt : σ2.length + 1 ≠ t := by have := lt_of_some ha1.toks; (exact ar266 hl12 this)
  have hnt' : σ2.length ≠ t := by have := lt_of_some ha1.toks; (exact ar290 hl12 this)
  refine Wx.cons (Ws.expr OF (We.meth O (We.name OF (by repeat constructor) ⟨_, .append hg2, trivial, Wes.cons (We.tuple (by decide) (Wes.cons (We.name OF (by repeat constructor) (Wes.cons (We.name OF (by repeat constructor) (Wes.cons (We.mcall O OF .head ha3.inst X.mTake (pars_no (by decide)) X.kTake (Wes.nil (Wf.of_Wc O (c_take O X (b := m + 1) hA' ha3 hW3' (Wes.nil ⟨by simp, ?_⟩)))))))))))⟩)))
  have ha4 : AtP (σ3.set i (.inst cPars (parsFs t ((q + t1.length + 1 : Nat) : Int) (d + 1)))) i t (q + t1.length + 1) (d + 1) vs := ha3.set
  have hg1' : (σ3.set i (.inst cPars (parsFs t ((q + t1.length + 1 : Nat) : Int) (d + 1))))[σ2.length]? = some (.list [node one]) := by rw [List.getElem?_set_ne hnp]; exact hg1
  have hg2' : (σ3.set i (.inst cPars (parsFs t ((q + t1.length + 1 : Nat) : Int) (d + 1))))[σ2.length + 1]? = some (.list []) := by rw [List.getElem?_set_ne hnw]; exact hg2
  have hp4 : PreI i σ1 (σ3.set i (.inst cPars (parsFs t ((q + t1.length + 1 : Nat) : Int) (d + 1)))) := hp3.setI hi1
  generalize σ3.set i (.inst cPars (parsFs t ((q + t1.length + 1 : Nat) : Int) (d + 1))) = σ4 at ha4 hg1' hg2' hp4 ⊢
  refine Wes.nil (Wf.append O hg2' (by simp) ?_)
  have ha5 : AtP (σ4.set (σ2.length + 1) (.list ([] ++ [.tup [.int (lvl (.sg (opS plus) a)), .int a, .str (opS plus)]]))) i t (q + t1.length + 1) (d + 1) vs := ⟨by rw [List.getElem?_set_ne (Ne.symm hnw)]; exact ha4.inst, by rw [List.getElem?_set_ne hntt]; exact ha4.toks, ha4.small⟩
  have hg15 : (σ4.set (σ2.length + 1) (.list ([] ++ [.tup [.int (lvl (.sg (opS plus) a)), .int a, .str (opS plus)]])))[σ2.length]? = some (.list [node one]) := by rw [List.getElem?_set_ne (by exact ar417)]; exact hg1'
  have hg25 : (σ4.set (σ2.length + 1) (.list ([] ++ [.tup [.int (lvl (.sg (opS plus) a)), .int a, .str (opS plus)]])))[σ2.length + 1]? = some (.list [.tup [.int (lvl (.sg (opS plus) a)), .int a, .str (opS plus)]]) := set_get hg2'
  have hp5 : PreI i σ1 (σ4.set (σ2.length + 1) (.list ([] ++ [.tup [.int (lvl (.sg (opS plus) a)), .int a, .str (opS plus)]]))) := hp4.set (by exact ar29 hl12)
  generalize σ4.set (σ2.length + 1) (.list ([] ++ [.tup [.int (lvl (.sg (opS plus) a)), .int a, .str (opS plus)]])) = σ5 at ha5 hg15 hg25 hp5 ⊢
  have hR5 : Rdy σ5 i t (q + t1.length + 1) (d + 1) vs D TS t2 nt := by
    have h := Rdy.skip (t1 := t1 ++ [.sg (opS plus) a]) (t2 := t2) (by simpa using hR1) hp5 (by simpa [Nat.add_assoc] using ha5)
    simpa [Nat.add_assoc] using h
  refine Wx.cons (Ws.expr OF (We.meth O (We.name OF (by repeat constructor) ⟨_, .append hg15, trivial, Wes.cons (We.mcall O OF .head ha5.inst X.mOperand (pars_no (by decide)) X.kOperand (Wes.nil (Wf.of_Wc O (C2 _ _ _ _ _ _ i t (q + t1.length + 1) (d + 1) vs D TS t2 nt O X hA' hR5 hpt2 hnt (by exact ar133 hd0) (by exact ar84 hd2) fun σ6 hp6 ha6 => Wes.nil (Wf.append O (hp6.get hg15 (Ne.symm hnp)) (by simp [sizeLim]) ?_)))))⟩)))
  have hg26 : σ6[σ2.length + 1]? = _ := hp6.get hg25 (Ne.symm hnw)
  have hg16 : σ6[σ2.length]? = _ := hp6.get hg15 (Ne.symm hnp)
  have ha7 : AtP (σ6.set σ2.length (.list ([node one] ++ [node other]))) i t (q + t1.length + 1 + t2.length) (d + 1) vs := ⟨by rw [List.getElem?_set_ne (Ne.symm hnp)]; exact ha6.inst, by rw [List.getElem?_set_ne hnt']; exact ha6.toks, ha6.small⟩
  have hg17 : (σ6.set σ2.length (.list ([node one] ++ [node other])))[σ2.length]? = some (.list [node one, node other]) := set_get hg16
  have hg27 : (σ6.set σ2.length (.list ([node one] ++ [node other])))[σ2.length + 1]? = some (.list [.tup [.int (lvl (.sg (opS plus) a)), .int a, .str (opS plus)]]) := by rw [List.getElem?_set_ne (by exact ar418)]; exact hg26
  have hp7 : PreI i σ1 (σ6.set σ2.length (.list ([node one] ++ [node other]))) := (hp5.trans hp6 (.inl rfl) hi1).set hl12
  generalize σ6.set σ2.length (.list ([node one] ++ [node other])) = σ7 at ha7 hg17 hg27 hp7 ⊢
  have hR7 : Rdy σ7 i t (q + t1.length + 1 + t2.length) (d + 1) vs D TS [] nt := by
    have h := Rdy.skip (t1 := t1 ++ .sg (opS plus) a :: t2) (t2 := []) (by simpa using hR1) hp7 (by simpa [Nat.add_assoc, Nat.add_comm, Nat.add_left_comm] using ha7)
    simpa [Nat.add_assoc, Nat.add_comm, Nat.add_left_comm] using h
  obtain ⟨W7, hW7, hr7⟩ := hR7.get (k := 0) (tk := nt) rfl
  refine Wx.nil (Wl.stop hA'.frames (Wt.cmp O (m_level O X OF (b := m) hA' .head ha7 hW7 hr7 hnt.known (We.cint (.gt false (by rw [hl0]; rfl) ⟨rfl, ?_⟩)))))
  refine Wx.cons (Ws.while (Wl.go hA'.frames (Wt.cmp O (b_lenL O X OF (by repeat constructor) (We.name OF (by repeat constructor) ⟨_, _, rfl, hg27, by simp [sizeLim], We.cint (.gt true (by simp) ⟨rfl, ?_⟩)⟩)))))
  have hg27' : σ7[σ2.length + 1]? = some (.list ([] ++ [.tup [.int (lvl (.sg (opS plus) a)), .int a, .str (opS plus)]])) := hg27
  have hg18 : (σ7.set (σ2.length + 1) (.list []))[σ2.length]? = some (.list [node one, node other]) := by rw [List.getElem?_set_ne (by exact ar417)]; exact hg17
  have hg28 : (σ7.set (σ2.length + 1) (.list []))[σ2.length + 1]? = some (.list []) := set_get hg27
  have ha8 : AtP (σ7.set (σ2.length + 1) (.list [])) i t (q + t1.length + 1 + t2.length) (d + 1) vs := ⟨by rw [List.getElem?_set_ne (Ne.symm hnw)]; exact ha7.inst, by rw [List.getElem?_set_ne hntt]; exact ha7.toks, ha7.small⟩
  have hp8 : PreI i σ1 (σ7.set (σ2.length + 1) (.list [])) := hp7.set (by exact ar29 hl12)
  have hop : (opS plus == "..") = false := by cases plus <;> decide
  refine Wx.cons (Ws.expr OF (We.mcall O OF .head ha7.inst X.mPutTogether (pars_no (by decide)) X.kPutTogether (Wes.cons (We.name OF (by repeat constructor) (Wes.cons (We.meth O (We.name OF (by repeat constructor) ⟨_, .pop hg27', trivial, Wes.nil (Wf.pop O hg27' (by simp [sizeLim]) (Wes.nil (Wf.of_Wc O ?_)))⟩)))))))
  generalize σ7.set (σ2.length + 1) (.list []) = σ8 at ha8 hg18 hg28 hp8 ⊢
  refine c_put (b := m + 1) O X hA' hg18 hop ?_ _
  have ha9 : AtP (σ8.set σ2.length (.list [.tup [.str "bin", .int a, .str (opS plus), node one, node other]])) i t (q + t1.length + 1 + t2.length) (d + 1) vs := ⟨by rw [List.getElem?_set_ne (Ne.symm hnp)]; exact ha8.inst, by rw [List.getElem?_set_ne hnt']; exact ha8.toks, ha8.small⟩
  have hg19 : (σ8.set σ2.length (.list [.tup [.str "bin", .int a, .str (opS plus), node one, node other]]))[σ2.length]? = _ := set_get hg18
  have hg29 : (σ8.set σ2.length (.list [.tup [.str "bin", .int a, .str (opS plus), node one, node other]]))[σ2.length + 1]? = some (.list []) := by rw [List.getElem?_set_ne (by exact ar418)]; exact hg28
  have hp9 : PreI i σ1 (σ8.set σ2.length (.list [.tup [.str "bin", .int a, .str (opS plus), node one, node other]])) := hp8.set hl12
  generalize σ8.set σ2.length (.list [.tup [.str "bin", .int a, .str (opS plus), node one, node other]]) = σ9 at ha9 hg19 hg29 hp9 ⊢
  refine Wx.nil (Wl.stop hA'.frames (Wt.cmp O (b_lenL O X OF (by repeat constructor) (We.name OF (by repeat constructor) ⟨_, _, rfl, hg29, by simp, We.cint (.gt false (by simp) ⟨rfl, ?_⟩)⟩))))
  refine Wx.cons (Ws.subAttr O (We.name OF .head ⟨_, _, _, _, rfl, ha9.inst, by repeat constructor, X.pDepth, rfl, We.cint ⟨_, _, rfl, rfl, _, _, _, _, rfl, ha9.inst, .pdepth, by simp, X.spDepth, ?_⟩⟩))
  rw [show d + 1 - 1 = d by (exact ar368)]
  refine Wx.cons (Ws.ret (We.item O (We.name OF (by repeat constructor) (We.cint (.list (p := 0) (vs := [.tup [.str "bin", .int a, .str (opS plus), node one, node other]]) ?_ rfl (by simp) rfl ?_)))))
  · rw [List.getElem?_set_ne hnp]; exact hg19
  · refine hq _ ((hp1.trans hp9 (.inl rfl) hi).setI hi) ?_
    have e : q + t1.length + 1 + t2.length = q + (t1.length + 1 + t2.length) := by (exact ar341)
    rw [← e]; exact ha9.set
end
end
section
open Builtin Builtin.Str
theorem PT.head2 {p ts} (h : PT p ts) : ∃ t r, ts = t :: r ∧ isNx t ")" = false := by
  cases h <;> exact ⟨_, _, rfl, rfl⟩
theorem okClose (c : Int) : OkNt (.sg ")" c) := ⟨rfl, rfl, by simp [lvKnown]⟩
noncomputable def CArg (p : Pt) (N : Nat) : Prop := ∀ (Γ : Cx) (A : Around) (st : List Env) (σ : List AObj) (E : Int → Prop) (Q : V → List AObj → Prop) (i t q : Nat) (d c : Int) (vs : List V) (D : Nat → Prop) (TS ts : List Tk) (nt : Tk), Γ.Ok → KF Γ.K Γ.w.params Γ.prog → AOk A st N →
  Rdy σ i t q d vs D TS (ts ++ [.sg ")" c]) nt → PT p ts → 0 ≤ d → d + dep p ≤ 37 →
  (∀ σ', PreI i σ σ' → AtP σ' i t (q + (ts.length + 1)) d vs → Q (.tup [node p]) σ') → Wc Γ A st (.glob 292) [.obj i, .str ")"] σ Q E
section
variable {Γ : Cx} {A : Around} {st : List Env} {F : Fn} {L : Addr} {ℓ : List (Option V)} {σ : List AObj} {E : Int → Prop} {i t q : Nat} {d : Int} {vs : List V} {b : Nat} {D : Nat → Prop} {n v : PySem.Str} {W : V} {tk : Tk} {p1 p2 p3 p4 : Pos} {u : Nat}
theorem c_exprs {p : Pt} {N : Nat} (CE : CEx p N) (hN : 3 ≤ N) : CArg p (N + 1) := by
  intro Γ A st σ E Q i t q d c vs D TS ts nt O X hA hR hpt hd0 hd hq
  have OF := X.exprs.ok
  obtain ⟨t0, r, hts, n1⟩ := hpt.head2
  obtain ⟨m, rfl⟩ : ∃ m, N = m + 2 := ⟨N - 2, by (exact ar120 hN)⟩
  refine Wc.fn O hA X.exprs rfl fun L A' hA' hL => ?_
  refine Wx.cons (Ws.assign OF (We.list (Wes.nil ⟨by simp, _, .tail (.tail .head), ?_⟩)))
  have hi := lt_of_some hR.atp.inst
  have hp1 : PreI i σ (σ ++ [AObj.list []]) := (PreI.refl hi).app
  have hR1 : Rdy (σ ++ [AObj.list []]) i t q d vs D TS (ts ++ [.sg ")" c]) nt := Rdy.skip (t1 := []) hR hp1 ⟨get_app hR.atp.inst, get_app hR.atp.toks, hR.atp.small⟩
  have hg1 : (σ ++ [AObj.list []])[σ.length]? = some (.list []) := get_last
  obtain ⟨W, hW, hr⟩ := hR1.get (k := 0) (tk := t0) (by rw [hts]; rfl)
  generalize σ ++ [AObj.list []] = σ1 at hp1 hR1 hg1 hr ⊢
  have hi1 := lt_of_some hR1.atp.inst
  have hne : σ.length ≠ i := by (exact Nat.ne_of_gt (by assumption))
  refine Wx.cons (Ws.while (Wl.go hA'.frames (Wt.not (Wt.plain (We.mcall O OF .head hR1.atp.inst X.mTook (pars_no (by decide)) X.kTook (Wes.cons (We.name OF (by repeat constructor) (Wes.nil (Wf.of_Wc O (c_tookF O X (b := m) hA' hR1.atp hW hr n1 ⟨rfl, ?_⟩))))))))))
  refine Wx.cons (Ws.expr OF (We.meth O (We.name OF (by repeat constructor) ⟨_, .append hg1, trivial, Wes.cons (We.mcall O OF .head hR1.atp.inst X.mExpr (pars_no (by decide)) X.kExpr (Wes.nil (Wf.of_Wc O (CE _ _ _ _ _ _ i t q d vs D TS ts (.sg ")" c) O X hA' hR1.cutT hpt (okClose c) rfl hd0 hd fun σ2 hp2 ha2 => Wes.nil (Wf.append O (hp2.get hg1 hne) (by simp) ?_)))))⟩)))
  have hg2 := hp2.get hg1 hne
  have hnt : σ.length ≠ t := by have := lt_of_some hR.atp.toks; (exact Nat.ne_of_gt (by assumption))
  have ha3 : AtP (σ2.set σ.length (.list ([] ++ [node p]))) i t (q + ts.length) d vs := ⟨by rw [List.getElem?_set_ne hne]; exact ha2.inst, by rw [List.getElem?_set_ne hnt]; exact ha2.toks, ha2.small⟩
  have hg3 : (σ2.set σ.length (.list ([] ++ [node p])))[σ.length]? = some (.list [node p]) := set_get hg2
  have hp3 : PreI i σ (σ2.set σ.length (.list ([] ++ [node p]))) := (hp1.trans hp2 (.inl rfl) hi).set (Nat.le_refl _)
  generalize σ2.set σ.length (.list ([] ++ [node p])) = σ3 at ha3 hg3 hp3 ⊢
  have hR3 : Rdy σ3 i t (q + ts.length) d vs D TS [.sg ")" c] nt := Rdy.skip (t1 := ts) hR hp3 ha3
  obtain ⟨W3, hW3, hr3⟩ := hR3.get (k := 0) (tk := .sg ")" c) rfl
  refine Wx.cons (Ws.ifF (Wt.not (Wt.plain (We.mcall O OF .head ha3.inst X.mIsNext (pars_no (by decide)) X.kIsNext (Wes.cons (We.name OF (by repeat constructor) (Wes.nil (Wf.of_Wc O (c_isNext O X (b := m + 1) hA' ha3 hW3 hr3 ⟨rfl, ?_⟩)))))))))
  refine Wx.nil (Wx.nil (Wl.stop hA'.frames (Wt.not (Wt.plain (We.mcall O OF .head ha3.inst X.mTook (pars_no (by decide)) X.kTook (Wes.cons (We.name OF (by repeat constructor) (Wes.nil (Wf.of_Wc O (c_tookT O X (b := m) hA' ha3 hW3 hr3 rfl ⟨rfl, ?_⟩))))))))))
  have hg4 : (σ3.set i (.inst cPars (parsFs t (q + ts.length + 0 + 1 : Nat) d)))[σ.length]? = some (.list [node p]) := by rw [List.getElem?_set_ne (Ne.symm hne)]; exact hg3
  have hpl : (σ3.set i (.inst cPars (parsFs t (q + ts.length + 0 + 1 : Nat) d))).length = σ3.length := by simp
  refine Wx.cons (Ws.ret (We.call O (We.gname O OF (by repeat constructor) X.ttuple ⟨trivial, Wes.cons (We.name OF (by repeat constructor) (Wes.nil (Wf.tupleList hg4 (by simp [sizeLim]) ?_)))⟩)))
  refine hq _ (hp3.setI hi) ?_
  have := ha3.set (p' := q + ts.length + 0 + 1) (d' := d)
  simpa [Nat.add_assoc] using this
end
end
section
open Builtin Builtin.Str
mutual
noncomputable def toD : V → Option PyData
  | .none => some .none
  | .bool b => some (.bool b)
  | .int i => some (.int i)
  | .str s => some (.str s)
  | .tup vs => (toDs vs).map .tuple
  | _ => none
noncomputable def toDs : List V → Option (List PyData)
  | [] => some []
  | v :: vs => match toD v, toDs vs with
    | some d, some ds => some (d :: ds)
    | _, _ => none
end
theorem toD_reads' {h r n} (W : V) : ∀ v d, VR h r n v W → toD W = some d → ∃ as, Reads h v d as :=
  W.rec (motive_1 := fun W => ∀ v d, VR h r n v W → toD W = some d → ∃ as, Reads h v d as) (motive_2 := fun Ws => ∀ vs ds, VRs h r n vs Ws → toDs Ws = some ds → ∃ as, ReadsAll h vs ds as)
    (fun v d hv hd => by obtain rfl := VR.inv hv; cases hd; exact ⟨_, .none⟩)
    (fun b v d hv hd => by obtain rfl := VR.inv hv; cases hd; exact ⟨_, .bool _⟩)
    (fun i v d hv hd => by obtain ⟨_, rfl⟩ := VR.inv hv; cases hd; exact ⟨_, .int _ _⟩)
    (fun s v d hv hd => by obtain ⟨_, rfl⟩ := VR.inv hv; cases hd; exact ⟨_, .str _ _⟩)
    (fun vs ih v d hv hd => by
      obtain ⟨a, us, rfl, ht, hu⟩ := hv.isTup
      unfold toD at hd
      cases hs : toDs vs with
      | none => rw [hs] at hd; cases hd
      | some ds =>
        rw [hs] at hd; cases hd
        obtain ⟨as, has⟩ := ih _ _ hu hs
        obtain ⟨o, h1, h2, nn, h3⟩ := ht
        exact ⟨as, .tuple h1 h2 h3 (by simpa using has)⟩)
    (fun _ v d hv hd => nomatch hd) (fun _ v d hv hd => nomatch hd) (fun _ v d hv hd => nomatch hd) (fun _ v d hv hd => nomatch hd)
    (fun vs ds hv hd => by obtain rfl := hv.nil_iff; cases hd; exact ⟨_, .nil⟩)
    (fun W Ws i1 i2 vs ds hv hd => by
      obtain ⟨v, vs', rfl, a, b⟩ := hv.cons_iff
      unfold toDs at hd
      cases h1 : toD W with
      | none => rw [h1] at hd; cases hd
      | some d =>
        cases h2 : toDs Ws with
        | none => rw [h1, h2] at hd; cases hd
        | some ds' =>
          rw [h1, h2] at hd; cases hd
          obtain ⟨as, ha⟩ := i1 _ _ a h1
          obtain ⟨bs, hb⟩ := i2 _ _ b h2
          exact ⟨_, .cons ha hb⟩)
theorem toD_reads {h r n} (W : V) {v d} : VR h r n v W → toD W = some d → ∃ as, Reads h v d as := toD_reads' W v d
section
variable {Γ : Cx} {A : Around} {st : List Env} {F : Fn} {L : Addr} {ℓ : List (Option V)} {σ : List AObj} {E : Int → Prop}
structure EqD (A : Around) (a b : V) (c : Bool) : Prop where
  ex : ∃ da db, toD a = some da ∧ toD b = some db ∧ da.canLay0 = true ∧ db.canLay0 = true ∧ A.units + min da.depth db.depth < cLine ∧ PyData.eqv da db = c
theorem We.eqD {l r : Expr} {pos} {Q : V → List AObj → Prop} (h : We Γ A st F L l ℓ σ (fun a σ1 => We Γ A st F L r ℓ σ1 (fun b σ2 => ∃ c, EqD A a b c ∧ Q (.bool c) σ2) E) E) (hm : behindInMarks .Eq r = false := by with_unfolding_all rfl) : We Γ A st F L (.Compare l [.Eq] [r] pos) ℓ σ Q E := .mk fun s R m rl lc => by
  refine wpAny_Compare1 (h.use rl lc fun va s1 a σ1 R1 P1 hva h1 l1 => h1.use P1.rel l1 fun vb s2 b σ2 R2 P2 hvb h2 l2 => ?_) hm
  obtain ⟨c, ⟨da, db, e1, e2, e3, e4, e5, e6⟩, h2⟩ := h2
  obtain ⟨as, ra⟩ := toD_reads a (hva.ext P2.ext) e1
  obtain ⟨bs, rb⟩ := toD_reads b hvb e2
  refine SeqAt.compareEq_reads ra rb e3 e4 e5 ?_
  rw [e6]
  exact ⟨_, _, _, P1.trans P2, .bool c, h2⟩
theorem Wt.eqD {l r : Expr} {pos} {Q : Bool → List AObj → Prop} (h : We Γ A st F L l ℓ σ (fun a σ1 => We Γ A st F L r ℓ σ1 (fun b σ2 => ∃ c, EqD A a b c ∧ Q c σ2) E) E) (hm : behindInMarks .Eq r = false := by with_unfolding_all rfl) : Wt Γ A st F L (.Compare l [.Eq] [r] pos) ℓ σ Q E := .mk fun s R m rl lc => by
  refine wpAny_isTrue_Compare1 (h.use rl lc fun va s1 a σ1 R1 P1 hva h1 l1 => h1.use P1.rel l1 fun vb s2 b σ2 R2 P2 hvb h2 l2 => ?_) hm
  obtain ⟨c, ⟨da, db, e1, e2, e3, e4, e5, e6⟩, h2⟩ := h2
  obtain ⟨as, ra⟩ := toD_reads a (hva.ext P2.ext) e1
  obtain ⟨bs, rb⟩ := toD_reads b hvb e2
  refine SeqAt.compareEq_reads ra rb e3 e4 e5 ?_
  rw [e6]
  exact wpAny_truthy_bool ⟨_, _, P1.trans P2, h2⟩
end
end
section
open Builtin Builtin.Str
theorem EqD.of {A : Around} {st : List Env} {b : Nat} {x y : V} {da db : PyData} {c : Bool} (hA : AOk A st (b + 1)) (e1 : toD x = some da) (e2 : toD y = some db) (c1 : da.canLay0 = true) (c2 : db.canLay0 = true) (hd : db.depth ≤ 10) (hc : PyData.eqv da db = c) : EqD A x y c :=
  ⟨da, db, e1, e2, c1, c2, by have := hA.units; have : min da.depth db.depth ≤ db.depth := Nat.min_le_right _ _; (exact ar87 hd (by assumption)), hc⟩
theorem toD_s1 (a : PySem.Str) : toD (.tup [.str a]) = some (.tuple [.str a]) := by simp [toD, toDs]
theorem toD_s2 (a b : PySem.Str) : toD (.tup [.str a, .str b]) = some (.tuple [.str a, .str b]) := by simp [toD, toDs]
theorem eqD_paren1 {A : Around} {st : List Env} {b : Nat} {s : PySem.Str} (hA : AOk A st (b + 1)) (h : s = ")" ∨ s = "(") : EqD A (.tup [.str s]) (.tup [.str ","]) false := by
  rcases h with rfl | rfl
  · exact EqD.of hA (toD_s1 _) (toD_s1 _) (by decide +kernel) (by decide +kernel) (by decide +kernel) (by decide +kernel)
  · exact EqD.of hA (toD_s1 _) (toD_s1 _) (by decide +kernel) (by decide +kernel) (by decide +kernel) (by decide +kernel)
theorem eqD_paren2 {A : Around} {st : List Env} {b : Nat} {s : PySem.Str} (hA : AOk A st (b + 1)) (h : s = ")" ∨ s = "(") : EqD A (.tup [.str "sign", .str s]) (.tup [.str "word", .str "in"]) false := by
  rcases h with rfl | rfl
  · exact EqD.of hA (toD_s2 _ _) (toD_s2 _ _) (by decide +kernel) (by decide +kernel) (by decide +kernel) (by decide +kernel)
  · exact EqD.of hA (toD_s2 _ _) (toD_s2 _ _) (by decide +kernel) (by decide +kernel) (by decide +kernel) (by decide +kernel)
noncomputable def ArgHd (t0 : Tk) (nx : Option Tk) : Prop := kindOf t0 ≠ "name" ∨ ∃ s a s2 a2, t0 = .nam s a ∧ nx = some (.sg s2 a2) ∧ (s2 = ")" ∨ s2 = "(")
theorem PT.argHd {p ts c} (h : PT p ts) : ∃ t r, ts ++ [Tk.sg ")" c] = t :: r ∧ ArgHd t r.head? := by
  cases h with
  | num => exact ⟨_, _, rfl, .inl (by show ("int" : PySem.Str) ≠ "name"; decide)⟩
  | nam => exact ⟨_, _, rfl, .inr ⟨_, _, _, _, rfl, rfl, .inl rfl⟩⟩
  | str => exact ⟨_, _, rfl, .inl (by show ("str" : PySem.Str) ≠ "name"; decide)⟩
  | call => exact ⟨_, _, rfl, .inr ⟨_, _, _, _, rfl, rfl, .inr rfl⟩⟩
  | bin => exact ⟨_, _, rfl, .inl (by show ("sign" : PySem.Str) ≠ "name"; decide)⟩
theorem SliceK.tup3a {base : Expr} {a b c : V} {σ : List AObj} {Q : V → List AObj → Prop} (h : Q (.tup [b]) σ) : SliceK base (.tup [a, b, c]) (some 1) (some 2) σ Q := ⟨(by decide : ((Slice.sliceAdjust (some 1) (some 2) 1 (3 : Nat)).1 == 0 && (1 : Int) == 1 && Slice.slicePlaces (Slice.sliceAdjust (some 1) (some 2) 1 (3 : Nat)).1 (Slice.sliceAdjust (some 1) (some 2) 1 (3 : Nat)).2 1 == 3) = false), (by decide : 3 ≤ 1000), (by decide : (tplaces 3 (some 1) (some 2)).length ≤ 1000), h⟩
theorem SliceK.tup3b {base : Expr} {a b c : V} {σ : List AObj} {Q : V → List AObj → Prop} (h : Q (.tup [a, b]) σ) : SliceK base (.tup [a, b, c]) none (some 2) σ Q := ⟨(by decide : ((Slice.sliceAdjust none (some 2) 1 (3 : Nat)).1 == 0 && (1 : Int) == 1 && Slice.slicePlaces (Slice.sliceAdjust none (some 2) 1 (3 : Nat)).1 (Slice.sliceAdjust none (some 2) 1 (3 : Nat)).2 1 == 3) = false), (by decide : 3 ≤ 1000), (by decide : (tplaces 3 none (some 2)).length ≤ 1000), h⟩
section
variable {Γ : Cx} {A : Around} {st : List Env} {F : Fn} {L : Addr} {ℓ : List (Option V)} {σ : List AObj} {E : Int → Prop} {i t q : Nat} {d : Int} {vs : List V} {b : Nat} {D : Nat → Prop} {n v : PySem.Str} {W : V} {tk : Tk} {p1 p2 p3 p4 : Pos} {u : Nat} {Q : V → List AObj → Prop}
theorem b_tokAt {n : PySem.Str} {q : Nat} (O : Γ.Ok) (X : KF Γ.K Γ.w.params Γ.prog) (OF : FnOk F) (ha : At F.scope.names ℓ n (.obj i)) {pl : Int} (h : AtP σ i t pl.toNat d vs) (hp0 : 0 ≤ pl) {e : Expr} {k : Int} (he : We Γ A st F L e ℓ σ (fun W σ1 => W = .int k ∧ σ1 = σ) E) (hk : k = q) (hv : vs[q]? = some W) (hq : Q W σ) :
    We Γ A st F L (.Subscript (.Attribute (.Name n p1) "tokens" p2) e p3) ℓ σ Q E :=
  We.item O (b_tokens (p := pl) O X OF ha (by have := h.inst; rw [Int.toNat_of_nonneg hp0] at this; exact this) (he.mono (fun W1 σ1 hpt => by obtain ⟨h1, h2⟩ := hpt; subst h1 h2; exact .list h.toks q hk h.small hv hq) fun _ x => x))
theorem c_begins {TS : List Tk} {t0 : Tk} {r : List Tk} {nt : Tk} (O : Γ.Ok) (X : KF Γ.K Γ.w.params Γ.prog) (hA : AOk A st (b + 2)) (hR : Rdy σ i t q d vs D TS (t0 :: r) nt) (ht : ArgHd t0 r.head?) (hq : Q (.bool false) σ) : Wc Γ A st (.glob 334) [.obj i] σ Q E := by
  have OF := X.beginsGenerator.ok
  obtain ⟨W, hW, hr⟩ := hR.get (k := 0) (tk := t0) rfl
  obtain ⟨v1, rfl, hs, -, hn, -⟩ := hr.shape
  refine Wc.fn O hA X.beginsGenerator rfl fun L A' hA' hL => ?_
  refine Wx.cons (Ws.assign OF (b_place O X OF .head hR.atp.inst ⟨_, .tail .head, ?_⟩))
  have hat : AtP σ i t ((q : Int)).toNat d vs := by simpa using hR.atp
  rcases ht with hk | ⟨s, a, s2, a2, rfl, hnx, hs2⟩
  · have hk' : (kindOf t0 == ("name" : PySem.Str)) = false := by simpa using hk
    refine Wx.cons (Ws.while (Wl.stop hA'.frames (Wt.andF (Wt.cmp O (We.item O (b_tokAt (q := q) O X OF .head hat (by exact ar135) (We.name OF (by repeat constructor) ⟨rfl, rfl⟩) rfl hW (We.cint (.tup (by decide) (by decide) rfl (We.cstr (.eqS false hk' ⟨rfl, rfl, ?_⟩))))))))))
    exact Wx.cons (Ws.ret (We.and2F (We.cmp O (We.item O (b_tokAt (q := q) O X OF .head hat (by exact ar135) (We.name OF (by repeat constructor) ⟨rfl, rfl⟩) rfl hW (We.cint (.tup (by decide) (by decide) rfl (We.cstr (.eqS false hk' ⟨rfl, hq⟩)))))))))
  · obtain ⟨W2, hW2, hr2⟩ := hR.get (k := 1) (tk := .sg s2 a2) (by cases r with | nil => cases hnx | cons x r => cases hnx; rfl)
    cases hr2
    refine Wx.cons (Ws.while (Wl.stop hA'.frames (Wt.andT (Wt.cmp O (We.item O (b_tokAt (q := q) O X OF .head hat (by exact ar135) (We.name OF (by repeat constructor) ⟨rfl, rfl⟩) rfl hW (We.cint (.tup (by decide) (by decide) rfl (We.cstr (.eqS true rfl ⟨rfl, ?_⟩))))))))))
    refine Wt.eqD (We.slice (b_tokAt (q := q + 1) O X OF .head hat (by exact ar135) (We.bin (We.name OF (by repeat constructor) (We.cint (.addI ⟨rfl, rfl⟩)))) (by simp) hW2 (Wpart.some (We.cint ⟨1, rfl, Wpart.some (We.cint ⟨2, rfl, .tup3a (We.tuple (by decide) (Wes.cons (We.cstr (Wes.nil ⟨by simp, false, eqD_paren1 (b := b) hA' hs2, rfl, ?_⟩))))⟩)⟩))))
    refine Wx.cons (Ws.ret (We.and2T (We.cmp O (We.item O (b_tokAt (q := q) O X OF .head hat (by exact ar135) (We.name OF (by repeat constructor) ⟨rfl, rfl⟩) rfl hW (We.cint (.tup (by decide) (by decide) rfl (We.cstr (.eqS true rfl ⟨rfl, ?_⟩)))))))))
    exact We.eqD (We.slice (b_tokAt (q := q + 1) O X OF .head hat (by exact ar135) (We.bin (We.name OF (by repeat constructor) (We.cint (.addI ⟨rfl, rfl⟩)))) (by simp) hW2 (Wpart.none (Wpart.some (We.cint ⟨2, rfl, .tup3b (e_tup2 ⟨false, eqD_paren2 (b := b) hA' hs2, hq⟩)⟩)))))
end
end
section
open Builtin Builtin.Str
section
variable {Γ : Cx} {A : Around} {st : List Env} {F : Fn} {L : Addr} {ℓ : List (Option V)} {σ : List AObj} {E : Int → Prop} {i t q : Nat} {d : Int} {vs : List V} {b : Nat} {D : Nat → Prop} {n v : PySem.Str} {W : V} {tk : Tk} {p1 p2 p3 p4 : Pos} {u : Nat}
theorem Wt.orT {x : Expr} {r : List Expr} {pos} {Q : Bool → List AObj → Prop} (h : Wt Γ A st F L x ℓ σ (fun b σ1 => b = true ∧ Q true σ1) E) : Wt Γ A st F L (.BoolOp .Or (x :: r) pos) ℓ σ Q E :=
  Wt.or (Wt.mono h (fun b σ1 hpt => by obtain ⟨h1, h2⟩ := hpt; subst h1; simpa using h2) fun _ x => x)
theorem Wt.orF2 {x y : Expr} {pos} {Q : Bool → List AObj → Prop} (h : Wt Γ A st F L x ℓ σ (fun b σ1 => b = false ∧ Wt Γ A st F L y ℓ σ1 Q E) E) : Wt Γ A st F L (.BoolOp .Or [x, y] pos) ℓ σ Q E :=
  Wt.or (Wt.mono h (fun b σ1 hpt => by
    obtain ⟨h1, h2⟩ := hpt
    subst h1
    simp only [Bool.false_eq_true, if_false]
    exact Wt.mono h2 (fun c σ2 h3 => by cases c <;> simpa [WtOr] using h3) fun _ x => x) fun _ x => x)
variable {Q : V → List AObj → Prop}
theorem c_named0 {s : PySem.Str} {a : Int} (O : Γ.Ok) (X : KF Γ.K Γ.w.params Γ.prog) (hA : AOk A st (b + 3)) (h : AtP σ i t q d vs) (hv : vs[q]? = some W) (hr : RpT σ D tk W) (hn : isNx tk "(" = false) (hq : Q (.tup [.str "name", .int a, .str s]) σ) : Wc Γ A st (.glob 320) [.obj i, .int a, .str s] σ Q E := by
  have OF := X.named.ok
  refine Wc.fn O hA X.named rfl fun L A' hA' hL => ?_
  refine Wx.cons (Ws.ifT (Wt.not (Wt.plain (We.mcall O OF .head h.inst X.mTook (pars_no (by decide)) X.kTook (Wes.cons (We.cstr (Wes.nil (Wf.of_Wc O (c_tookF O X (b := b) hA' h hv hr hn ⟨rfl, ?_⟩)))))))))
  exact Wx.cons (Ws.ret (We.tuple (by decide) (Wes.cons (We.cstr (Wes.cons (We.name OF (by repeat constructor) (Wes.cons (We.name OF (by repeat constructor) (Wes.nil ⟨by simp, hq⟩)))))))))
theorem c_named1 {s : PySem.Str} {a b' c : Int} {one : Pt} {N : Nat} {TS ts : List Tk} {nt : Tk} (CA : CArg one N) (hN : 5 ≤ N) (O : Γ.Ok) (X : KF Γ.K Γ.w.params Γ.prog) (hA : AOk A st (N + 1)) (hR : Rdy σ i t q d vs D TS (.sg "(" b' :: (ts ++ [.sg ")" c])) nt) (hpt : PT one ts) (hd0 : 0 ≤ d) (hd : d + dep one ≤ 37)
    (hq : ∀ σ', PreI i σ σ' → AtP σ' i t (q + (ts.length + 2)) d vs → Q (.tup [.str "call", .int a, .str s, .tup [node one]]) σ') : Wc Γ A st (.glob 320) [.obj i, .int a, .str s] σ Q E := by
  have OF := X.named.ok
  obtain ⟨m, rfl⟩ : ∃ m, N = m + 4 := ⟨N - 4, by (exact ar121 hN)⟩
  obtain ⟨W, hW, hr⟩ := hR.get (k := 0) (tk := .sg "(" b') rfl
  have hi := lt_of_some hR.atp.inst
  refine Wc.fn O hA X.named rfl fun L A' hA' hL => ?_
  refine Wx.cons (Ws.ifF (Wt.not (Wt.plain (We.mcall O OF .head hR.atp.inst X.mTook (pars_no (by decide)) X.kTook (Wes.cons (We.cstr (Wes.nil (Wf.of_Wc O (c_tookT O X (b := m + 2) hA' hR.atp hW hr rfl ⟨rfl, Wx.nil ?_⟩)))))))))
  have ha1 : AtP (σ.set i (.inst cPars (parsFs t (q + 0 + 1 : Nat) d))) i t (q + 1) d vs := hR.atp.set
  have hp1 : PreI i σ (σ.set i (.inst cPars (parsFs t (q + 0 + 1 : Nat) d))) := (PreI.refl hi).setI hi
  generalize σ.set i (.inst cPars (parsFs t (q + 0 + 1 : Nat) d)) = σ1 at ha1 hp1 ⊢
  have hR1 : Rdy σ1 i t (q + 1) d vs D TS (ts ++ [.sg ")" c]) nt := Rdy.skip (t1 := [.sg "(" b']) hR hp1 ha1
  obtain ⟨t0, r, e, hd0'⟩ := hpt.argHd (c := c)
  refine Wx.cons (Ws.ifT (Wt.orT (Wt.not (Wt.plain (We.mcall O OF .head ha1.inst X.mBeginsGenerator (pars_no (by decide)) X.kBeginsGenerator (Wes.nil (Wf.of_Wc O (c_begins O X (b := m + 2) hA' (e ▸ hR1) hd0' ⟨rfl, rfl, ?_⟩))))))))
  refine Wx.cons (Ws.ret (We.tuple (by decide) (Wes.cons (We.cstr (Wes.cons (We.name OF (by repeat constructor) (Wes.cons (We.name OF (by repeat constructor) (Wes.cons (We.mcall O OF .head ha1.inst X.mExprs (pars_no (by decide)) X.kExprs (Wes.cons (We.cstr (Wes.nil (Wf.of_Wc O (CA _ _ _ _ _ _ i t (q + 1) d c vs D TS ts nt O X hA' hR1 hpt hd0 hd fun σ2 hp2 ha2 => Wes.nil ⟨by simp, ?_⟩)))))))))))))))
  refine hq _ (hp1.trans hp2 (.inl rfl) hi) ?_
  have e : q + 1 + (ts.length + 1) = q + (ts.length + 2) := by (exact ar362)
  rw [← e]; exact ha2
theorem x_atom {K v1 : V} {a : Int} {P : Fl → List (Option V) → List AObj → Prop} {rest : List Stmt} (O : Γ.Ok) (X : KF Γ.K Γ.w.params Γ.prog) {A' : Around} (hA' : AOk A' (fAtom.env L :: st) b) (h : AtP σ i t q d vs) (hv : vs[q]? = some (.tup [K, v1, .int a]))
    (hk : Wx Γ A' st fAtom L rest (some (.obj i) :: some K :: some v1 :: some (.int a) :: List.replicate 2 none) σ P E) (hr : bM 22 5 = stI (bM 22 5) 0 :: rest) : Wx Γ A' st fAtom L (bM 22 5) (init fAtom [.obj i]) σ P E := by
  have OF := X.atom.ok
  rw [hr]
  refine Wx.cons (Ws.assignTup hA'.handled (b_tok O X OF .head h hv ⟨_, rfl, by simp, ?_⟩) (by intro; rfl) (by rfl) (by intro; rfl))
  exact Wa.name OF ⟨_, .tail .head, Wa.name OF ⟨_, .tail (.tail .head), Wa.name OF ⟨_, .tail (.tail (.tail .head)), hk⟩⟩⟩
theorem c_atomNum {k a : Int} : CFn 299 (.num k a) 5 := by
  intro Γ A st σ E Q i t q d vs D TS ts nt O X hA hR hpt hnt hd0 hd hq
  have OF := X.atom.ok
  cases hpt
  obtain ⟨W, hW, hr⟩ := hR.get (k := 0) (tk := .num k a) rfl
  cases hr
  have hi := lt_of_some hR.atp.inst
  refine Wc.fn O hA X.atom rfl fun L A' hA' hL => x_atom O X hA' hR.atp hW ?_ rfl
  refine Wx.cons (Ws.ifT (Wt.cmp O (We.name OF (by repeat constructor) (We.cstr (.eqS true rfl ⟨rfl, ?_⟩)))))
  refine Wx.cons (Ws.ret (We.tuple (by decide) (Wes.cons (We.cstr (Wes.cons (We.name OF (by repeat constructor) (Wes.cons (We.mcall O OF .head hR.atp.inst X.mTake (pars_no (by decide)) X.kTake (Wes.nil (Wf.of_Wc O (c_take O X (b := 3) hA' hR.atp hW (Wes.nil ⟨by simp, ?_⟩))))))))))))
  have := hq _ ((PreI.refl hi).setI hi) (hR.atp.set (p' := q + 1) (d' := d))
  rw [node] at this
  exact this
theorem c_atomNam {s : PySem.Str} {a : Int} : CFn 299 (.nam s a) 6 := by
  intro Γ A st σ E Q i t q d vs D TS ts nt O X hA hR hpt hnt hd0 hd hq
  have OF := X.atom.ok
  cases hpt
  obtain ⟨W, hW, hr⟩ := hR.get (k := 0) (tk := .nam s a) rfl
  cases hr
  have hi := lt_of_some hR.atp.inst
  refine Wc.fn O hA X.atom rfl fun L A' hA' hL => x_atom O X hA' hR.atp hW ?_ rfl
  refine Wx.cons (Ws.ifF (Wt.cmp O (We.name OF (by repeat constructor) (We.cstr (.eqS false rfl ⟨rfl, Wx.nil ?_⟩)))))
  refine Wx.cons (Ws.ifF (Wt.cmp O (We.name OF (by repeat constructor) (We.cstr (.eqS false rfl ⟨rfl, Wx.nil ?_⟩)))))
  refine Wx.cons (Ws.ifT (Wt.cmp O (We.name OF (by repeat constructor) (We.cstr (.eqS true rfl ⟨rfl, ?_⟩)))))
  have ha1 : AtP (σ.set i (.inst cPars (parsFs t (q + 0 + 1 : Nat) d))) i t (q + 1) d vs := hR.atp.set
  have hp1 : PreI i σ (σ.set i (.inst cPars (parsFs t (q + 0 + 1 : Nat) d))) := (PreI.refl hi).setI hi
  refine Wx.cons (Ws.ret (We.mcall O OF .head hR.atp.inst X.mNamed (pars_no (by decide)) X.kNamed (Wes.cons (We.name OF (by repeat constructor) (Wes.cons (We.mcall O OF .head hR.atp.inst X.mTake (pars_no (by decide)) X.kTake (Wes.nil (Wf.of_Wc O (c_take O X (b := 4) hA' hR.atp hW (Wes.nil (Wf.of_Wc O ?_)))))))))))
  have hR1 := Rdy.skip (t1 := [.nam s a]) (t2 := []) hR hp1 ha1
  obtain ⟨W2, hW2, hr2⟩ := hR1.get (k := 0) (tk := nt) rfl
  refine c_named0 O X (b := 2) hA' ha1 hW2 hr2 hnt.paren ?_
  have := hq _ hp1 ha1
  rw [node] at this
  exact this
theorem c_atomCall {s : PySem.Str} {a : Int} {one : Pt} {N : Nat} (CA : CArg one N) (hN : 6 ≤ N) : CFn 299 (.call a s one) (N + 2) := by
  intro Γ A st σ E Q i t q d vs D TS ts nt O X hA hR hpt hnt hd0 hd hq
  have OF := X.atom.ok
  obtain ⟨m, rfl⟩ : ∃ m, N = m + 1 := ⟨N - 1, by (exact ar26 hN)⟩
  cases hpt with
  | @call _ _ _ ts' b' c h =>
  obtain ⟨W, hW, hr⟩ := hR.get (k := 0) (tk := .nam s a) rfl
  cases hr
  have hi := lt_of_some hR.atp.inst
  refine Wc.fn O hA X.atom rfl fun L A' hA' hL => x_atom O X hA' hR.atp hW ?_ rfl
  refine Wx.cons (Ws.ifF (Wt.cmp O (We.name OF (by repeat constructor) (We.cstr (.eqS false rfl ⟨rfl, Wx.nil ?_⟩)))))
  refine Wx.cons (Ws.ifF (Wt.cmp O (We.name OF (by repeat constructor) (We.cstr (.eqS false rfl ⟨rfl, Wx.nil ?_⟩)))))
  refine Wx.cons (Ws.ifT (Wt.cmp O (We.name OF (by repeat constructor) (We.cstr (.eqS true rfl ⟨rfl, ?_⟩)))))
  have ha1 : AtP (σ.set i (.inst cPars (parsFs t (q + 0 + 1 : Nat) d))) i t (q + 1) d vs := hR.atp.set
  have hp1 : PreI i σ (σ.set i (.inst cPars (parsFs t (q + 0 + 1 : Nat) d))) := (PreI.refl hi).setI hi
  refine Wx.cons (Ws.ret (We.mcall O OF .head hR.atp.inst X.mNamed (pars_no (by decide)) X.kNamed (Wes.cons (We.name OF (by repeat constructor) (Wes.cons (We.mcall O OF .head hR.atp.inst X.mTake (pars_no (by decide)) X.kTake (Wes.nil (Wf.of_Wc O (c_take O X (b := m + 1) hA' hR.atp hW (Wes.nil (Wf.of_Wc O ?_)))))))))))
  have hR1 : Rdy _ i t (q + 1) d vs D TS (.sg "(" b' :: (ts' ++ [.sg ")" c])) nt := Rdy.skip (t1 := [.nam s a]) (by simpa using hR) hp1 ha1
  refine c_named1 (N := m + 1) CA (by (exact Nat.le_of_lt (by assumption))) O X hA' hR1 h hd0 (by rw [dep] at hd; push_cast at hd; (exact ar200 hd)) fun σ' hp2 ha2 => ?_
  have := hq _ (hp1.trans hp2 (.inl rfl) hi) (by have e : q + 1 + (ts'.length + 2) = q + (Tk.nam s a :: Tk.sg "(" b' :: ts' ++ [Tk.sg ")" c]).length := by simp; (exact ar347)
                                                 rw [← e]; exact ha2)
  rw [node] at this
  exact this
theorem c_atomBin {plus : Bool} {a : Int} {one other : Pt} {N : Nat} (CE : CE2 plus a one other N) (hN : 6 ≤ N) : CFn 299 (.bin a plus one other) (N + 1) := by
  intro Γ A st σ E Q i t q d vs D TS ts nt O X hA hR hpt hnt hd0 hd hq
  have OF := X.atom.ok
  obtain ⟨m, rfl⟩ : ∃ m, N = m + 3 := ⟨N - 3, by (exact ar122 hN)⟩
  cases hpt with
  | @bin _ _ _ _ t1 t2 b' c h1 h2 =>
  obtain ⟨W, hW, hr⟩ := hR.get (k := 0) (tk := .sg "(" b') rfl
  have hr' := hr
  cases hr
  have hi := lt_of_some hR.atp.inst
  refine Wc.fn O hA X.atom rfl fun L A' hA' hL => x_atom O X hA' hR.atp hW ?_ rfl
  refine Wx.cons (Ws.ifF (Wt.cmp O (We.name OF (by repeat constructor) (We.cstr (.eqS false rfl ⟨rfl, Wx.nil ?_⟩)))))
  refine Wx.cons (Ws.ifF (Wt.cmp O (We.name OF (by repeat constructor) (We.cstr (.eqS false rfl ⟨rfl, Wx.nil ?_⟩)))))
  refine Wx.cons (Ws.ifF (Wt.cmp O (We.name OF (by repeat constructor) (We.cstr (.eqS false rfl ⟨rfl, Wx.nil ?_⟩)))))
  refine Wx.cons (Ws.ifF (Wt.orF2 (Wt.cmp O (We.name OF (by repeat constructor) (We.cstr (.eqS false rfl ⟨rfl, Wt.cmp O (We.name OF (by repeat constructor) (We.cstr (.eqS false rfl ⟨rfl, Wx.nil ?_⟩)))⟩))))))
  have ha1 : AtP (σ.set i (.inst cPars (parsFs t (q + 0 + 1 : Nat) d))) i t (q + 1) d vs := hR.atp.set
  have hp1 : PreI i σ (σ.set i (.inst cPars (parsFs t (q + 0 + 1 : Nat) d))) := (PreI.refl hi).setI hi
  refine Wx.cons (Ws.ifT (Wt.plain (We.mcall O OF .head hR.atp.inst X.mTook (pars_no (by decide)) X.kTook (Wes.cons (We.cstr (Wes.nil (Wf.of_Wc O (c_tookT O X (b := m + 1) hA' hR.atp hW hr' rfl ⟨rfl, ?_⟩))))))))
  generalize σ.set i (.inst cPars (parsFs t (q + 0 + 1 : Nat) d)) = σ1 at ha1 hp1 ⊢
  have hR1 : Rdy σ1 i t (q + 1) d vs D TS (t1 ++ .sg (opS plus) a :: t2 ++ [.sg ")" c]) nt := Rdy.skip (t1 := [.sg "(" b']) (by simpa using hR) hp1 ha1
  rw [dep] at hd
  push_cast at hd
  refine Wx.cons (Ws.assign OF (We.mcall O OF .head ha1.inst X.mExpr (pars_no (by decide)) X.kExpr (Wes.nil (Wf.of_Wc O (CE _ _ _ _ _ _ i t (q + 1) d vs D TS t1 t2 (.sg ")" c) O X hA' hR1.cutT h1 h2 (okClose c) rfl hd0 (by exact ar62 hd) (by exact ar61 hd) fun σ2 hp2 ha2 => ⟨_, .tail (.tail (.tail (.tail .head))), ?_⟩)))))
  have hR2 : Rdy σ2 i t (q + 1 + (t1.length + 1 + t2.length)) d vs D TS [.sg ")" c] nt := by
    have e : q + 1 + (t1.length + 1 + t2.length) = q + 1 + (t1 ++ Tk.sg (opS plus) a :: t2).length := by simp; (exact ar329)
    rw [e] at ha2 ⊢
    exact Rdy.skip (by simpa using hR1) hp2 ha2
  obtain ⟨W2, hW2, hr2⟩ := hR2.get (k := 0) (tk := .sg ")" c) rfl
  refine Wx.cons (Ws.expr OF (We.mcall O OF .head ha2.inst X.mWant (pars_no (by decide)) X.kWant (Wes.cons (We.cstr (Wes.nil (Wf.of_Wc O (c_want O X (b := m) hA' ha2 hW2 hr2 rfl ?_)))))))
  refine Wx.cons (Ws.ret (We.name OF (by repeat constructor) ?_))
  have hi2 := lt_of_some ha2.inst
  have := hq _ ((hp1.trans hp2 (.inl rfl) hi).setI hi) (by
    have e : q + 1 + (t1.length + 1 + t2.length) + 0 + 1 = q + (Tk.sg "(" b' :: t1 ++ Tk.sg (opS plus) a :: t2 ++ [Tk.sg ")" c]).length := by simp; (exact ar301)
    rw [← e]; exact ha2.set (d' := d))
  rw [node] at this
  exact this
end
end
section
noncomputable abbrev E2 (elt t1 it1 t2 it2 : Expr) (ifs : List Expr) (scope : Scope) (pos : Pos) : Expr := .ListComp elt [⟨t1, it1, [], 0⟩, ⟨t2, it2, ifs, 0⟩] scope pos
theorem turn2_1 (elt t1 it1 t2 it2 : Expr) (ifs : List Expr) (scope : Scope) (pos : Pos) (it acc : Value) (env : Env) :
    compTurn (E2 elt t1 it1 t2 it2 ifs scope pos) 1 it acc env = (do
      standAt it2.pos
      match ← pyNext it with
      | none => pure (.done .next)
      | some v =>
        letOwnedTupleGo t2 it v
        PySem.assign t2 env v
        let mut ok := true
        for c in ifs do
          if ok then ok ← isTrue c env (eval c env)
        if ok then
          (do let _ ← call (.builtin "list.append") [acc, ← eval elt env])
        again (.compLoop (E2 elt t1 it1 t2 it2 ifs scope pos) 1 it acc env)) := by rfl
theorem turn2_0 (elt t1 it1 t2 it2 : Expr) (ifs : List Expr) (scope : Scope) (pos : Pos) (it acc : Value) (env : Env) :
    compTurn (E2 elt t1 it1 t2 it2 ifs scope pos) 0 it acc env = (do
      standAt it1.pos
      match ← pyNext it with
      | none => pure (.done .next)
      | some v =>
        letOwnedTupleGo t1 it v
        PySem.assign t1 env v
        let mut ok := true
        for c in ([] : List Expr) do
          if ok then ok ← isTrue c env (eval c env)
        if ok then
          let x ← eval it2 env
          standAt it2.pos
          let x ← foldedSetIterable it2 env x
          let _ ← runOwn (.compStart (E2 elt t1 it1 t2 it2 ifs scope pos) 1 (← holding [x] (pyIter x)) acc env) env
        again (.compLoop (E2 elt t1 it1 t2 it2 ifs scope pos) 0 it acc env)) := by rfl
section
variable {prog : Program} {w : World} {A : Around} {E : Value → Shared → Prop} {R : Result → Shared → Prop} {s : Shared}
inductive Inv2 (p : Value → Bool) (J t D C : Addr) (items : Array Value) (ys0 : List Value) (s : Shared) (k : Nat) (s' : Shared) : Prop
  | mk (h' : Heap) (tk : Tok) (m' : Str → Option Value) (i : Nat) (e : s' = { s with heap := h', toks := tk }) (h1 : h'.IsTupleIter J t i) (h2 : h'.IsTuple t items) (h3 : h'.PlainList D (ys0 ++ (items.toList.take i).filter p).toArray) (h4 : h'.Ns C m')
    (h5 : i ≤ items.size) (h6 : k = items.size + 1 - i) (h7 : ∀ b o, b ≠ C → b ≠ J → b ≠ D → s.heap.get? b = some o → h'.get? b = some o)
theorem inner2 {elt t1 it1 it2 : Expr} {x2 : Str} {p2 : Pos} {c : Expr} {scope : Scope} {pos : Pos} {J t D : Addr} {cenv : Env} {items : Array Value} {ys0 : List Value} {m : Str → Option Value} (p : Value → Bool)
    (hh : A.handled = none) (hx : cenv.kindOf x2 = some .local)
    (hp : (cenv.scope.kind == .class || (cenv.scope.kind == .module && cenv.locals != cenv.globals)) = false)
    (hDJ : D ≠ J) (hDC : D ≠ cenv.locals) (hJC : J ≠ cenv.locals) (htJ : t ≠ J) (htC : t ≠ cenv.locals) (htD : t ≠ D)
    (hit : s.heap.IsTupleIter J t 0) (ht : s.heap.IsTuple t items) (hacc : s.heap.PlainList D ys0.toArray) (hn : s.heap.Ns cenv.locals m)
    (htest : ∀ v s₂ m₂ E', v ∈ items → s₂.heap.Ns cenv.locals m₂ → m₂ x2 = some v → (∀ b o, b ≠ cenv.locals → b ≠ J → b ≠ D → s.heap.get? b = some o → s₂.heap.get? b = some o) →
      wpAny (model prog w) A (isTrue c cenv (eval c cenv)) (fun ok s₃ => ok = p v ∧ Keeps s₂ s₃) E' s₂)
    (helt : ∀ v s₂ m₂ E', s₂.heap.Ns cenv.locals m₂ → m₂ x2 = some v → wpAny (model prog w) A (eval elt cenv) (fun y s₃ => y = v ∧ Keeps s₂ s₃) E' s₂)
    (hR : ∀ h' tk m', h'.Ns cenv.locals m' → h'.PlainList D (ys0 ++ items.toList.filter p).toArray → (∀ b o, b ≠ cenv.locals → b ≠ J → b ≠ D → s.heap.get? b = some o → h'.get? b = some o) → R (.ok .next) { s with heap := h', toks := tk })
    (hsz : ys0.length + (items.toList.filter p).length ≤ sizeLine) :
    codeAny (model prog w) A (.compLoop (E2 elt t1 it1 (.Name x2 p2) it2 [c] scope pos) 1 (.ref J) (.ref D) cenv) R s := by
  refine codeAny_loop rfl
    (Inv2 p J t D cenv.locals items ys0 s) ?_ (items.size + 1)
    ⟨s.heap, s.toks, m, 0, rfl, hit, ht, by simpa using hacc, hn, Nat.zero_le _, rfl, fun _ _ _ _ _ e => e⟩
  rintro k s' ⟨H, tk, m', i, rfl, hit', ht', hacc', hn', hi, rfl, hk⟩
  show wpAny _ A ((compTurn (E2 elt t1 it1 (.Name x2 p2) it2 [c] scope pos) 1 (.ref J) (.ref D) cenv).onRaise (fun x => do noteFrame x cenv; theTreesLotGoes x)) _ _ _
  refine wpAny_noted ?_
  rw [turn2_1]
  refine wpAny_bind (wpAny_standAt (wpAny_bind ?_))
  cases hv : items[i]? with
  | none =>
    have hsz : items.toList.length ≤ i := by simpa using hv
    refine wpAny_pyNext_tuple_end hh hit' ht' hv fun h₁ he₁ => wpAny_pure ?_
    refine hR h₁ tk m' (hn'.extBut he₁ (Ne.symm hJC)) ?_ fun b o hbC hbI hbD e => he₁ b o hbI (hk b o hbC hbI hbD e)
    have := hacc'.extBut he₁ hDJ
    rwa [List.take_of_length_le hsz] at this
  | some v =>
    have hlt : i < items.size := (Array.getElem?_eq_some_iff.mp hv).1
    have hmem : v ∈ items := by obtain ⟨h1, rfl⟩ := Array.getElem?_eq_some_iff.mp hv; exact Array.getElem_mem h1
    have hvl : items.toList[i]? = some v := by simpa using hv
    refine wpAny_pyNext_tuple_item hit' ht' hv fun h₁ hit₁ hs₁ => ?_
    refine wpAny_bind (wpAny_of_eq (show letOwnedTupleGo (.Name x2 p2) (.ref J) v = pure () from rfl) (wpAny_bind ?_))
    refine wpAny_assign_Name (wpAny_storeName_local hx (hn'.sameBut hs₁ (Ne.symm hJC)) (fun h₂ hn₂ hs₂ => ?_) hp)
    refine wpAny_bind (wpAny_mono (wpAny_tests_one (htest v _ _ _ hmem hn₂ (by simp) fun b o hbC hbI hbD e => hs₂.extBut b o hbC (hs₁.extBut b o hbI (hk b o hbC hbI hbD e)))) (fun ok s₃ h₃ => ?_) fun _ _ e => e)
    obtain ⟨rfl, h₃, tk₃, rfl, hk₃⟩ := h₃
    have up₃ : ∀ b o, b ≠ cenv.locals → b ≠ J → H.get? b = some o → h₃.get? b = some o := fun b o hbC hbI e => hk₃ b o (hs₂.extBut b o hbC (hs₁.extBut b o hbI e))
    have hit₃ : h₃.IsTupleIter J t (i + 1) := (hit₁.extBut hs₂.extBut hJC).at fun o e => hk₃ _ o e
    have ht₃ : h₃.IsTuple t items := by obtain ⟨o, e, r⟩ := ht'; exact ⟨o, up₃ t o htC htJ e, r⟩
    have hacc₃ : h₃.PlainList D (ys0 ++ (items.toList.take i).filter p).toArray := hacc'.at fun o e => up₃ D o hDC hDJ e
    have hn₃ := hn₂.keeps hk₃
    cases hpv : p v with
    | false =>
      refine wpAny_pure ⟨rfl, items.size + 1 - (i + 1), by (exact ar5 hi), h₃, tk₃, _, i + 1, rfl, hit₃, ht₃, ?_, hn₃, hlt, rfl, fun b o hbC hbI hbD e => up₃ b o hbC hbI (hk b o hbC hbI hbD e)⟩
      rw [take_succ_filter p _ i v hvl, hpv]; simpa using hacc₃
    | true =>
      refine wpAny_bind (wpAny_bind (wpAny_mono (helt v _ _ _ hn₃ (by simp)) (fun y s₄ h₄ => ?_) fun _ _ e => e))
      obtain ⟨rfl, h₄, tk₄, rfl, hk₄⟩ := h₄
      have hys : (ys0 ++ (items.toList.take i).filter p).toArray.size ≤ sizeLine := by
        have e2 : ((items.toList.take i).filter p).length ≤ (items.toList.filter p).length := (List.Sublist.filter p (List.take_sublist _ _)).length_le
        simp; (exact ar222 hsz e2)
      refine wpAny_bind (wpAny_list_append_plain (hsz := hys) (hacc₃.at fun o e => hk₄ _ o e) fun h₅ hl₅ hs₅ => ?_)
      refine wpAny_pure (wpAny_pure ⟨rfl, items.size + 1 - (i + 1), by (exact ar5 hi), h₅, tk₄, _, i + 1, rfl, (hit₃.at fun o e => hk₄ _ o e).extBut hs₅.extBut (Ne.symm hDJ), ?_, ?_,
        (hn₃.keeps hk₄).sameBut hs₅ (Ne.symm hDC), hlt, rfl, fun b o hbC hbI hbD e => hs₅.extBut b o hbD (hk₄ b o (up₃ b o hbC hbI (hk b o hbC hbI hbD e)))⟩)
      · obtain ⟨o, e, r⟩ := ht₃; exact ⟨o, hs₅.extBut t o htD (hk₄ t o e), r⟩
      · rw [take_succ_filter p _ i y hvl, hpv]
        simpa using hl₅
end
end
section
section
variable {prog : Program} {w : World} {A : Around} {E : Value → Shared → Prop} {R : Result → Shared → Prop} {s : Shared}
theorem startAt1 {elt t1 it1 t2 it2 : Expr} {ifs : List Expr} {scope : Scope} {pos : Pos} {it acc : Value} {env : Env}
    (h0 : codeAny (model prog w) A (.compLoop (E2 elt t1 it1 t2 it2 ifs scope pos) 1 it acc env) R s)
    (h : wpAny (model prog w) A (pyIter it) (fun it' s' => codeAny (model prog w) A (.compLoop (E2 elt t1 it1 t2 it2 ifs scope pos) 1 it' acc env) R s')
      (notedBy (model prog w) A env fun x s' => R (.error x) s') s) :
    codeAny (model prog w) A (.compStart (E2 elt t1 it1 t2 it2 ifs scope pos) 1 it acc env) R s := by
  refine codeAny_of_tree ?_
  show wpAny _ _ ((compStart (E2 elt t1 it1 t2 it2 ifs scope pos) 1 it acc env).onRaise (fun x => do noteFrame x env; standAt theWindowsPlace)) _ _ s
  refine wpAny_notedAt ?_
  unfold compStart
  show wpAny _ _ (ask >>= _) _ _ s
  refine wpAny_bind (wpAny_askSetting (wpAny_ite ?_))
  split
  · first
      | exact wpAny_bind (wpAny_pure (wpAny_pure (And.intro rfl h0)))
      | exact wpAny_pure (And.intro rfl h0)
  · first
      | exact wpAny_bind (wpAny_rule (wpAny_bind (wpAny_standAt (wpAny_bind (wpAny_mono h (fun it' s' h' => wpAny_pure (And.intro rfl h')) fun _ _ x => x)))))
      | (refine wpAny_bind (wpAny_rule ?_); show wpAny _ _ (standAt it2.pos >>= _) _ _ s; exact wpAny_bind (wpAny_standAt (wpAny_bind (wpAny_mono h (fun it' s' h' => wpAny_pure (And.intro rfl h')) fun _ _ x => x))))
theorem take_succ_flat {α : Type} (G : List (List α)) (i : Nat) (l : List α) (h : G[i]? = some l) : (G.take (i + 1)).flatten = (G.take i).flatten ++ l := by
  rw [List.take_add_one, h]; simp
theorem flat_take_le {α : Type} (G : List (List α)) (i : Nat) : (G.take i).flatten.length ≤ G.flatten.length := by
  have h : G.flatten = (G.take i).flatten ++ (G.drop i).flatten := by rw [← List.flatten_append, List.take_append_drop]
  rw [h]; simp
inductive Inv1 (I l D C : Addr) (vs : List Value) (G : List (List Value)) (s : Shared) (k : Nat) (s' : Shared) : Prop
  | mk (h' : Heap) (tk : Tok) (m' : Str → Option Value) (i : Nat) (e : s' = { s with heap := h', toks := tk }) (h1 : h'.IsListIter I l i) (h2 : h'.PlainList D (G.take i).flatten.toArray) (h3 : h'.Ns C m')
    (h4 : i ≤ vs.length) (h5 : k = vs.length + 1 - i) (h6 : ∀ b o, b ≠ C → b ≠ I → b ≠ D → s.heap.get? b = some o → h'.get? b = some o)
theorem outer2 {elt it1 : Expr} {x1 x2 : Str} {p1 p2 pi : Pos} {c : Expr} {scope : Scope} {pos : Pos} {I l D : Addr} {cenv : Env} {vs : List Value} {G : List (List Value)} {m : Str → Option Value} (p : Value → Bool)
    (hh : A.handled = none) (hx1 : cenv.kindOf x1 = some .local) (hx2 : cenv.kindOf x2 = some .local) (hk : cenv.scope.kind = .function) (hd1 : (x1 == ("__debug__" : Str)) = false)
    (hp : (cenv.scope.kind == .class || (cenv.scope.kind == .module && cenv.locals != cenv.globals)) = false)
    (hDI : D ≠ I) (hDC : D ≠ cenv.locals) (hIC : I ≠ cenv.locals) (hlI : l ≠ I) (hlC : l ≠ cenv.locals) (hlD : l ≠ D)
    (hit : s.heap.IsListIter I l 0) (hl : s.heap.IsList l vs.toArray) (hacc : s.heap.PlainList D #[]) (hn : s.heap.Ns cenv.locals m) (hDs : (s.heap.get? D).isSome)
    (hG : ∀ (k : Nat) v, vs[k]? = some v → ∃ t items, v = .ref t ∧ s.heap.IsTuple t items ∧ G[k]? = some (items.toList.filter p) ∧ t ≠ I ∧ t ≠ cenv.locals ∧ t ≠ D)
    (htest : ∀ v s₂ m₂ E', (∃ t items, s.heap.IsTuple t items ∧ v ∈ items ∧ .ref t ∈ vs) → s₂.heap.Ns cenv.locals m₂ → m₂ x2 = some v → (∀ b o, b ≠ cenv.locals → b ≠ I → b ≠ D → s.heap.get? b = some o → s₂.heap.get? b = some o) →
      wpAny (model prog w) A (isTrue c cenv (eval c cenv)) (fun ok s₃ => ok = p v ∧ Keeps s₂ s₃) E' s₂)
    (helt : ∀ v s₂ m₂ E', s₂.heap.Ns cenv.locals m₂ → m₂ x2 = some v → wpAny (model prog w) A (eval elt cenv) (fun y s₃ => y = v ∧ Keeps s₂ s₃) E' s₂)
    (hR : ∀ h' tk m', h'.Ns cenv.locals m' → h'.PlainList D (G.take vs.length).flatten.toArray → (∀ b o, b ≠ cenv.locals → b ≠ I → b ≠ D → s.heap.get? b = some o → h'.get? b = some o) → R (.ok .next) { s with heap := h', toks := tk })
    (hsz : G.flatten.length ≤ sizeLine) (hfold : ∀ x, foldedSetIterable (.Name x1 pi) cenv x = pure x := by intro _; rfl) :
    codeAny (model prog w) A (.compLoop (E2 elt (.Name x1 p1) it1 (.Name x2 p2) (.Name x1 pi) [c] scope pos) 0 (.ref I) (.ref D) cenv) R s := by
  refine codeAny_loop rfl
    (Inv1 I l D cenv.locals vs G s) ?_ (vs.length + 1)
    ⟨s.heap, s.toks, m, 0, rfl, hit, by simpa using hacc, hn, Nat.zero_le _, rfl, fun _ _ _ _ _ e => e⟩
  rintro k s' ⟨H, tk, m', i, rfl, hit', hacc', hn', hi, rfl, hkp⟩
  show wpAny _ A ((compTurn (E2 elt (.Name x1 p1) it1 (.Name x2 p2) (.Name x1 pi) [c] scope pos) 0 (.ref I) (.ref D) cenv).onRaise (fun x => do noteFrame x cenv; theTreesLotGoes x)) _ _ _
  refine wpAny_noted ?_
  rw [turn2_0]
  have hl' : H.IsList l vs.toArray := hl.at fun o e => hkp l o hlC hlI hlD e
  refine wpAny_bind (wpAny_standAt (wpAny_bind ?_))
  cases hv : vs[i]? with
  | none =>
    have hle : vs.length ≤ i := by simpa using hv
    refine wpAny_pyNext_list_end hh hit' hl' (by simpa using hv) fun h₁ he₁ => wpAny_pure ?_
    refine hR h₁ tk m' (hn'.extBut he₁ (Ne.symm hIC)) ?_ fun b o hbC hbI hbD e => he₁ b o hbI (hkp b o hbC hbI hbD e)
    have := hacc'.extBut he₁ hDI
    have e : i = vs.length := by (exact ar367 hi hle)
    rwa [e] at this
  | some v =>
    have hlt : i < vs.length := (List.getElem?_eq_some_iff.mp hv).1
    obtain ⟨t, items, rfl, ht, hg, htI, htC, htD⟩ := hG i _ hv
    refine wpAny_pyNext_list_item hit' hl' (by simpa using hv) fun h₁ hit₁ hs₁ => ?_
    refine wpAny_bind (wpAny_of_eq (show letOwnedTupleGo (.Name x1 p1) (.ref I) (.ref t) = pure () from rfl) (wpAny_bind ?_))
    refine wpAny_assign_Name (wpAny_storeName_local hx1 (hn'.sameBut hs₁ (Ne.symm hIC)) (fun h₂ hn₂ hs₂ => ?_) hp)
    refine wpAny_bind (wpAny_mono (wpAny_tests_nil (Q := fun ok s₃ => ok = true ∧ s₃ = _) ⟨rfl, rfl⟩) (fun ok s₃ h₃ => ?_) fun _ _ e => e)
    obtain ⟨rfl, rfl⟩ := h₃
    refine wpAny_bind (wpAny_Name (wpAny_loadName_local hk hx1 hn₂ (v := .ref t) (if_pos rfl) ?_) hd1)
    refine wpAny_bind (wpAny_standAt (wpAny_bind (wpAny_of_eq (hfold _) (wpAny_bind (wpAny_holding ?_)))))
    have up₂ : ∀ b o, b ≠ cenv.locals → b ≠ I → H.get? b = some o → h₂.get? b = some o := fun b o hbC hbI e => hs₂.extBut b o hbC (hs₁.extBut b o hbI e)
    have ht₂ : h₂.IsTuple t items := by obtain ⟨o, e, r⟩ := ht; exact ⟨o, up₂ t o htC htI (hkp t o htC htI htD e), r⟩
    refine wpAny_pyIter_tuple ht₂ (wpAny_bind (wpAny_runOwn ?_))
    show codeAny _ (A.mark none) _ _ _
    have hAm : A.mark none = A := by cases A; rfl
    rw [hAm]
    generalize hH3 : h₂.push { cls := .type "tuple_iterator", data := .fields #[.ref t, .int 0 0] } = h₃
    have up₃ : ∀ b o, h₂.get? b = some o → h₃.get? b = some o := fun b o e => hH3 ▸ Heap.get?_push_of_some _ e
    have hitJ : h₃.IsTupleIter h₂.objs.size t 0 := ⟨_, hH3 ▸ Heap.get?_push_size _ rfl, rfl, rfl⟩
    have lt₂ : ∀ b o, h₂.get? b = some o → b ≠ h₂.objs.size := fun b o e => Nat.ne_of_lt (Heap.lt_size e)
    have hacc₂ : h₂.PlainList D (G.take i).flatten.toArray := hacc'.at fun o e => up₂ D o hDC hDI e
    have hDJ : D ≠ h₂.objs.size := by obtain ⟨o, e⟩ := hacc₂; exact lt₂ _ _ e
    have hCJ : h₂.objs.size ≠ cenv.locals := by obtain ⟨o, _, _, e, _⟩ := hn₂; exact (lt₂ _ _ e).symm
    have htJ : t ≠ h₂.objs.size := by obtain ⟨o, e, _⟩ := ht₂; exact lt₂ _ _ e
    have hIJ : I ≠ h₂.objs.size := by obtain ⟨o, e, _⟩ := hit₁.extBut hs₂.extBut hIC; exact lt₂ _ _ e
    have ht₃ : h₃.IsTuple t items := by obtain ⟨o, e, r⟩ := ht₂; exact ⟨o, up₃ _ _ e, r⟩
    have hgl : (G.take i).flatten.length + (items.toList.filter p).length ≤ sizeLine := by
      have := flat_take_le G (i + 1)
      rw [take_succ_flat G i _ hg, List.length_append] at this
      (exact ar240 hsz this)
    have hit₃ : h₃.IsListIter I l (i + 1) := (hit₁.extBut hs₂.extBut hIC).at fun o e => up₃ _ _ e
    have loop : ∀ (RR : Result → Shared → Prop) (tk : Tok) (s₂ : Shared), s₂ = { s with heap := h₃, toks := tk } →
        (∀ h' tk' m'', h'.Ns cenv.locals m'' → h'.PlainList D ((G.take i).flatten ++ items.toList.filter p).toArray → (∀ b o, b ≠ cenv.locals → b ≠ h₂.objs.size → b ≠ D → h₃.get? b = some o → h'.get? b = some o) → RR (.ok .next) { s with heap := h', toks := tk' }) →
        codeAny (model prog w) A (.compLoop (E2 elt (.Name x1 p1) it1 (.Name x2 p2) (.Name x1 pi) [c] scope pos) 1 (.ref h₂.objs.size) (.ref D) cenv) RR s₂ := by
      rintro RR tk s₂ rfl hRR
      refine inner2 p hh hx2 hp hDJ hDC hCJ htJ htC htD hitJ ht₃ (hacc₂.at fun o e => up₃ _ _ e) (hn₂.keeps up₃)
        (fun v s₂ m₂ E' hv' hn hm hk' => htest v s₂ m₂ E' ⟨t, items, ht, hv', List.mem_of_getElem? hv⟩ hn hm fun b o hbC hbI hbD e => ?_) helt hRR hgl
      have e2 := up₂ b o hbC hbI (hkp b o hbC hbI hbD e)
      exact hk' b o hbC (lt₂ _ _ e2) hbD (up₃ _ _ e2)
    refine startAt1 (loop _ _ _ rfl ?_) (wpAny_pyIter_tupleiter hitJ (loop _ _ _ rfl ?_))
    all_goals
      intro h' tk' m'' hn' hacc' hk'
      refine wpAny_pure ⟨rfl, vs.length + 1 - (i + 1), by (exact ar5 hi), h', tk', m'', i + 1, rfl, ?_, ?_, hn', hlt, rfl, fun b o hbC hbI hbD e => ?_⟩
      · exact hit₃.at fun o e => hk' _ _ hIC hIJ (Ne.symm hDI) e
      · rw [take_succ_flat G i _ hg]; exact hacc'
      · have e2 := up₂ b o hbC hbI (hkp b o hbC hbI hbD e)
        exact hk' b o hbC (lt₂ _ _ e2) hbD (up₃ _ _ e2)
end
end
section
section
variable {prog : Program} {w : World} {A : Around} {E : Value → Shared → Prop} {s : Shared} {env : Env}
inductive Comp2 (prog : Program) (w : World) (A : Around) (env : Env) (p : Value → Bool) (x2 y : Str) (c : Expr) (scope : Scope) (Q : Flow → Shared → Prop) (xv : Value) (s₁ : Shared) : Prop
  | mk (l : Addr) (vs : List Value) (G : List (List Value)) (m : Str → Option Value) (g0 : xv = .ref l)
    (g1 : s₁.heap.IsList l (List.toArray vs))
    (g2 : (List.flatten G).length ≤ sizeLine)
    (g3 : s₁.heap.Ns env.locals m)
    (g4 : ∀ (k : Nat) v, vs[k]? = some v → ∃ t items, v = .ref t ∧ s₁.heap.IsTuple t items ∧ G[k]? = some (items.toList.filter p))
    (g5 : ∀ C v s₂ m₂ E', (∃ t items, s₁.heap.IsTuple t items ∧ v ∈ items ∧ .ref t ∈ vs) → s₂.heap.Ns C m₂ → m₂ x2 = some v → (∀ b o, s₁.heap.get? b = some o → s₂.heap.get? b = some o) →
        wpAny (model prog w) A (isTrue c (compEnv scope C env) (eval c (compEnv scope C env))) (fun ok s₃ => ok = p v ∧ Keeps s₂ s₃) E' s₂)
    (g6 : ∀ D h' tk, s₁.heap.get? D = none → h'.PlainList D (G.take vs.length).flatten.toArray → h'.Ns env.locals (fun z => if z = y then some (.ref D) else m z) →
        (∀ b o, b ≠ env.locals → s₁.heap.get? b = some o → h'.get? b = some o) → Q .next { s₁ with heap := h', toks := tk })
theorem assign_comp2 {iter : Expr} {x1 x2 y : Str} {p1 p2 pe pi py : Pos} {c : Expr} {scope : Scope} {pos spos : Pos} {Q : Flow → Shared → Prop} (p : Value → Bool)
    (hsw : swapsWith (E2 (.Name x2 pe) (.Name x1 p1) iter (.Name x2 p2) (.Name x1 pi) [c] scope pos) (some (.Name y py)) spos.line env = pure true)
    (hh : A.handled = none) (hfree : ∀ z ∈ scope.names, z.2 ≠ .free) (hcell : ∀ z ∈ scope.names, z.2 ≠ .cell) (hkind : scope.kind = .function)
    (hnames : ∀ z ∈ scope.names, z.2 = .local → scope.names.lookup z.1 = some .local) (hx1 : scope.names.lookup x1 = some .local) (hx2 : scope.names.lookup x2 = some .local)
    (hd1 : (x1 == ("__debug__" : Str)) = false) (hd2 : (x2 == ("__debug__" : Str)) = false)
    (hy : env.kindOf y = some .local) (hp : (env.scope.kind == .class || (env.scope.kind == .module && env.locals != env.globals)) = false)
    (h : wpAny (model prog w) A (eval iter env) (Comp2 prog w A env p x2 y c scope Q) E s)
    (hs : ∀ x, foldedSetIterable iter env x = pure x := by intro _; rfl) :
    wpAny (model prog w) A (exec (.Assign [.Name y py] (E2 (.Name x2 pe) (.Name x1 p1) iter (.Name x2 p2) (.Name x1 pi) [c] scope pos) spos) env) Q E s := by
  rw [exec_Assign_Name_used _ _ _ _ hsw]
  refine wpAny_bind (wpAny_standAt (wpAny_bind ?_))
  show wpAny _ A (do let _ ← comprehension (E2 (.Name x2 pe) (.Name x1 p1) iter (.Name x2 p2) (.Name x1 pi) [c] scope pos) scope env _ (newList []) false (eval iter env) (some (PySem.assign (.Name y py) env))) _ _ s
  refine wpAny_bind (wpAny_mono (wpAny_comprehension_use (Q := fun _ s' => Q .next s') rfl hs hfree hkind hnames (wpAny_mono h (fun xv s₁ h₁ => ?_) fun _ _ e => e))
    (fun _ s' hq => wpAny_pure (wpAny_pure hq)) fun _ _ e => e)
  obtain ⟨l, vs, G, m, rfl, hl, hsz, hn, hG, htest, hQ⟩ := h₁
  refine wpAny_pyIter_list hl (wpAny_newObj_type (hd := by size_fits) (wpAny_newFunctionEnv hcell (by intro y hy; simp at hy) (fun h₁ hns₁ hsb₁ => ?_) hkind))
  dsimp only at hns₁ hsb₁ ⊢
  obtain ⟨ol, hol, hol'⟩ := id hl
  have hlt : l < s₁.heap.objs.size := Heap.lt_size hol
  generalize hH1 : s₁.heap.push { cls := .type "list_iterator", data := .fields #[.ref l, .int 0 0] } = H1 at hns₁ hsb₁ ⊢
  have hD : H1.objs.size = s₁.heap.objs.size + 1 := by rw [← hH1, Heap.size_push]
  generalize hH2 : H1.push { cls := .type "list", dict := none, data := .seq ([] : List Value).toArray } = H2 at hns₁ hsb₁ ⊢
  have hC : H2.objs.size = s₁.heap.objs.size + 2 := by rw [← hH2, Heap.size_push, hD]
  have hDI : H1.objs.size ≠ s₁.heap.objs.size := by rw [hD]; exact Nat.succ_ne_self _
  have hDC : H1.objs.size ≠ H2.objs.size := by rw [hD, hC]; exact Nat.ne_of_lt (Nat.lt_succ_self _)
  have hIC : s₁.heap.objs.size ≠ H2.objs.size := by rw [hC]; exact Nat.ne_of_lt (Nat.lt_succ_of_lt (Nat.lt_succ_self _))
  have below : ∀ b, b < s₁.heap.objs.size → b ≠ H2.objs.size ∧ b ≠ s₁.heap.objs.size ∧ b ≠ H1.objs.size := fun b hb =>
    ⟨by rw [hC]; exact Nat.ne_of_lt (Nat.lt_succ_of_lt (Nat.lt_succ_of_lt hb)), Nat.ne_of_lt hb, by rw [hD]; exact Nat.ne_of_lt (Nat.lt_succ_of_lt hb)⟩
  have old : ∀ b o, s₁.heap.get? b = some o → h₁.get? b = some o := fun b o e =>
    hsb₁.extBut b o (below b (Heap.lt_size e)).1 (Heap.get?_push_of_some _ (hH2 ▸ Heap.get?_push_of_some _ (hH1 ▸ Heap.get?_push_of_some _ e)))
  have hit : h₁.IsListIter s₁.heap.objs.size l 0 :=
    ⟨_, hsb₁.extBut _ _ hIC (Heap.get?_push_of_some _ (hH2 ▸ Heap.get?_push_of_some _ (hH1 ▸ Heap.get?_push_size _ rfl))), rfl, rfl⟩
  have hacc : h₁.PlainList H1.objs.size #[] := ⟨_, hsb₁.extBut _ _ hDC (Heap.get?_push_of_some _ (hH2 ▸ Heap.get?_push_size _ rfl))⟩
  have hl₁ : h₁.IsList l vs.toArray := ⟨ol, old _ _ hol, hol'⟩
  have fresh : ∀ a, s₁.heap.objs.size ≤ a → s₁.heap.get? a = none := fun a ha => by
    cases e : s₁.heap.get? a with
    | none => rfl
    | some o' => exact absurd (Heap.lt_size e) (Nat.not_lt.mpr ha)
  have loop : ∀ (RR : Result → Shared → Prop) (s₂ : Shared), s₂ = { s₁ with heap := h₁, toks := s₁.toks + ([] : List (Str × Value)).length } →
      (∀ h' tk m', h'.Ns H2.objs.size m' → h'.PlainList H1.objs.size (G.take vs.length).flatten.toArray → (∀ b o, s₁.heap.get? b = some o → h'.get? b = some o) → RR (.ok .next) { s₁ with heap := h', toks := tk }) →
      codeAny (model prog w) A (.compLoop (E2 (.Name x2 pe) (.Name x1 p1) iter (.Name x2 p2) (.Name x1 pi) [c] scope pos) 0 (.ref s₁.heap.objs.size) (.ref H1.objs.size) (compEnv scope H2.objs.size env)) RR s₂ := by
    rintro RR s₂ rfl hRR
    have low : ∀ b o, s₁.heap.get? b = some o → b < s₁.heap.objs.size := fun b o e => Heap.lt_size e
    refine outer2 (s := { s₁ with heap := h₁, toks := s₁.toks + ([] : List (Str × Value)).length }) (cenv := compEnv scope H2.objs.size env) p hh hx1 hx2 hkind hd1 (by simp [compEnv, hkind]) hDI hDC hIC (below l hlt).2.1 (below l hlt).1 (below l hlt).2.2 hit hl₁ hacc hns₁
      (by obtain ⟨n, e⟩ := hacc; show (h₁.get? _).isSome = true; rw [e]; rfl) (fun k v hv => ?_) (fun v s₂ m₂ E' hv hn hm hk => ?_) (fun v s₂ m₂ E' hn hm => ?_) (fun h' tk m' hn ha hk => ?_) hsz
    · obtain ⟨t, items, e1, ⟨o, e2, r⟩, e3⟩ := hG k v hv
      have := below t (low _ _ e2)
      exact ⟨t, items, e1, ⟨o, old _ _ e2, r⟩, e3, this.2.1, this.1, this.2.2⟩
    · obtain ⟨t, items, ⟨o, e2, r⟩, e3, e4⟩ := hv
      obtain ⟨k, hk'⟩ := List.getElem?_of_mem e4
      obtain ⟨t', items', e1', ⟨o', e2', r'⟩, e3'⟩ := hG k _ hk'
      cases e1'
      have : o = o' := Option.some.inj ((show h₁.get? t = some o from e2).symm.trans (old _ _ e2'))
      subst this
      refine htest _ v s₂ m₂ E' ⟨t, items, ⟨o, e2', r⟩, e3, e4⟩ hn hm fun b o e => ?_
      have := below b (low _ _ e)
      exact hk b o this.1 this.2.1 this.2.2 (old b o e)
    · exact wpAny_Name (wpAny_loadName_local hkind hx2 hn hm ⟨rfl, ⟨s₂.heap, s₂.toks, rfl, fun _ _ e => e⟩⟩) hd2
    · refine hRR h' tk m' hn ha fun b o e => ?_
      have := below b (low _ _ e)
      exact hk b o this.1 this.2.1 this.2.2 (old b o e)
  refine codeAny_compStart_list (loop _ _ rfl ?_) (wpAny_pyIter_listiter hit (loop _ _ rfl ?_))
  all_goals
    intro h' tk m' hnC hlD hk
    have hCn : s₁.heap.get? H2.objs.size = none := fresh _ (by rw [hC]; (exact ar406))
    have hDn : s₁.heap.get? H1.objs.size = none := fresh _ (by rw [hD]; (exact ar407))
    have hLC : env.locals ≠ H2.objs.size := by intro q; obtain ⟨o, _, _, ho, _⟩ := hn; rw [q, hCn] at ho; cases ho
    have hLD : env.locals ≠ H1.objs.size := by intro q; obtain ⟨o, _, _, ho, _⟩ := hn; rw [q, hDn] at ho; cases ho
    refine wpAny_assign_Name (wpAny_storeName_local hy (hn.keeps hk) (fun h₂ hn₂ hs₂ => ?_) hp)
    refine ⟨m', hnC.sameBut hs₂ (Ne.symm hLC), fun h₃ hs₃ => ?_⟩
    refine hQ H1.objs.size h₃ _ hDn ((hlD.extBut hs₂.extBut (Ne.symm hLD)).extBut hs₃.extBut hDC) (hn₂.sameBut hs₃ hLC) fun b o hbL e => ?_
    exact hs₃.extBut b o (by rintro rfl; have e' : s₁.heap.get? H2.objs.size = some o := e; rw [hCn] at e'; cases e') (hs₂.extBut b o hbL (hk b o e))
end
theorem ev_isTup {Γ : Cx} {A : Around} {F : Fn} {L C : Addr} {scope : Scope} {s : Shared} {m₂ : Str → Option Value} {v : Value} {W : V} {b : Bool} {R : Nat → Addr} {n : Nat} {x : Str} {p1 p2 p3 p4 : Pos} {E' : Value → Shared → Prop}
    (O : Γ.Ok) (g1 : Glb Γ.K "isinstance" (.blt "isinstance")) (g2 : Glb Γ.K "tuple" (.typ "tuple")) (hk : scope.kind = .function) (hx : scope.names.lookup x = some .local) (hi : scope.names.lookup ("isinstance" : Str) = some .globalImplicit) (ht : scope.names.lookup ("tuple" : Str) = some .globalImplicit) (hd : (x == ("__debug__" : Str)) = false)
    (hB : ∀ b o, Γ.B.get? b = some o → s.heap.get? b = some o) (hn : s.heap.Ns C m₂) (hm : m₂ x = some v) (hv : VR s.heap R n v W) (hb : isTupV W = some b)
    (hp : ∀ env, (starEach [.Name x p2, .Name "tuple" p3] env).any (·.1) = false := by intro; rfl) (he : ∀ env, starEach [.Name x p2, .Name "tuple" p3] env = [(false, eval (.Name x p2) env), (false, eval (.Name "tuple" p3) env)] := by intro; rfl) :
    wpAny Γ.M A (isTrue (.Call (.Name "isinstance" p1) [.Name x p2, .Name "tuple" p3] [] p4) (compEnv scope C (F.env L)) (eval (.Call (.Name "isinstance" p1) [.Name x p2, .Name "tuple" p3] [] p4) (compEnv scope C (F.env L)))) (fun ok s₃ => ok = b ∧ Keeps s s₃) E' s := by
  have glob : ∀ {y : Str} {u : Value} {p : Pos} {Q : Value → Shared → Prop}, nsIn Γ.K mainGlobals y = some none → bootBuiltins y = some u → y ≠ "__name__" → scope.names.lookup y = some .globalImplicit → (y == ("__debug__" : Str)) = false → Q u s → wpAny Γ.M A (eval (.Name y p) (compEnv scope C (F.env L))) Q E' s := by
    intro y u p Q e hv hn hl hdb hq
    exact Name_function_global hk hl (loadGlobal_builtin (env := compEnv scope C (F.env L)) (O.top.g.keeps hB) (mg_none_of O.kin O.top.g e) (O.top.b.keeps hB) ((O.top.builtins y hn).trans hv) hq) hdb
  refine isTrue_plain ?_ rfl
  show wpAny _ _ (do callWith p4 (← eval (.Name "isinstance" p1) (compEnv scope C (F.env L))) [] (backTo p4 (starEach [.Name x p2, .Name "tuple" p3] (compEnv scope C (F.env L)))) (backToKw p4 (keywordEach [] (compEnv scope C (F.env L))))) _ _ _
  have e1 : nsIn Γ.K mainGlobals "isinstance" = some none ∧ bootBuiltins "isinstance" = some (.builtin "isinstance") := by cases g1 with | blt h hb hn => exact ⟨h, hb⟩ | cst h hc => cases hc
  have e2 : nsIn Γ.K mainGlobals "tuple" = some none ∧ bootBuiltins "tuple" = some (.type "tuple") := by cases g2 with | typ h hb hn => exact ⟨h, hb⟩ | cst h hc => cases hc
  refine wpAny_bind (glob e1.1 e1.2 (by decide) hi (by decide) ?_)
  refine callWith_of (P := fun _ => True) (by show (_ || false) = false; rw [starEach_plain (hp _)]; rfl) (fun h' _ => ⟨.machine, .inr (.inl rfl), Looks.of_pure rfl⟩) ?_
  refine evalArgs_of (hp _) ?_
  rw [he]
  show wpAny _ _ (spliced [(false, _), (false, _)]) _ _ _
  refine spliced_cons (wpAny_Name (wpAny_loadName_local hk hx hn hm ?_) hd)
  refine spliced_cons (glob e2.1 e2.2 (by decide) ht (by decide) (spliced_nil ⟨trivial, ?_⟩))
  show wpAny _ _ (call (.builtin "isinstance") [v, .type "tuple"]) _ _ _
  have fin : ∀ (tk : Tok), wpAny Γ.M A (truthy (.bool b)) (fun ok s₃ => ok = b ∧ Keeps s s₃) E' { s with toks := tk } := fun tk => wpAny_truthy_bool ⟨rfl, _, tk, rfl, fun _ _ e => e⟩
  cases W <;> first | (cases hb; done) | skip
  · cases hb; (obtain rfl := VR.inv hv); exact PySem.IsiPair.NoneType_tuple (fin _)
  · cases hb; (obtain ⟨_, rfl⟩ := VR.inv hv); exact PySem.IsiPair.int_tuple (fin _)
  · cases hb; (obtain ⟨_, rfl⟩ := VR.inv hv); exact PySem.IsiPair.str_tuple (fin _)
  · cases hb
    obtain ⟨a, vs, rfl, ⟨o, ho, hc, _⟩, hv⟩ := hv.isTup
    exact PySem.IsiPair.tuple_tuple ho hc (fin _)
end
section
open Builtin Builtin.Str
noncomputable def isT : V → Bool
  | .tup _ => true
  | _ => false
noncomputable def kids : V → List V
  | .tup ws => ws.filter isT
  | _ => []
noncomputable def isRefV : Value → Bool
  | .ref _ => true
  | _ => false
noncomputable def seqAt (h : Heap) (v : Value) : List Value := match v with
  | .ref t => match h.get? t with
    | some ⟨_, _, .seq items _, _⟩ => items.toList.filter isRefV
    | _ => []
  | _ => []
theorem seqAt_tup {h : Heap} {t : Addr} {items : Array Value} (ht : IsTup h t items) : seqAt h (.ref t) = items.toList.filter isRefV := by
  obtain ⟨o, ho, hc, n, hd⟩ := ht
  obtain ⟨c, d, dt, sl⟩ := o
  simp only at hd
  subst hd
  simp [seqAt, ho]
noncomputable def Plain (W : V) : Prop := ∃ Ws, W = .tup Ws ∧ ∀ w ∈ Ws, (isTupV w).isSome = true
theorem isRef_of {h r n v W b} (x : VR h r n v W) (hb : isTupV W = some b) : isRefV v = b ∧ isT W = b := by
  cases x <;> first | (cases hb; exact ⟨rfl, rfl⟩) | cases hb
theorem filt_vrs {h r n} {Ws : List V} {vs : List Value} (x : VRs h r n vs Ws) (hw : ∀ w ∈ Ws, (isTupV w).isSome = true) : VRs h r n (vs.filter isRefV) (Ws.filter isT) := by
  induction Ws generalizing vs with
  | nil => obtain rfl := x.nil_iff; exact .nil
  | cons W Ws ih =>
    obtain ⟨v, vs', rfl, a, b⟩ := x.cons_iff
    obtain ⟨c, hc⟩ := Option.isSome_iff_exists.mp (hw W (.head _))
    obtain ⟨e1, e2⟩ := isRef_of a hc
    have ih := ih b fun w q => hw w (.tail _ q)
    cases c with
    | true => rw [List.filter_cons_of_pos e1, List.filter_cons_of_pos e2]; exact .cons a ih
    | false => rw [List.filter_cons_of_neg (by simp [e1]), List.filter_cons_of_neg (by simp [e2])]; exact ih
theorem kids_vrs {h r n} {Vs : List V} {l : List Value} (x : VRs h r n l Vs) (hw : ∀ W ∈ Vs, Plain W) : VRs h r n (l.map (seqAt h)).flatten (Vs.flatMap kids) := by
  induction Vs generalizing l with
  | nil => obtain rfl := x.nil_iff; exact .nil
  | cons W Vs ih =>
    obtain ⟨v, vs', rfl, a, b⟩ := x.cons_iff
    obtain ⟨Ws, rfl, hws⟩ := hw W (.head _)
    obtain ⟨t, items, rfl, ht, hv⟩ := a.isTup
    rw [List.map_cons, List.flatten_cons, List.flatMap_cons, seqAt_tup ht]
    exact (filt_vrs hv hws).append (ih b fun w q => hw w (.tail _ q))
section
variable {Γ : Cx} {A : Around} {st : List Env} {F : Fn} {L : Addr} {ℓ ℓ' : List (Option V)} {σ : List AObj} {E : Int → Prop} {Q : Fl → List (Option V) → List AObj → Prop}
theorem Ws.comp2 {x1 x2 y lv : PySem.Str} {p1 p2 pe pi py pl q1 q2 q3 q4 : Pos} {scope : Scope} {pos spos : Pos} {j : Nat} {Vs : List V} (O : Γ.Ok) (OF : FnOk F) (hh : A.handled = none)
    (g1 : Glb Γ.K "isinstance" (.blt "isinstance")) (g2 : Glb Γ.K "tuple" (.typ "tuple")) (ha : At F.scope.names ℓ lv (.obj j)) (hj : σ[j]? = some (.list Vs)) (hall : ∀ W ∈ Vs, Plain W) (hsz : (Vs.flatMap kids).length ≤ sizeLim)
    (hput : Put F.scope.names ℓ y (.obj σ.length) ℓ') (hq : Q .next ℓ' (σ ++ [.list (Vs.flatMap kids)]))
    (hsw : ∀ env : Env, env.blockKind = .function → env.kindOf y = some .local → swapsWith (E2 (.Name x2 pe) (.Name x1 p1) (.Name lv pl) (.Name x2 p2) (.Name x1 pi) [.Call (.Name "isinstance" q1) [.Name x2 q2, .Name "tuple" q3] [] q4] scope pos) (some (.Name y py)) spos.line env = pure true)
    (hfree : ∀ z ∈ scope.names, z.2 ≠ .free) (hcell : ∀ z ∈ scope.names, z.2 ≠ .cell) (hkind : scope.kind = .function)
    (hnames : ∀ z ∈ scope.names, z.2 = .local → scope.names.lookup z.1 = some .local) (hx1 : scope.names.lookup x1 = some .local) (hx2 : scope.names.lookup x2 = some .local)
    (hi : scope.names.lookup ("isinstance" : PySem.Str) = some .globalImplicit) (ht : scope.names.lookup ("tuple" : PySem.Str) = some .globalImplicit)
    (hd1 : (x1 == ("__debug__" : PySem.Str)) = false) (hd2 : (x2 == ("__debug__" : PySem.Str)) = false) :
    Ws Γ A st F L (.Assign [.Name y py] (E2 (.Name x2 pe) (.Name x1 p1) (.Name lv pl) (.Name x2 p2) (.Name x1 pi) [.Call (.Name "isinstance" q1) [.Name x2 q2, .Name "tuple" q3] [] q4] scope pos) spos) ℓ σ Q E := .mk fun s R m r l => by
  have hy : (F.env L).kindOf y = some .local := OF.kindOf hput.mem
  have hbk : (F.env L).blockKind = .function := by unfold Env.blockKind; show (if _ then _ else F.scope.kind) = _; rw [OF.kind]; simp
  have hpp : ((F.env L).scope.kind == .class || ((F.env L).scope.kind == .module && (F.env L).locals != (F.env L).globals)) = false := by
    show (F.scope.kind == .class || (F.scope.kind == .module && L != mainGlobals)) = false; rw [OF.kind]; rfl
  refine assign_comp2 isRefV (hsw _ hbk hy) hh hfree hcell hkind hnames hx1 hx2 hd1 hd2 hy hpp ?_
  have hN : We Γ A st F L (.Name lv pl) ℓ σ (fun W σ1 => W = .obj j ∧ σ1 = σ) E := We.name OF ha ⟨rfl, rfl⟩
  refine hN.use r l fun v s1 W σ1 R1 P hv hW l1 => ?_
  obtain ⟨rfl, rfl⟩ := hW
  (obtain ⟨_, rfl⟩ := VR.inv hv)
  obtain ⟨its, ep, er, ho, hvs⟩ := P.rel.list hj
  have hk := kids_vrs hvs hall
  have hlen : (its.map (seqAt s1.heap)).length = its.length := by simp
  refine ⟨_, its, its.map (seqAt s1.heap), m, rfl, isList_listOf ho, by rw [hk.1]; exact Nat.le_trans hsz sizeLim_le, l1.fr.ns, fun k v hkv => ?_, fun C v s₂ m₂ E' hv hn hm hkp => ?_, fun D h' tk hD hp hn hkp => ?_⟩
  · have hlt : k < Vs.length := by rw [← hvs.1]; exact (List.getElem?_eq_some_iff.mp hkv).1
    obtain ⟨Ws, hWs, _⟩ := hall Vs[k] (List.getElem_mem hlt)
    have := hvs.2 k v _ hkv (List.getElem?_eq_getElem hlt)
    rw [hWs] at this
    obtain ⟨t, items, rfl, ht, hv⟩ := this.isTup
    exact ⟨t, items.toArray, rfl, ht, by rw [List.getElem?_map, hkv, Option.map_some, seqAt_tup ht]⟩
  · obtain ⟨t, items, hti, hvi, hti2⟩ := hv
    obtain ⟨k, hkv⟩ := List.getElem?_of_mem hti2
    have hlt : k < Vs.length := by rw [← hvs.1]; exact (List.getElem?_eq_some_iff.mp hkv).1
    obtain ⟨Ws, hWs, hws⟩ := hall Vs[k] (List.getElem_mem hlt)
    have := hvs.2 k _ _ hkv (List.getElem?_eq_getElem hlt)
    rw [hWs] at this
    obtain ⟨t', us, et, ht', hu⟩ := this.isTup
    cases et
    have e1 : items = us.toArray := by
      obtain ⟨o, a1, _, n, a2⟩ := hti
      obtain ⟨o', b1, _, n', b2⟩ := ht'
      rw [a1] at b1; cases b1; rw [a2] at b2; cases b2; rfl
    subst e1
    have hvi' : v ∈ us := by simpa using hvi
    obtain ⟨i, hi'⟩ := List.getElem?_of_mem hvi'
    have hlt2 : i < Ws.length := by rw [← hu.1]; exact (List.getElem?_eq_some_iff.mp hi').1
    have hvr := hu.2 i v _ hi' (List.getElem?_eq_getElem hlt2)
    obtain ⟨b, hb⟩ := Option.isSome_iff_exists.mp (hws Ws[i] (List.getElem_mem hlt2))
    rw [(isRef_of hvr hb).1]
    exact ev_isTup O g1 g2 hkind hx2 hi ht hd2 (fun b o e => hkp b o (l1.fr.keep b o e)) hn hm (hvr.gr (R' := R1) ⟨Nat.le_refl _, fun _ _ => rfl, fun _ _ => rfl, fun a items hpt => by obtain ⟨o, a1, a2⟩ := hpt; exact ⟨o, hkp _ _ a1, a2⟩⟩) hb
  · have hGt : (its.map (seqAt s1.heap)).take its.length = its.map (seqAt s1.heap) := List.take_of_length_le (by simp)
    rw [hGt] at hp
    obtain ⟨ep', hD'⟩ := hp
    have kk : KeepsL (some L) s1.heap h' := fun b o e hX => hkp b o (fun q => hX (congrArg some q)) e
    have r' := P.rel.keepsL (d := s1.drawn) (tk := tk) rfl l.hB l1.fr.ns hn kk l1.fr.above
    have E1 := KeepsL.ext P.rel rfl l1.fr.ns hn kk
    obtain ⟨f1, f2, f3⟩ := P.fresh hD
    have r2 := r'.enter (a := D) (b := D) (ao := .list (Vs.flatMap kids)) f1 f2 f3 (.list (by rw [Mp.set_r, Mp.set_m]) (by rw [Mp.set_m]; exact hD') (VRs.gr Gr.set (hk.ext E1)))
    have E2' : Ext (some L) σ1.length R1 s1.heap (σ1.length + 1) (R1.set σ1.length D D) h' := E1.set hD (by rw [hD']; rfl)
    have hlen2 : (σ1 ++ [AObj.list (Vs.flatMap kids)]).length = σ1.length + 1 := by simp
    refine ⟨.next, ℓ', σ1 ++ [.list (Vs.flatMap kids)], R1.set σ1.length D D, _, r2, ⟨⟨hn, fun b o e => kk b o (l1.fr.keep b o e) (fun q => ?_), l1.fr.above⟩, l.hB, fun k x kd W e1 e2 => ?_⟩, ?_, .next, hq⟩
    · cases q; have := get_none_of O.bh l.hB; rw [this] at e; cases e
    · rw [hlen2]
      rcases hput.get OF.nodup k x kd W e1 e2 with ⟨rfl, rfl⟩ | ⟨q1, q2⟩
      · refine ⟨.ref D, by simp, ?_⟩
        have := VR.obj (h := h') (r := (R1.set σ1.length D D).r) (n := σ1.length + 1) σ1.length (by exact Nat.le_refl _)
        rwa [Mp.set_r] at this
      · obtain ⟨v', hv', hr'⟩ := l1.loc k x kd W e1 q2
        exact ⟨v', by simp [q1, hv'], (hr'.ext E1).gr Gr.set⟩
    · rw [hlen2]; exact P.ext.trans E2'
end
end
section
open Builtin Builtin.Str
mutual
noncomputable def hgt : V → Nat
  | .tup ws => 1 + hgts ws
  | _ => 0
noncomputable def hgts : List V → Nat
  | [] => 0
  | w :: ws => max (hgt w) (hgts ws)
end
mutual
noncomputable def siz : V → Nat
  | .tup ws => 1 + sizs ws
  | _ => 0
noncomputable def sizs : List V → Nat
  | [] => 0
  | w :: ws => siz w + sizs ws
end
mutual
noncomputable def dat : V → Bool
  | .tup ws => dats ws
  | .int _ => true
  | .str _ => true
  | _ => false
noncomputable def dats : List V → Bool
  | [] => true
  | w :: ws => dat w && dats ws
end
theorem dats_mem {ws : List V} (h : dats ws = true) : ∀ w ∈ ws, dat w = true := by
  induction ws with
  | nil => exact fun _ hx => nomatch hx
  | cons w ws ih =>
    rw [dats, Bool.and_eq_true] at h
    exact List.forall_mem_cons.mpr ⟨h.1, ih h.2⟩
theorem dat_isTup {w : V} (h : dat w = true) : (isTupV w).isSome = true := by cases w <;> first | rfl | (simp [dat] at h)
theorem Plain.of {w : V} (h : dat w = true) (ht : isT w = true) : Plain w := by
  cases w <;> first | cases ht | skip
  rename_i ws
  rw [dat] at h
  exact ⟨ws, rfl, fun w hw => dat_isTup (dats_mem h w hw)⟩
theorem hgts_mem {ws : List V} {n : Nat} (h : hgts ws ≤ n) : ∀ w ∈ ws, hgt w ≤ n := by
  induction ws with
  | nil => exact fun _ hx => nomatch hx
  | cons w ws ih =>
    rw [hgts] at h
    exact List.forall_mem_cons.mpr ⟨(Nat.max_le.mp h).1, ih (Nat.max_le.mp h).2⟩
theorem sizs_append (a b : List V) : sizs (a ++ b) = sizs a + sizs b := by
  induction a with
  | nil => exact (Nat.zero_add _).symm
  | cons x a ih => show siz x + sizs (a ++ b) = siz x + sizs a + sizs b; rw [ih, Nat.add_assoc]
theorem sizs_filter (a : List V) : sizs (a.filter isT) ≤ sizs a := by
  induction a with
  | nil => exact Nat.le_refl _
  | cons x a ih =>
    by_cases h : isT x = true
    · rw [List.filter_cons_of_pos h]; exact Nat.add_le_add_left ih _
    · rw [List.filter_cons_of_neg h]; exact Nat.le_trans ih (Nat.le_add_left _ _)
theorem kids_siz (x : V) : sizs (kids x) ≤ siz x := by
  cases x <;> first | (show sizs [] ≤ _; simp [sizs]; done) | skip
  rename_i ws
  have := sizs_filter ws
  show sizs (ws.filter isT) ≤ _
  rw [siz]; (exact ar307 this)
theorem flat_siz (a : List V) : sizs (a.flatMap kids) ≤ sizs a := by
  induction a with
  | nil => exact Nat.le_refl _
  | cons x a ih => rw [List.flatMap_cons, sizs_append]; exact Nat.add_le_add (kids_siz x) ih
theorem len_siz (a : List V) (h : ∀ w ∈ a, isT w = true) : a.length ≤ sizs a := by
  induction a with
  | nil => exact Nat.le_refl _
  | cons x a ih =>
    have hx : 1 ≤ siz x := by
      have hx := h x (.head _)
      cases x <;> first | exact Nat.le_add_right _ _ | exact nomatch hx
    rw [List.length_cons, Nat.add_comm]
    exact Nat.add_le_add hx (ih fun w hw => h w (.tail _ hw))
structure Lvl (n : Nat) (Vs : List V) : Prop where
  all : ∀ W ∈ Vs, isT W = true ∧ dat W = true ∧ hgt W ≤ n
  small : sizs Vs ≤ 500000
theorem Lvl.nil {Vs} (h : Lvl 0 Vs) : Vs = [] := by
  cases Vs with
  | nil => rfl
  | cons w ws =>
    obtain ⟨h1, h2, h3⟩ := h.all w (.head _)
    cases w <;> first | cases h1 | skip
    rw [hgt] at h3; (first | lia | omega)
theorem Lvl.next {n Vs} (h : Lvl (n + 1) Vs) : Lvl n (Vs.flatMap kids) := by
  refine ⟨fun W hW => ?_, Nat.le_trans (flat_siz Vs) h.small⟩
  obtain ⟨w, hw, hk⟩ := List.mem_flatMap.mp hW
  obtain ⟨h1, h2, h3⟩ := h.all w hw
  cases w <;> first | cases h1 | skip
  rename_i ws
  rw [dat] at h2
  rw [hgt] at h3
  obtain ⟨m1, m2⟩ := List.mem_filter.mp (show W ∈ ws.filter isT from hk)
  exact ⟨m2, dats_mem h2 W m1, hgts_mem (by exact ar319 h3) W m1⟩
noncomputable abbrev thW : Stmt := stI (bT 19) 1
section
variable {Γ : Cx} {A : Around} {st : List Env} {F : Fn} {L : Addr} {ℓ : List (Option V)} {σ : List AObj} {E : Int → Prop} {b : Nat}
theorem l_high {P : Fl → List (Option V) → List AObj → Prop} (O : Γ.Ok) (X : KF Γ.K Γ.w.params Γ.prog) (hA : AOk A (fIsTooHigh.env L :: st) b) {nd : V} {r : List (Option V)}
    (hP : ∀ σ' j (k : Int), Pre σ σ' → k ≤ 200 → P .next (some nd :: some (.obj j) :: some (.int k) :: r) σ') :
    ∀ (n : Nat) (Vs : List V) (σ1 : List AObj) (j : Nat) (k : Int), Lvl n Vs → k + n ≤ 200 → Pre σ σ1 → σ1[j]? = some (.list Vs) → Wl Γ A st fIsTooHigh L (whT thW) (whB thW) (some nd :: some (.obj j) :: some (.int k) :: r) σ1 P E := by
  have OF := X.isTooHigh.ok
  intro n
  induction n with
  | zero =>
    intro Vs σ1 j k hV hk hp hj
    cases hV.nil
    exact Wl.stop hA.frames (Wt.andF (Wt.cmp O (b_lenL O X OF (by repeat constructor) (We.name OF (by repeat constructor) ⟨_, _, rfl, hj, by simp, We.cint (.gt false (by simp) ⟨rfl, rfl, hP _ _ _ hp (by exact ar288 hk)⟩)⟩))))
  | succ n ih =>
    intro Vs σ1 j k hV hk hp hj
    have hls : Vs.length ≤ 500000 := Nat.le_trans (len_siz Vs fun w hw => (hV.all w hw).1) hV.small
    by_cases h0 : Vs = []
    · subst h0
      exact Wl.stop hA.frames (Wt.andF (Wt.cmp O (b_lenL O X OF (by repeat constructor) (We.name OF (by repeat constructor) ⟨_, _, rfl, hj, by simp, We.cint (.gt false (by simp) ⟨rfl, rfl, hP _ _ _ hp (by exact ar205 hk)⟩)⟩))))
    · have hpos : 0 < Vs.length := List.length_pos_iff.mpr h0
      refine Wl.go hA.frames (Wt.andT (Wt.cmp O (b_lenL O X OF (by repeat constructor) (We.name OF (by repeat constructor) ⟨_, _, rfl, hj, by unfold sizeLim; (exact Nat.le_trans (by assumption) (by decide)), We.cint (.gt true (by simpa using hpos) ⟨rfl, ?_⟩)⟩))))
      refine Wt.cmp O (We.name OF (by repeat constructor) (We.gname O OF (by repeat constructor) X.MOST_HEIGHT (.le true (by simp; (exact ar205 hk)) ⟨rfl, ?_⟩)))
      have hN := hV.next
      have hls2 : (Vs.flatMap kids).length ≤ 500000 := Nat.le_trans (len_siz _ fun w hw => (hN.all w hw).1) hN.small
      refine Wx.cons (Ws.comp2 O OF hA.handled X.bisinstance X.ttuple (by repeat constructor) hj (fun W hW => Plain.of (hV.all W hW).2.1 (hV.all W hW).1) (by unfold sizeLim; (exact Nat.le_trans (by assumption) (by decide))) (.tail .head) ?_
        (fun env h1 h2 => by show (pure (env.blockKind == .function && env.kindOf "level" == some .local && _ && _) : Sem Bool) = _; rw [h1, h2]; rfl)
        (by decide) (by decide) rfl (by decide) rfl rfl rfl rfl (by decide) (by decide))
      refine Wx.cons (Ws.augName OF (W := .int k) (by repeat constructor) (We.cint ⟨rfl, _, _, _, rfl, rfl, .tail (.tail .head), Wx.nil ?_⟩))
      exact ih _ _ _ _ hN (by push_cast at hk; (exact ar232 hk)) hp.app get_last
theorem c_tooHigh {Q : V → List AObj → Prop} {W : V} (O : Γ.Ok) (X : KF Γ.K Γ.w.params Γ.prog) (hA : AOk A st (b + 1)) (ht : isT W = true) (hd : dat W = true) (hh : hgt W ≤ 150) (hs : siz W ≤ 500000) (hq : ∀ σ', Pre σ σ' → Q (.bool false) σ') : Wc Γ A st (.glob 95) [W] σ Q E := by
  have OF := X.isTooHigh.ok
  refine Wc.fn O hA X.isTooHigh rfl fun L A' hA' hL => ?_
  refine Wx.cons (Ws.assignSwap (names := ["level", "count"]) hA'.handled (We.tuple (by decide) (Wes.cons (We.list (Wes.cons (We.name OF (by repeat constructor) (Wes.nil ⟨by simp, Wes.cons (We.cint (Wes.nil ⟨by simp, _, rfl, by simp, ?_⟩))⟩)))))) (by intro; rfl) (by rfl))
  refine Wa.bind OF ⟨_, .tail (.tail .head), ?_⟩
  refine Wa.bind OF ⟨_, .tail .head, ?_⟩
  refine Wx.cons (Ws.while (l_high O X hA' (fun σ' j k hp hk => ?_) 150 [W] _ σ.length _ ⟨fun w hw => ?_, by simpa [sizs] using hs⟩ (by decide) Pre.refl.app get_last))
  · exact Wx.cons (Ws.ret (We.cmp O (We.name OF (by repeat constructor) (We.gname O OF (by repeat constructor) X.MOST_HEIGHT (.gt false (by simp; (assumption)) (hq _ hp))))))
  · rw [List.mem_singleton] at hw; subst hw; exact ⟨ht, hd, hh⟩
end
end
section
open Builtin Builtin.Str
section
variable {Γ : Cx} {A : Around} {st : List Env} {F : Fn} {L : Addr} {ℓ : List (Option V)} {σ : List AObj} {E : Int → Prop} {i t q j : Nat} {d : Int} {vs : List V} {b : Nat} {D : Nat → Prop} {n v : PySem.Str} {W : V} {tk : Tk} {Q : V → List AObj → Prop}
theorem x_tInit {F : Fn} (OF : FnOk F) (O : Γ.Ok) (X : KF Γ.K Γ.w.params Γ.prog) (hF : F = fTInit) (h : σ[j]? = some (.inst cPars [])) (hq : Q .none (σ.set j (.inst cPars (parsFs t 0 0)))) :
    Wx Γ A st fTInit L (bM 21 0) [some (.obj j), some (.obj t)] σ (RetK Q) E := by
  subst hF
  refine Wx.cons (Ws.assignAttr O (We.name OF (by repeat constructor) (We.name OF .head ⟨_, _, _, _, rfl, h, .nil, by simp, X.spTokens, ?_⟩)))
  refine Wx.cons (Ws.assignAttr O (We.cint (We.name OF .head ⟨_, _, _, _, rfl, set_get h, .tail (by show ("tokens" : PySem.Str) ≠ "place"; decide) .nil, by simp, X.spPlace, ?_⟩)))
  refine Wx.cons (Ws.assignAttr O (We.cint (We.name OF .head ⟨_, _, _, _, rfl, set_get (set_get h), .tail (by show ("tokens" : PySem.Str) ≠ "depth"; decide) (.tail (by show ("place" : PySem.Str) ≠ "depth"; decide) .nil), by simp, X.spDepth, ?_⟩)))
  rw [List.set_set, List.set_set]
  exact Wx.nil hq
theorem c_pars (O : Γ.Ok) (X : KF Γ.K Γ.w.params Γ.prog) (hA : AOk A st (b + 2)) (hq : Q (.obj σ.length) (σ ++ [.inst cPars (parsFs t 0 0)])) : Wc Γ A st (.glob cPars) [.obj t] σ Q E := by
  refine .of_Wk (Wk.make O hA X.clPars fun A' hA' => ?_)
  refine Wk.fn O hA' X.tInit rfl fun L A2 hA2 hL => x_tInit X.tInit.ok O X rfl get_last ?_
  exact ⟨rfl, by rw [set_last]; exact hq⟩
end
structure FitN (W : V) : Prop where
  tup : isT W = true
  dat : dat W = true
  hgt : hgt W ≤ 150
  siz : siz W ≤ 500000
theorem okFin (e : Int) : OkNt (.fin e) := ⟨rfl, rfl, trivial⟩
noncomputable def CWh (p : Pt) (N : Nat) : Prop := ∀ (Γ : Cx) (A : Around) (st : List Env) (σ : List AObj) (E : Int → Prop) (Q : V → List AObj → Prop) (i t q : Nat) (d e : Int) (vs : List V) (D : Nat → Prop) (TS ts : List Tk), Γ.Ok → KF Γ.K Γ.w.params Γ.prog → AOk A st N →
  Rdy σ i t q d vs D TS ts (.fin e) → PT p ts → FitN (node p) → 0 ≤ d → d + dep p ≤ 37 →
  (∀ σ', PreI i σ σ' → Q (node p) σ') → Wc Γ A st (.glob 313) [.obj i] σ Q E
section
variable {Γ : Cx} {A : Around} {st : List Env} {F : Fn} {L : Addr} {ℓ : List (Option V)} {σ : List AObj} {E : Int → Prop} {i t q j : Nat} {d : Int} {vs : List V} {b : Nat} {D : Nat → Prop} {n v : PySem.Str} {W : V} {tk : Tk} {Q : V → List AObj → Prop}
theorem c_whole {p : Pt} {N : Nat} (CE : CEx p N) (hN : 7 ≤ N) : CWh p (N + 1) := by
  intro Γ A st σ E Q i t q d e vs D TS ts O X hA hR hpt hf hd0 hd hq
  have OF := X.whole.ok
  obtain ⟨m, rfl⟩ : ∃ m, N = m + 7 := ⟨N - 7, by (exact (Nat.sub_add_cancel (by assumption)).symm)⟩
  refine Wc.fn O hA X.whole rfl fun L A' hA' hL => ?_
  refine Wx.cons (Ws.assign OF (We.mcall O OF .head hR.atp.inst X.mExpr (pars_no (by decide)) X.kExpr (Wes.nil (Wf.of_Wc O (CE _ _ _ _ _ _ i t q d vs D TS ts (.fin e) O X hA' hR hpt (okFin e) rfl hd0 hd fun σ2 hp2 ha2 => ⟨_, .tail .head, ?_⟩)))))
  have hR2 : Rdy σ2 i t (q + ts.length) d vs D TS [] (.fin e) := Rdy.skip (t1 := ts) (t2 := []) (by simpa using hR) hp2 ha2
  obtain ⟨W2, hW2, hr2⟩ := hR2.get (k := 0) (tk := .fin e) rfl
  cases hr2
  refine Wx.cons (Ws.ifF (Wt.cmp O (We.mcall O OF .head ha2.inst X.mKind (pars_no (by decide)) X.kKind (Wes.nil (Wf.of_Wc O (c_kind O X (b := m + 6) hA' ha2 hW2 (We.cstr (.neS true rfl ⟨rfl, Wx.nil ?_⟩))))))))
  refine Wx.cons (Ws.ifF (Wt.plain (We.call O (We.gname O OF (by repeat constructor) X.gistoohigh ⟨X.kIsTooHigh, Wes.cons (We.name OF (by repeat constructor) (Wes.nil (Wf.of_Wc O (c_tooHigh O X (b := m + 6) hA' hf.tup hf.dat hf.hgt hf.siz fun σ3 hp3 => ⟨rfl, Wx.nil ?_⟩))))⟩))))
  exact Wx.cons (Ws.ret (We.name OF (by repeat constructor) (hq _ (hp2.pre hp3))))
theorem c_wholeEnd {p : Pt} {N : Nat} {TS ts : List Tk} {nt : Tk} (CE : CEx p N) (hN : 7 ≤ N) (O : Γ.Ok) (X : KF Γ.K Γ.w.params Γ.prog) (hA : AOk A st (N + 1)) (hR : Rdy σ i t q d vs D TS ts nt) (hpt : PT p ts) (hn : OkNt nt) (hl : lvl nt = 0) (hk : (kindOf nt == ("end" : PySem.Str)) = false) (hd0 : 0 ≤ d) (hd : d + dep p ≤ 37)
    (hE : E (spotOf nt)) : Wc Γ A st (.glob 313) [.obj i] σ Q E := by
  have OF := X.whole.ok
  obtain ⟨m, rfl⟩ : ∃ m, N = m + 7 := ⟨N - 7, by (exact (Nat.sub_add_cancel (by assumption)).symm)⟩
  refine Wc.fn O hA X.whole rfl fun L A' hA' hL => ?_
  refine Wx.cons (Ws.assign OF (We.mcall O OF .head hR.atp.inst X.mExpr (pars_no (by decide)) X.kExpr (Wes.nil (Wf.of_Wc O (CE _ _ _ _ _ _ i t q d vs D TS ts nt O X hA' hR hpt hn hl hd0 hd fun σ2 hp2 ha2 => ⟨_, .tail .head, ?_⟩)))))
  have hR2 : Rdy σ2 i t (q + ts.length) d vs D TS [] nt := Rdy.skip (t1 := ts) (t2 := []) (by simpa using hR) hp2 ha2
  obtain ⟨W2, hW2, hr2⟩ := hR2.get (k := 0) (tk := nt) rfl
  obtain ⟨v1, rfl, -⟩ := hr2.shape
  refine Wx.cons (Ws.ifT (Wt.cmp O (We.mcall O OF .head ha2.inst X.mKind (pars_no (by decide)) X.kKind (Wes.nil (Wf.of_Wc O (c_kind O X (b := m + 6) hA' ha2 hW2 (We.cstr (.neS false hk ⟨rfl, ?_⟩))))))))
  exact Wx.cons (Ws.raise O OF hA' (by (exact Nat.le_of_lt (by assumption))) X.exc (by repeat constructor) X.gTextFault X.kTF (Wes.cons (We.cstr (Wes.cons (We.mcall O OF .head ha2.inst X.mSpot (pars_no (by decide)) X.kSpot (Wes.nil (Wf.of_Wc O (c_spot O X (b := m + 6) hA' ha2 hW2 (Wes.nil ⟨_, _, rfl, hE⟩)))))))))
end
end
section
open Builtin Builtin.Str
theorem PreI.toPre {σ a b : List AObj} {k : Nat} (h : PreI k a b) (p : Pre σ a) (hk : σ.length ≤ k) : Pre σ b := by
  obtain ⟨ao, J, rfl⟩ := h
  exact (p.set hk).trans ⟨J, rfl⟩
theorem RpT.pre {σ σ' : List AObj} {D : Nat → Prop} {t v} (h : RpT σ D t v) (p : Pre σ σ') : RpT σ' D t v := h.mono fun j us hd hj => ⟨hd, p.get hj⟩
theorem RpP.pre {σ σ' : List AObj} {D : Nat → Prop} {ps l vs} (h : RpP σ D ps l vs) (p : Pre σ σ') : RpP σ' D ps l vs := h.mono fun j us hd hj => ⟨hd, p.get hj⟩
theorem RpL.pre {σ σ' : List AObj} {D : Nat → Prop} {ts vs} (h : RpL σ D ts vs) (p : Pre σ σ') : RpL σ' D ts vs := h.mono fun j us hd hj => ⟨hd, p.get hj⟩
mutual
noncomputable def tkn : Pt → Nat
  | .num .. => 1
  | .nam .. => 1
  | .str .. => 1
  | .call _ _ one => tkn one + 3
  | .bin _ _ one other => tkn one + tkn other + 3
end
theorem PT.len {p ts} (x : PT p ts) : ts.length = tkn p :=
  x.rec (motive_1 := fun p ts _ => ts.length = tkn p) (motive_2 := fun _ _ _ => True) rfl rfl (fun _ _ => rfl) (fun _ ih => by simp [tkn, ih]) (fun _ _ i1 i2 => by simp [tkn, i1, i2]; (first | lia | omega)) trivial (fun _ _ _ _ => trivial)
noncomputable abbrev snF : Stmt := stI (bM 22 6) 1
section
variable {Γ : Cx} {A : Around} {st : List Env} {F : Fn} {L : Addr} {ℓ : List (Option V)} {σ : List AObj} {E : Int → Prop} {i t q j : Nat} {d : Int} {vs : List V} {b : Nat} {D : Nat → Prop} {W : V} {tk : Tk} {xp : Pos}
theorem step_str {P : Fl → List (Option V) → List AObj → Prop} {a : Int} {s : PySem.Str} {acc : V} {k : Nat} {me ps op ol oi : Option V} {r : List (Option V)} {rem : List V} (O : Γ.Ok) (X : KF Γ.K Γ.w.params Γ.prog) (hA : AOk A (fStringNode.env L :: st) b) (hj : σ[j]? = some (.list rem)) (hk : rem[k]? = some (.str s))
    (h : Wfr Γ A st fStringNode L "piece" xp (.list j (k + 1)) (whB snF) (me :: some (.int a) :: ps :: some (jNode a acc (sNode a s)) :: some (.str s) :: some (sNode a s) :: oi :: r) σ P E) :
    Wfr Γ A st fStringNode L "piece" xp (.list j k) (whB snF) (me :: some (.int a) :: ps :: some acc :: op :: ol :: oi :: r) σ P E := by
  have OF := X.stringNode.ok
  refine Wfr.step O OF hA.frames (.list hj hk) ⟨_, .tail (.tail (.tail (.tail .head))), ?_⟩
  refine Wx.cons (Ws.ifT (Wt.plain (We.call O (We.gname O OF (by repeat constructor) X.bisinstance ⟨trivial, Wes.cons (We.name OF (by repeat constructor) (Wes.cons (We.gname O OF (by repeat constructor) X.tstr (Wes.nil (Wf.isStr rfl ⟨rfl, ?_⟩)))))⟩))))
  refine Wx.cons (Ws.assign OF (We.tuple (by decide) (Wes.cons (We.cstr (Wes.cons (We.name OF (by repeat constructor) (Wes.cons (We.name OF (by repeat constructor) (Wes.nil ⟨by simp, _, .tail (.tail (.tail (.tail (.tail .head)))), Wx.nil ?_⟩)))))))))
  refine Wx.cons (Ws.assign OF (We.tuple (by decide) (Wes.cons (We.cstr (Wes.cons (We.name OF (by repeat constructor) (Wes.cons (We.cstr (Wes.cons (We.name OF (by repeat constructor) (Wes.cons (We.name OF (by repeat constructor) (Wes.nil ⟨by simp, _, .tail (.tail (.tail .head)), Wx.nil ?_⟩)))))))))))))
  exact h
theorem step_obj {P : Fl → List (Option V) → List AObj → Prop} {p : Pt} {N : Nat} {a e : Int} {acc : V} {k kk t q : Nat} {ps op ol oi : Option V} {r : List (Option V)} {rem us vs : List V} {ts : List Tk} (O : Γ.Ok) (X : KF Γ.K Γ.w.params Γ.prog) (hA : AOk A (fStringNode.env L :: st) N) (hN : 5 ≤ N) (CW : CWh p N) (hf : FitN (node p)) (hn : tkn p ≤ 100000)
    (ha : AtP σ i t q d vs) (hd0 : 0 ≤ d) (hd : d + dep p ≤ 37) (hj : σ[j]? = some (.list rem)) (hk : rem[k]? = some (.obj kk)) (hu : σ[kk]? = some (.list us)) (hr : RpL σ D (ts ++ [.fin e]) us) (hpt : PT p ts)
    (h : ∀ σ' oi', Pre σ σ' → Wfr Γ A st fStringNode L "piece" xp (.list j (k + 1)) (whB snF) (some (.obj i) :: some (.int a) :: ps :: some (jNode a acc (cNode a (node p))) :: some (.obj kk) :: some (cNode a (node p)) :: oi' :: r) σ' P E) :
    Wfr Γ A st fStringNode L "piece" xp (.list j k) (whB snF) (some (.obj i) :: some (.int a) :: ps :: some acc :: op :: ol :: oi :: r) σ P E := by
  have OF := X.stringNode.ok
  obtain ⟨m, rfl⟩ : ∃ m, N = m + 5 := ⟨N - 5, by (exact (Nat.sub_add_cancel (by assumption)).symm)⟩
  refine Wfr.step O OF hA.frames (.list hj hk) ⟨_, .tail (.tail (.tail (.tail .head))), ?_⟩
  refine Wx.cons (Ws.ifF (Wt.plain (We.call O (We.gname O OF (by repeat constructor) X.bisinstance ⟨trivial, Wes.cons (We.name OF (by repeat constructor) (Wes.cons (We.gname O OF (by repeat constructor) X.tstr (Wes.nil (Wf.isStrList hu ⟨rfl, ?_⟩)))))⟩))))
  refine Wx.cons (Ws.assign OF (We.call O (We.gname O OF (by repeat constructor) X.gExprParser ⟨X.kPars, Wes.cons (We.name OF (by repeat constructor) (Wes.nil (Wf.of_Wc O (c_pars O X (b := m + 3) hA ⟨_, .tail (.tail (.tail (.tail (.tail (.tail .head))))), ?_⟩))))⟩)))
  have ha1 : AtP (σ ++ [AObj.inst cPars (parsFs kk 0 0)]) i t q d vs := ⟨get_app ha.inst, get_app ha.toks, ha.small⟩
  refine Wx.cons (Ws.assignAttr O (b_depth O X OF .head ha1.inst (We.name OF (by repeat constructor) ⟨_, _, _, _, rfl, get_last, .pdepth, by simp, X.spDepth, ?_⟩)))
  rw [set_last]
  have hkl := lt_of_some hu
  have hR : Rdy (σ ++ [AObj.inst cPars (parsFs kk 0 d)]) σ.length kk 0 d us D (ts ++ [.fin e]) ts (.fin e) :=
    ⟨⟨get_last, get_app hu, by rw [hr.len]; simp [hpt.len]; (exact Nat.le_trans (by assumption) (by decide))⟩, hr.pre ⟨_, rfl⟩, [], [], by simp, rfl⟩
  refine Wx.cons (Ws.assign OF (We.tuple (by decide) (Wes.cons (We.cstr (Wes.cons (We.name OF (by repeat constructor) (Wes.cons (We.cstr (Wes.cons (We.tuple (by decide) (Wes.cons (We.mcall O OF (by repeat constructor) hR.atp.inst X.mWhole (pars_no (by decide)) X.kWhole (Wes.nil (Wf.of_Wc O (CW _ _ _ _ _ _ σ.length kk 0 d e us D (ts ++ [.fin e]) ts O X hA hR hpt hf hd0 hd fun σ' hp => Wes.nil ⟨by simp, Wes.nil ⟨by simp, _, .tail (.tail (.tail (.tail (.tail .head)))), Wx.nil ?_⟩⟩)))))))))))))))
  refine Wx.cons (Ws.assign OF (We.tuple (by decide) (Wes.cons (We.cstr (Wes.cons (We.name OF (by repeat constructor) (Wes.cons (We.cstr (Wes.cons (We.name OF (by repeat constructor) (Wes.cons (We.name OF (by repeat constructor) (Wes.nil ⟨by simp, _, .tail (.tail (.tail .head)), Wx.nil ?_⟩)))))))))))))
  exact h σ' _ (hp.toPre Pre.refl.app (Nat.le_refl _))
end
end
section
open Builtin Builtin.Str
theorem PTs.len {ps tps} (x : PTs ps tps) : tps.length = ps.length :=
  x.rec (motive_1 := fun _ _ _ => True) (motive_2 := fun ps tps _ => tps.length = ps.length) trivial trivial (fun _ _ => trivial) (fun _ _ => trivial) (fun _ _ _ _ => trivial) rfl (fun _ _ _ ih => congrArg (· + 1) ih)
theorem RpP.len {σ : List AObj} {D : Nat → Prop} {ps l vs} (x : RpP σ D ps l vs) : vs.length = 2 * ps.length + 1 :=
  x.rec (motive_1 := fun _ _ _ => True) (motive_2 := fun ps _ vs _ => vs.length = 2 * ps.length + 1) (motive_3 := fun _ _ _ => True) trivial trivial trivial trivial (fun _ _ _ _ => trivial) rfl (fun _ _ _ _ _ ih => by rw [List.length_cons, List.length_cons, ih, List.length_cons, Nat.mul_succ]) trivial (fun _ _ _ _ => trivial)
theorem drop_head {α : Type} {l : List α} {k : Nat} {x : α} {r : List α} (h : l.drop k = x :: r) : l[k]? = some x ∧ l.drop (k + 1) = r := by
  constructor
  · have : (l.drop k)[0]? = some x := by rw [h]; rfl
    rw [List.getElem?_drop] at this; simpa using this
  · have : (l.drop k).drop 1 = r := by rw [h]; rfl
    rw [List.drop_drop] at this; exact this
theorem drop_nil {α : Type} {l : List α} {k : Nat} (h : l.drop k = []) : l[k]? = none := by
  have := List.drop_eq_nil_iff.mp h
  exact List.getElem?_eq_none this
section
variable {Γ : Cx} {A : Around} {st : List Env} {F : Fn} {L : Addr} {ℓ : List (Option V)} {σ : List AObj} {E : Int → Prop} {i t q j : Nat} {d : Int} {vs : List V} {b : Nat} {D : Nat → Prop} {W : V} {tk : Tk} {xp : Pos}
theorem l_sn {P : Fl → List (Option V) → List AObj → Prop} {N : Nat} {a : Int} {t q : Nat} {pcs : Option V} {r : List (Option V)} {rem vs0 : List V} {last : PySem.Str} (O : Γ.Ok) (X : KF Γ.K Γ.w.params Γ.prog) (hA : AOk A (fStringNode.env L :: st) N) (hN : 5 ≤ N)
    (ha : AtP σ i t q d vs0) (hd0 : 0 ≤ d) (hj : σ[j]? = some (.list rem)) :
    ∀ (ps : List (PySem.Str × Pt)) (tps : List (PySem.Str × List Tk)) (vs : List V) (acc : V) (k : Nat) (σ1 : List AObj) (op ol oi : Option V), Pre σ σ1 → PTs ps tps → RpP σ1 D tps last vs → (∀ x ∈ ps, CWh x.2 N ∧ FitN (node x.2) ∧ tkn x.2 ≤ 100000 ∧ d + dep x.2 ≤ 37) → rem.drop k = vs →
      (∀ σ' op ol oi, Pre σ σ' → P .next (some (.obj i) :: some (.int a) :: pcs :: some (strFold a acc ps last) :: op :: ol :: oi :: r) σ') →
      Wfr Γ A st fStringNode L "piece" xp (.list j k) (whB snF) (some (.obj i) :: some (.int a) :: pcs :: some acc :: op :: ol :: oi :: r) σ1 P E := by
  intro ps
  induction ps with
  | nil =>
    intro tps vs acc k σ1 op ol oi hp hpt hr hc hdr hP
    cases hpt
    cases hr
    obtain ⟨e1, e2⟩ := drop_head hdr
    refine step_str O X hA (hp.get hj) e1 (Wfr.done O hA.handled (.list (hp.get hj) (drop_nil e2)) ?_)
    have := hP σ1 (some (.str last)) (some (sNode a last)) oi hp
    rw [strFold] at this
    exact this
  | cons x ps ih =>
    intro tps vs acc k σ1 op ol oi hp hpt hr hc hdr hP
    cases hpt with
    | @cons s p ts e _ tps' h1 h2 =>
    cases hr with
    | @cons _ _ _ _ kk us vs' hd hk hl hr' =>
    obtain ⟨e1, e2⟩ := drop_head hdr
    obtain ⟨e3, e4⟩ := drop_head e2
    obtain ⟨c1, c2, c3, c4⟩ := hc (s, p) (.head _)
    refine step_str O X hA (hp.get hj) e1 (step_obj (N := N) O X hA hN c1 c2 c3 ⟨hp.get ha.inst, hp.get ha.toks, ha.small⟩ hd0 c4 (hp.get hj) e3 hk hl h1 fun σ' oi' hp' => ?_)
    refine ih tps' vs' _ (k + 1 + 1) σ' _ _ _ (hp.trans hp') h2 (hr'.pre hp') (fun x hx => hc x (.tail _ hx)) e4 fun σ'' op ol oi hp'' => ?_
    have := hP σ'' op ol oi hp''
    rw [strFold] at this
    exact this
theorem c_stringNode {Q : V → List AObj → Prop} {N : Nat} {a : Int} {ps : List (PySem.Str × Pt)} {tps : List (PySem.Str × List Tk)} {last : PySem.Str} {us : List V} (O : Γ.Ok) (X : KF Γ.K Γ.w.params Γ.prog) (hA : AOk A st (N + 1)) (hN : 5 ≤ N)
    (ha : AtP σ i t q d vs) (hd0 : 0 ≤ d) (hj : σ[j]? = some (.list us)) (hr : RpP σ D tps last us) (hpt : PTs ps tps) (hl : ps.length ≤ 1000) (hc : ∀ x ∈ ps, CWh x.2 N ∧ FitN (node x.2) ∧ tkn x.2 ≤ 100000 ∧ d + dep x.2 ≤ 37)
    (hq : ∀ σ', Pre σ σ' → Q (strNode a ps last) σ') : Wc Γ A st (.glob 306) [.obj i, .int a, .obj j] σ Q E := by
  have OF := X.stringNode.ok
  have hus : us.length ≤ 3000 := by rw [hr.len, hpt.len]; (exact ar308 hl)
  refine Wc.fn O hA X.stringNode rfl fun L A' hA' hL => ?_
  have fin : ∀ (acc : V) σ' op ol oi, Q acc σ' → Wx Γ A' st fStringNode L [stI (bM 22 6) 2] (some (.obj i) :: some (.int a) :: some (.obj j) :: some acc :: op :: ol :: oi :: List.replicate 3 none) σ' (RetK Q) E := fun acc σ' op ol oi h =>
    Wx.cons (Ws.ret (We.name OF (by repeat constructor) h))
  cases hpt with
  | nil =>
    cases hr
    refine Wx.cons (Ws.assign OF (We.tuple (by decide) (Wes.cons (We.cstr (Wes.cons (We.name OF (by repeat constructor) (Wes.cons (We.item O (We.name OF (by repeat constructor) (We.cint (.list hj 0 rfl (by simp) rfl (Wes.nil ⟨by simp, _, .tail (.tail (.tail .head)), ?_⟩))))))))))))
    refine Wx.cons (Ws.for O (We.slice (We.name OF (by repeat constructor) (Wpart.some (We.cint ⟨1, rfl, Wpart.none (.list rfl hj (by simp [sizeLim]) ⟨_, .list get_last, ?_⟩)⟩)))))
    refine Wfr.done O hA'.handled (.list get_last (by rw [pick_tail]; rfl)) ?_
    refine fin _ _ _ _ _ ?_
    have := hq (σ ++ [.list (pick [.str last] (some 1) none)]) (Pre.refl.app)
    rw [strNode] at this
    exact this
  | @cons s p ts e ps' tps' h1 h2 =>
    cases hr with
    | @cons _ _ _ _ kk us' vs' hd hk hl' hr' =>
    obtain ⟨c1, c2, c3, c4⟩ := hc (s, p) (.head _)
    refine Wx.cons (Ws.assign OF (We.tuple (by decide) (Wes.cons (We.cstr (Wes.cons (We.name OF (by repeat constructor) (Wes.cons (We.item O (We.name OF (by repeat constructor) (We.cint (.list hj 0 rfl (by (exact Nat.le_trans (by assumption) (by decide))) rfl (Wes.nil ⟨by simp, _, .tail (.tail (.tail .head)), ?_⟩))))))))))))
    refine Wx.cons (Ws.for O (We.slice (We.name OF (by repeat constructor) (Wpart.some (We.cint ⟨1, rfl, Wpart.none (.list rfl hj (by unfold sizeLim; (exact Nat.le_trans (by assumption) (by decide))) ⟨_, .list get_last, ?_⟩)⟩)))))
    have hp1 : Pre σ (σ ++ [AObj.list (pick (.str s :: .obj kk :: vs') (some 1) none)]) := Pre.refl.app
    have hg1 : (σ ++ [AObj.list (pick (.str s :: .obj kk :: vs') (some 1) none)])[σ.length]? = some (.list (.obj kk :: vs')) := by rw [get_last, pick_tail]; rfl
    generalize σ ++ [AObj.list (pick (.str s :: .obj kk :: vs') (some 1) none)] = σ1 at hp1 hg1 ⊢
    refine step_obj (N := N) O X hA' hN c1 c2 c3 ⟨hp1.get ha.inst, hp1.get ha.toks, ha.small⟩ hd0 c4 hg1 rfl (hp1.get hk) (hl'.pre hp1) h1 fun σ' oi' hp' => ?_
    have hp2 := hp1.trans hp'
    refine l_sn (N := N) O X hA' hN ⟨hp2.get ha.inst, hp2.get ha.toks, ha.small⟩ hd0 (hp'.get hg1) ps' tps' vs' _ 1 σ' _ _ _ .refl h2 (hr'.pre hp2) (fun x hx => hc x (.tail _ hx)) rfl fun σ'' op ol oi hp'' => ?_
    refine fin _ _ _ _ _ ?_
    have := hq σ'' (hp2.trans hp'')
    rw [strNode] at this
    exact this
theorem c_atomStr {N : Nat} {a : Int} {ps : List (PySem.Str × Pt)} {last : PySem.Str} (hN : 6 ≤ N) (hl : ps.length ≤ 1000) (hc : ∀ x ∈ ps, CWh x.2 N ∧ FitN (node x.2) ∧ tkn x.2 ≤ 100000) : CFn 299 (.str a ps last) (N + 2) := by
  intro Γ A st σ E Q i t q d vs D TS ts nt O X hA hR hpt hnt hd0 hd hq
  have OF := X.atom.ok
  cases hpt with
  | @str _ _ _ tps h =>
  obtain ⟨W, hW, hr⟩ := hR.get (k := 0) (tk := .str tps last a) rfl
  cases hr with
  | @str _ _ _ j us hdj hj hrp =>
  have hi := lt_of_some hR.atp.inst
  have hij : j ≠ i := fun q => by rw [q, hR.atp.inst] at hj; cases hj
  obtain ⟨m, rfl⟩ : ∃ m, N = m + 1 := ⟨N - 1, by (exact ar26 hN)⟩
  refine Wc.fn O hA X.atom rfl fun L A' hA' hL => x_atom O X hA' hR.atp hW ?_ rfl
  refine Wx.cons (Ws.ifF (Wt.cmp O (We.name OF (by repeat constructor) (We.cstr (.eqS false rfl ⟨rfl, Wx.nil ?_⟩)))))
  refine Wx.cons (Ws.ifT (Wt.cmp O (We.name OF (by repeat constructor) (We.cstr (.eqS true rfl ⟨rfl, ?_⟩)))))
  have ha1 : AtP (σ.set i (.inst cPars (parsFs t (q + 0 + 1 : Nat) d))) i t (q + 1) d vs := hR.atp.set
  have hp1 : PreI i σ (σ.set i (.inst cPars (parsFs t (q + 0 + 1 : Nat) d))) := (PreI.refl hi).setI hi
  have hm : ∀ k us, D k → σ[k]? = some (.list us) → D k ∧ (σ.set i (.inst cPars (parsFs t (q + 0 + 1 : Nat) d)))[k]? = some (.list us) := fun k us hd hk => ⟨hd, hp1.get hk fun q => by rw [q, hR.atp.inst] at hk; cases hk⟩
  refine Wx.cons (Ws.ret (We.mcall O OF .head hR.atp.inst X.mStringNode (pars_no (by decide)) X.kStringNode (Wes.cons (We.name OF (by repeat constructor) (Wes.cons (We.mcall O OF .head hR.atp.inst X.mTake (pars_no (by decide)) X.kTake (Wes.nil (Wf.of_Wc O (c_take O X (b := m + 1) hA' hR.atp hW (Wes.nil (Wf.of_Wc O ?_)))))))))))
  rw [dep] at hd
  refine c_stringNode (N := m + 1) O X hA' (by (exact Nat.le_of_lt (by assumption))) ha1 hd0 (hm _ _ hdj hj).2 (hrp.mono hm) h hl (fun x hx => ?_) fun σ' hp2 => ?_
  · obtain ⟨c1, c2, c3⟩ := hc x hx
    refine ⟨c1, c2, c3, ?_⟩
    have : dep x.2 + 1 ≤ deps ps := by
      clear hc h hl hd hq hrp hj
      induction ps with
      | nil => cases hx
      | cons y ys ih =>
        obtain ⟨s, p⟩ := y
        rw [deps]
        rcases List.mem_cons.mp hx with rfl | hx
        · show dep p + 1 ≤ _; (exact ar168)
        · have := ih hx; (first | lia | omega)
    (exact ar159 hd this)
  · have := hq σ' (hp1.pre hp2) ⟨hp2.get ha1.inst, hp2.get ha1.toks, ha1.small⟩
    rw [node] at this
    exact this
end
mutual
noncomputable def fits : Pt → Prop
  | .num .. => True
  | .nam .. => True
  | .str _ ps _ => ps.length ≤ 1000 ∧ fitss ps
  | .call _ _ one => fits one
  | .bin _ _ one other => fits one ∧ fits other
noncomputable def fitss : List (PySem.Str × Pt) → Prop
  | [] => True
  | (_, p) :: r => FitN (node p) ∧ tkn p ≤ 100000 ∧ fits p ∧ fitss r
end
mutual
noncomputable def frm : Pt → Nat
  | .num .. => 10
  | .nam .. => 10
  | .str _ ps _ => frms ps + 10
  | .call _ _ one => frm one + 10
  | .bin _ _ one other => max (frm one) (frm other) + 10
noncomputable def frms : List (PySem.Str × Pt) → Nat
  | [] => 10
  | (_, p) :: r => max (frm p + 10) (frms r)
end
theorem CFn.mono {f p N N'} (h : CFn f p N) (hN : N ≤ N') : CFn f p N' := fun Γ A st σ E Q i t q d vs D TS ts nt O X hA => h Γ A st σ E Q i t q d vs D TS ts nt O X (hA.le hN)
theorem CWh.mono {p N N'} (h : CWh p N) (hN : N ≤ N') : CWh p N' := fun Γ A st σ E Q i t q d e vs D TS ts O X hA => h Γ A st σ E Q i t q d e vs D TS ts O X (hA.le hN)
theorem frm_ge : ∀ p, 10 ≤ frm p
  | .num .. => by simp [frm]
  | .nam .. => by simp [frm]
  | .str .. => by simp [frm]
  | .call .. => by simp [frm]
  | .bin .. => by simp [frm]
theorem frms_ge : ∀ ps, 10 ≤ frms ps
  | [] => by simp [frms]
  | (_, p) :: r => by have := frms_ge r; rw [frms]; (exact ar134)
mutual
theorem all_atom : ∀ p, fits p → CFn 299 p (frm p)
  | .num k a, _ => by rw [frm]; exact c_atomNum.mono (by decide)
  | .nam s a, _ => by rw [frm]; exact c_atomNam.mono (by decide)
  | .str a ps last, h => by
    rw [fits] at h
    rw [frm]
    have hg := frms_ge ps
    exact (c_atomStr (N := frms ps) (by exact ar359 hg) h.1 (all_whs ps h.2)).mono (by exact ar389)
  | .call a s one, h => by
    rw [fits] at h
    rw [frm]
    have hg := frm_ge one
    have c0 := all_atom one h
    have c1 := c_operand c0 (by exact ar358 hg)
    have c2 := c_expr1 c1 (by exact ar350 hg)
    have c3 := c_exprs c2 (by exact ar299 hg)
    exact (c_atomCall c3 (by exact ar265 hg)).mono (by exact ar317)
  | .bin a plus one other, h => by
    rw [fits] at h
    rw [frm]
    have hg := frm_ge one
    have c1 := c_operand ((all_atom one h.1).mono (Nat.le_max_left (frm one) (frm other))) (by exact ar143 hg)
    have c2 := c_operand ((all_atom other h.2).mono (Nat.le_max_right (frm one) (frm other))) (by exact ar143 hg)
    have c3 := c_expr2 (plus := plus) (a := a) c1 c2 (by exact ar141 hg)
    exact (c_atomBin c3 (by exact ar124 hg)).mono (by exact ar348)
theorem all_whs : ∀ ps, fitss ps → ∀ x ∈ ps, CWh x.2 (frms ps) ∧ FitN (node x.2) ∧ tkn x.2 ≤ 100000
  | [], _ => fun x hx => nomatch hx
  | (s, p) :: r, h => by
    rw [fitss] at h
    obtain ⟨h1, h2, h3, h4⟩ := h
    intro x hx
    rcases List.mem_cons.mp hx with rfl | hx
    · have hg := frm_ge p
      have c0 := all_atom p h3
      have c1 := c_operand c0 (by exact ar358 hg)
      have c2 := c_expr1 c1 (by exact ar350 hg)
      refine ⟨(c_whole c2 (by exact ar304 hg)).mono (by rw [frms]; (exact ar131)), h1, h2⟩
    · obtain ⟨c1, c2, c3⟩ := all_whs r h4 x hx
      exact ⟨c1.mono (by rw [frms]; (exact ar156)), c2, c3⟩
end
theorem all_expr (p : Pt) (h : fits p) : CEx p (frm p + 2) := by
  have hg := frm_ge p
  exact c_expr1 (c_operand (all_atom p h) (by exact ar358 hg)) (by exact ar350 hg)
theorem all_whole (p : Pt) (h : fits p) : CWh p (frm p + 3) := by
  have hg := frm_ge p
  exact c_whole (all_expr p h) (by exact ar228 hg)
end
section
open Builtin Builtin.Str
section
variable {Γ : Cx} {A : Around} {st : List Env} {F : Fn} {L : Addr} {ℓ : List (Option V)} {σ : List AObj} {E : Int → Prop} {i t q j : Nat} {d : Int} {vs : List V} {b : Nat} {D : Nat → Prop} {W : V} {tk : Tk} {xp : Pos} {Q : V → List AObj → Prop} {x : PySem.Str}
theorem Wc.no {fv : V} {args : List V} (h : Wc Γ A st fv args σ (fun _ _ => False) E) : Wc Γ A st fv args σ Q E := h.mono (fun _ _ f => f.elim) fun _ x => x
theorem c_exprOf {n : Nat} (O : Γ.Ok) (X : KF Γ.K Γ.w.params Γ.prog) (hA : AOk A st (n + 3)) (hx : x.length ≤ 900000)
    (h : ∀ A' st', AOk A' st' (n + 2) → Wc Γ A' st' (.glob 173) [.obj σ.length] (σ ++ [.inst cScan (scanFs x 0 x.length 0)]) (fun W σ2 => ∃ j, W = .obj j ∧ Wc Γ A' st' (.glob 313) [.obj σ2.length] (σ2 ++ [.inst cPars (parsFs j 0 0)]) Q E) E) :
    Wc Γ A st (.glob 409) [.str x] σ Q E := by
  have OF := X.exprOf.ok
  refine Wc.fn O hA X.exprOf rfl fun L A' hA' hL => ?_
  have h' := h A' _ hA'
  refine Wx.cons (Ws.ret (We.meth O (We.call O (We.gname O OF (by repeat constructor) X.gExprParser ⟨X.kPars, Wes.cons (We.meth O (We.call O (We.gname O OF (by repeat constructor) X.gScanner ⟨X.kScan, Wes.cons (We.name OF .head (Wes.cons (We.cint (Wes.cons (We.call O (We.gname O OF (by repeat constructor) X.blen ⟨trivial, Wes.cons (We.name OF .head (Wes.nil (Wf.lenStr (by unfold sizeLim; (exact Nat.le_trans (by assumption) (by decide))) ?_)))⟩))))))⟩)))⟩))))
  refine Wes.nil (Wf.of_Wc O (c_scan3 O X (b := n) hA' ?_))
  refine ⟨_, .inst get_last X.mTokens (scan_no (by decide)), X.kTokens, Wes.nil (Wf.of_Wc O (h'.mono (fun W σ2 hpat => ?_) fun _ x => x))⟩
  obtain ⟨j, e, hw⟩ := hpat
  subst e
  refine Wes.nil (Wf.of_Wc O (c_pars O X (b := n) hA' ?_))
  exact ⟨_, .inst get_last X.mWhole (pars_no (by decide)), X.kWhole, Wes.nil (Wf.of_Wc O hw)⟩
theorem win_all (hx : x.length ≤ 900000) : Win x x.length x.cps.toList [] := ⟨[], by simp, by simp; rfl, by unfold sizeLim; (exact Nat.le_trans (by assumption) (by decide))⟩
theorem atW_all : atW (x.length : Int) x.cps.toList = 0 := by unfold atW; show ((x.cps.size : Nat) : Int) - _ = 0; simp
theorem c_exprOfOk {k n : Nat} {p : Pt} {tp : List Tk} (O : Γ.Ok) (X : KF Γ.K Γ.w.params Γ.prog) (hA : AOk A st (n + 3)) (hn1 : 10 * k ≤ n + 2) (hn2 : frm p + 3 ≤ n + 2) (hx : x.length ≤ 900000)
    (ht : TokLv k [] x.length 0 x.cps.toList (tp ++ [.fin x.length])) (hpt : PT p tp) (hf : fits p) (hN : FitN (node p)) (htk : tkn p ≤ 100000) (hd : dep p ≤ 37) (hq : ∀ σ', Pre σ σ' → Q (node p) σ') : Wc Γ A st (.glob 409) [.str x] σ Q E := by
  refine c_exprOf O X hA hx fun A' st' hA' => ?_
  refine c_tokLv k Γ A' st' _ _ _ σ.length x x.length 0 x.cps.toList [] _ O X (hA'.le hn1) (by rw [atW_all]; exact get_last) (win_all hx) hx ht fun σ2 j vs hp hj hg hr => ⟨j, rfl, ?_⟩
  have hp0 := hp.toPre (σ := σ) Pre.refl.app (Nat.le_refl _)
  refine (all_whole p hf).mono hn2 Γ A' st' _ _ _ σ2.length j 0 0 x.length vs _ _ tp O X hA' ⟨⟨get_last, get_app hg, by rw [hr.len]; simp [hpt.len]; (exact Nat.le_trans (by assumption) (by decide))⟩, hr.pre ⟨_, rfl⟩, [], [], by simp, rfl⟩ hpt hN (by decide) (by exact ar336 hd) fun σ3 hp3 => hq σ3 (hp3.toPre hp0.app hp0.le)
theorem c_exprOfOpen {k n : Nat} {w1 : List Nat} {PS : List (PySem.Str × List Tk)} {l : PySem.Str} (O : Γ.Ok) (X : KF Γ.K Γ.w.params Γ.prog) (hA : AOk A st (n + 3)) (hn1 : 10 * k + 10 ≤ n + 2) (hx : x.length ≤ 900000)
    (hsk : Skp [] x.cps.toList (34 :: w1)) (hs : BodyR (TokLv k) [] x.length 0 [] w1 PS l none) (hE : E (atW x.length (34 :: w1))) : Wc Γ A st (.glob 409) [.str x] σ Q E := by
  refine c_exprOf O X hA hx fun A' st' hA' => ?_
  exact c_tokensE (c_tokLv k) O X (hA'.le hn1) (by rw [atW_all]; exact get_last) (win_all hx) hx hsk hs hE
theorem c_exprOfEnd {k n : Nat} {p : Pt} {tp post : List Tk} {nt : Tk} (O : Γ.Ok) (X : KF Γ.K Γ.w.params Γ.prog) (hA : AOk A st (n + 3)) (hn1 : 10 * k ≤ n + 2) (hn2 : frm p + 3 ≤ n + 2) (hx : x.length ≤ 900000)
    (ht : TokLv k [] x.length 0 x.cps.toList (tp ++ nt :: post)) (hpl : post.length ≤ 100) (hpt : PT p tp) (hf : fits p) (htk : tkn p ≤ 100000) (hd : dep p ≤ 37) (hnt : OkNt nt) (hl : lvl nt = 0) (hk : (kindOf nt == ("end" : PySem.Str)) = false)
    (hE : E (spotOf nt)) : Wc Γ A st (.glob 409) [.str x] σ Q E := by
  refine c_exprOf O X hA hx fun A' st' hA' => ?_
  refine c_tokLv k Γ A' st' _ _ _ σ.length x x.length 0 x.cps.toList [] _ O X (hA'.le hn1) (by rw [atW_all]; exact get_last) (win_all hx) hx ht fun σ2 j vs hp hj hg hr => ⟨j, rfl, ?_⟩
  have hge := frm_ge p
  refine c_wholeEnd (N := frm p + 2) (p := p) (q := 0) (all_expr p hf) (by exact ar228 hge) O X (hA'.le (by (assumption))) ⟨⟨get_last, get_app hg, by rw [hr.len]; simp [hpt.len]; (exact ar253 hpl htk)⟩, hr.pre ⟨_, rfl⟩, [], post, by simp, rfl⟩ hpt hnt hl hk (by decide) (by exact ar336 hd) hE
theorem c_operandX {N : Nat} (O : Γ.Ok) (X : KF Γ.K Γ.w.params Γ.prog) (hA : AOk A st (N + 2)) (ha : AtP σ i t q d vs) (hv : vs[q]? = some W) (hr : RpT σ D tk W) (n1 : isNx tk "-" = false) (n2 : isNx tk "+" = false) (n3 : isNx tk "not" = false)
    (h : ∀ A' st' σ', AOk A' st' (N + 1) → AtP σ' i t q d vs → RpT σ' D tk W → Wc Γ A' st' (.glob 299) [.obj i] σ' (fun _ _ => False) E) : Wc Γ A st (.glob 285) [.obj i] σ Q E := by
  have OF := X.operand.ok
  refine Wc.fn O hA X.operand rfl fun L A' hA' hL => ?_
  refine Wx.cons (Ws.assign OF (We.list (Wes.nil ⟨by simp, _, .tail .head, ?_⟩)))
  have ha1 : AtP (σ ++ [AObj.list []]) i t q d vs := ⟨get_app ha.inst, get_app ha.toks, ha.small⟩
  have hr1 : RpT (σ ++ [AObj.list []]) D tk W := hr.pre ⟨_, rfl⟩
  refine Wx.cons (Ws.while (Wl.stop hA'.frames (Wt.or (Wt.plain (m_isNext O X OF hA' .head ha1 hv hr1 ?_)))))
  rw [n1]
  refine Wt.plain (m_isNext O X OF hA' .head ha1 hv hr1 ?_)
  rw [n2]
  refine Wt.plain (m_isNext O X OF hA' .head ha1 hv hr1 ?_)
  rw [n3]
  refine ⟨rfl, ?_⟩
  exact Wx.cons (Ws.assign OF (We.mcall O OF .head ha1.inst X.mAtom (pars_no (by decide)) X.kAtom (Wes.nil (Wf.of_Wc O (Wc.no (h A' _ _ hA' ha1 hr1))))))
theorem c_exprX {N : Nat} (O : Γ.Ok) (X : KF Γ.K Γ.w.params Γ.prog) (hA : AOk A st (N + 1)) (ha : AtP σ i t q d vs) (hd0 : 0 ≤ d) (hd : d ≤ 37) (hr : RpT σ D tk W)
    (h : ∀ A' st' σ', AOk A' st' N → AtP σ' i t q (d + 1) vs → RpT σ' D tk W → Wc Γ A' st' (.glob 285) [.obj i] σ' (fun _ _ => False) E) : Wc Γ A st (.glob 271) [.obj i] σ Q E := by
  have OF := X.expr.ok
  refine Wc.fn O hA X.expr rfl fun L A' hA' hL => ?_
  refine Wx.cons (Ws.augAttr O (We.name OF .head ⟨_, _, _, _, rfl, ha.inst, by repeat constructor, X.pDepth, rfl, We.cint ⟨rfl, _, _, rfl, rfl, _, _, _, _, rfl, ha.inst, .pdepth, by simp, X.spDepth, ?_⟩⟩))
  have ha1 : AtP (σ.set i (.inst cPars (parsFs t q (d + 1)))) i t q (d + 1) vs := ha.set
  have hr1 : RpT (σ.set i (.inst cPars (parsFs t q (d + 1)))) D tk W := hr.mono fun k us hd hk => ⟨hd, by rw [List.getElem?_set_ne]; exact hk; intro e; rw [← e, ha.inst] at hk; cases hk⟩
  refine Wx.cons (Ws.ifF (Wt.cmp O (b_depth O X OF .head ha1.inst (We.gname O OF (by repeat constructor) X.MOST_DEPTH (.gt false (by simp; (exact ar312 hd)) ⟨rfl, Wx.nil ?_⟩)))))
  exact Wx.cons (Ws.assignSwap (names := ["parts", "waiting"]) hA'.handled (We.tuple (by decide) (Wes.cons (We.list (Wes.cons (We.mcall O OF .head ha1.inst X.mOperand (pars_no (by decide)) X.kOperand (Wes.nil (Wf.of_Wc O (Wc.no (h A' _ _ hA' ha1 hr1)))))))))  (by intro; rfl) (by rfl))
theorem c_wholeX {N : Nat} (O : Γ.Ok) (X : KF Γ.K Γ.w.params Γ.prog) (hA : AOk A st (N + 1)) (ha : AtP σ i t q d vs) (h : ∀ A' st', AOk A' st' N → Wc Γ A' st' (.glob 271) [.obj i] σ (fun _ _ => False) E) : Wc Γ A st (.glob 313) [.obj i] σ Q E := by
  have OF := X.whole.ok
  refine Wc.fn O hA X.whole rfl fun L A' hA' hL => ?_
  exact Wx.cons (Ws.assign OF (We.mcall O OF .head ha.inst X.mExpr (pars_no (by decide)) X.kExpr (Wes.nil (Wf.of_Wc O (Wc.no (h A' _ hA'))))))
theorem c_atomFin {N : Nat} {a : Int} (O : Γ.Ok) (X : KF Γ.K Γ.w.params Γ.prog) (hA : AOk A st (N + 10)) (ha : AtP σ i t q d vs) (hv : vs[q]? = some W) (hr : RpT σ D (.fin a) W) (hE : E a) : Wc Γ A st (.glob 299) [.obj i] σ Q E := by
  have OF := X.atom.ok
  have hr' := hr
  cases hr
  refine Wc.fn O hA X.atom rfl fun L A' hA' hL => x_atom O X hA' ha hv ?_ rfl
  refine Wx.cons (Ws.ifF (Wt.cmp O (We.name OF (by repeat constructor) (We.cstr (.eqS false rfl ⟨rfl, Wx.nil ?_⟩)))))
  refine Wx.cons (Ws.ifF (Wt.cmp O (We.name OF (by repeat constructor) (We.cstr (.eqS false rfl ⟨rfl, Wx.nil ?_⟩)))))
  refine Wx.cons (Ws.ifF (Wt.cmp O (We.name OF (by repeat constructor) (We.cstr (.eqS false rfl ⟨rfl, Wx.nil ?_⟩)))))
  refine Wx.cons (Ws.ifF (Wt.orF2 (Wt.cmp O (We.name OF (by repeat constructor) (We.cstr (.eqS false rfl ⟨rfl, Wt.cmp O (We.name OF (by repeat constructor) (We.cstr (.eqS false rfl ⟨rfl, Wx.nil ?_⟩)))⟩))))))
  refine Wx.cons (Ws.ifF (Wt.plain (We.mcall O OF .head ha.inst X.mTook (pars_no (by decide)) X.kTook (Wes.cons (We.cstr (Wes.nil (Wf.of_Wc O (c_tookF O X (b := N + 7) hA' ha hv hr' rfl ⟨rfl, Wx.nil ?_⟩))))))))
  refine Wx.cons (Ws.ifF (Wt.plain (We.mcall O OF .head ha.inst X.mTook (pars_no (by decide)) X.kTook (Wes.cons (We.cstr (Wes.nil (Wf.of_Wc O (c_tookF O X (b := N + 7) hA' ha hv hr' rfl ⟨rfl, Wx.nil ?_⟩))))))))
  refine Wx.cons (Ws.ifF (Wt.plain (We.mcall O OF .head ha.inst X.mTook (pars_no (by decide)) X.kTook (Wes.cons (We.cstr (Wes.nil (Wf.of_Wc O (c_tookF O X (b := N + 7) hA' ha hv hr' rfl ⟨rfl, Wx.nil ?_⟩))))))))
  refine Wx.cons (Ws.ifF (Wt.plain (We.mcall O OF .head ha.inst X.mTook (pars_no (by decide)) X.kTook (Wes.cons (We.cstr (Wes.nil (Wf.of_Wc O (c_tookF O X (b := N + 7) hA' ha hv hr' rfl ⟨rfl, Wx.nil ?_⟩))))))))
  refine Wx.cons (Ws.ifF (Wt.plain (We.mcall O OF .head ha.inst X.mTook (pars_no (by decide)) X.kTook (Wes.cons (We.cstr (Wes.nil (Wf.of_Wc O (c_tookF O X (b := N + 7) hA' ha hv hr' rfl ⟨rfl, Wx.nil ?_⟩))))))))
  refine Wx.cons (Ws.ifF (Wt.plain (We.mcall O OF .head ha.inst X.mTook (pars_no (by decide)) X.kTook (Wes.cons (We.cstr (Wes.nil (Wf.of_Wc O (c_tookF O X (b := N + 7) hA' ha hv hr' rfl ⟨rfl, Wx.nil ?_⟩))))))))
  exact Wx.cons (Ws.raise O OF hA' (by exact ar422) X.exc (by repeat constructor) X.gTextFault X.kTF (Wes.cons (We.cstr (Wes.cons (We.name OF (by repeat constructor) (Wes.nil ⟨_, _, rfl, hE⟩))))))
theorem c_wholeFin {N : Nat} {a : Int} (O : Γ.Ok) (X : KF Γ.K Γ.w.params Γ.prog) (hA : AOk A st (N + 13)) (ha : AtP σ i t q d vs) (hd0 : 0 ≤ d) (hd : d ≤ 37) (hv : vs[q]? = some W) (hr : RpT σ D (.fin a) W) (hE : E a) : Wc Γ A st (.glob 313) [.obj i] σ Q E :=
  c_wholeX (N := N + 12) O X hA ha fun A1 st1 h1 => c_exprX (N := N + 11) O X h1 ha hd0 hd hr fun A2 st2 σ2 h2 ha2 hr2 => c_operandX (N := N + 9) O X h2 ha2 hv hr2 rfl rfl rfl fun A3 st3 σ3 h3 ha3 hr3 => c_atomFin (N := N) O X h3 ha3 hv hr3 hE
theorem c_atomStrX {N : Nat} {a e : Int} {s last : PySem.Str} (O : Γ.Ok) (X : KF Γ.K Γ.w.params Γ.prog) (hA : AOk A st (N + 15)) (ha : AtP σ i t q d vs) (hd0 : 0 ≤ d) (hd : d ≤ 37) (hv : vs[q]? = some W) (hr : RpT σ D (.str [(s, [.fin e])] last a) W) (hE : E e) : Wc Γ A st (.glob 299) [.obj i] σ Q E := by
  have OF := X.atom.ok
  cases hr with
  | @str _ _ _ j us hdj hj hrp =>
  cases hrp with
  | @cons _ _ _ _ kk us' vs' hdk hk hl hr' =>
  have hi := lt_of_some ha.inst
  refine Wc.fn O hA X.atom rfl fun L A' hA' hL => x_atom O X hA' ha hv ?_ rfl
  refine Wx.cons (Ws.ifF (Wt.cmp O (We.name OF (by repeat constructor) (We.cstr (.eqS false rfl ⟨rfl, Wx.nil ?_⟩)))))
  refine Wx.cons (Ws.ifT (Wt.cmp O (We.name OF (by repeat constructor) (We.cstr (.eqS true rfl ⟨rfl, ?_⟩)))))
  have ha1 : AtP (σ.set i (.inst cPars (parsFs t (q + 1 : Nat) d))) i t (q + 1) d vs := ha.set
  have hm : ∀ (k : Nat) (us : List V), σ[k]? = some (AObj.list us) → (σ.set i (.inst cPars (parsFs t (q + 1 : Nat) d)))[k]? = some (AObj.list us) := fun k us hk => by rw [List.getElem?_set_ne]; exact hk; intro e; rw [← e, ha.inst] at hk; cases hk
  refine Wx.cons (Ws.ret (We.mcall O OF .head ha.inst X.mStringNode (pars_no (by decide)) X.kStringNode (Wes.cons (We.name OF (by repeat constructor) (Wes.cons (We.mcall O OF .head ha.inst X.mTake (pars_no (by decide)) X.kTake (Wes.nil (Wf.of_Wc O (c_take O X (b := N + 13) hA' ha hv (Wes.nil (Wf.of_Wc O ?_)))))))))))
  have hj1 := hm _ _ hj
  have hk1 := hm _ _ hk
  have hl1 : RpL (σ.set i (.inst cPars (parsFs t (q + 1 : Nat) d))) D [.fin e] us' := hl.mono fun k us hd hk => ⟨hd, hm k us hk⟩
  generalize σ.set i (.inst cPars (parsFs t (q + 1 : Nat) d)) = σ1 at ha1 hj1 hk1 hl1 ⊢
  have OF := X.stringNode.ok
  refine Wc.fn O (b := N + 13) hA' X.stringNode rfl fun L2 A2 hA2 hL2 => ?_
  cases hr'
  refine Wx.cons (Ws.assign OF (We.tuple (by decide) (Wes.cons (We.cstr (Wes.cons (We.name OF (by repeat constructor) (Wes.cons (We.item O (We.name OF (by repeat constructor) (We.cint (.list hj1 0 rfl (by simp) rfl (Wes.nil ⟨by simp, _, .tail (.tail (.tail .head)), ?_⟩))))))))))))
  refine Wx.cons (Ws.for O (We.slice (We.name OF (by repeat constructor) (Wpart.some (We.cint ⟨1, rfl, Wpart.none (.list rfl hj1 (by simp [sizeLim]) ⟨_, .list get_last, ?_⟩)⟩)))))
  have hp1 : Pre σ1 (σ1 ++ [AObj.list (pick [.str s, .obj kk, .str last] (some 1) none)]) := Pre.refl.app
  have hg1 : (σ1 ++ [AObj.list (pick [.str s, .obj kk, .str last] (some 1) none)])[σ1.length]? = some (.list [.obj kk, .str last]) := by rw [get_last, pick_tail]; rfl
  have hk2 := hp1.get hk1
  have hl2 := hl1.pre hp1
  have ha2 : AtP (σ1 ++ [AObj.list (pick [.str s, .obj kk, .str last] (some 1) none)]) i t (q + 1) d vs := ⟨get_app ha1.inst, get_app ha1.toks, ha1.small⟩
  generalize σ1 ++ [AObj.list (pick [.str s, .obj kk, .str last] (some 1) none)] = σ2 at hp1 hg1 hk2 hl2 ha2 ⊢
  refine Wfr.step O OF hA2.frames (.list hg1 rfl) ⟨_, .tail (.tail (.tail (.tail .head))), ?_⟩
  refine Wx.cons (Ws.ifF (Wt.plain (We.call O (We.gname O OF (by repeat constructor) X.bisinstance ⟨trivial, Wes.cons (We.name OF (by repeat constructor) (Wes.cons (We.gname O OF (by repeat constructor) X.tstr (Wes.nil (Wf.isStrList hk2 ⟨rfl, ?_⟩)))))⟩))))
  refine Wx.cons (Ws.assign OF (We.call O (We.gname O OF (by repeat constructor) X.gExprParser ⟨X.kPars, Wes.cons (We.name OF (by repeat constructor) (Wes.nil (Wf.of_Wc O (c_pars O X (b := N + 11) hA2 ⟨_, .tail (.tail (.tail (.tail (.tail (.tail .head))))), ?_⟩))))⟩)))
  have ha3 : AtP (σ2 ++ [AObj.inst cPars (parsFs kk 0 0)]) i t (q + 1) d vs := ⟨get_app ha2.inst, get_app ha2.toks, ha2.small⟩
  refine Wx.cons (Ws.assignAttr O (b_depth O X OF .head ha3.inst (We.name OF (by repeat constructor) ⟨_, _, _, _, rfl, get_last, .pdepth, by simp, X.spDepth, ?_⟩)))
  rw [set_last]
  cases hl2 with
  | @cons _ v0 _ _ hv0 hnil =>
  cases hnil
  have ha4 : AtP (σ2 ++ [AObj.inst cPars (parsFs kk 0 d)]) σ2.length kk 0 d [v0] := ⟨get_last, get_app hk2, by simp⟩
  exact Wx.cons (Ws.assign OF (We.tuple (by decide) (Wes.cons (We.cstr (Wes.cons (We.name OF (by repeat constructor) (Wes.cons (We.cstr (Wes.cons (We.tuple (by decide) (Wes.cons (We.mcall O OF (by repeat constructor) ha4.inst X.mWhole (pars_no (by decide)) X.kWhole (Wes.nil (Wf.of_Wc O (Wc.no (c_wholeFin (N := N) (W := v0) O X hA2 ha4 hd0 hd rfl (hv0.pre ⟨_, rfl⟩) hE))))))))))))))))
theorem c_exprOfEmpty {k n : Nat} {a e : Int} {s last : PySem.Str} {post : List Tk} (O : Γ.Ok) (X : KF Γ.K Γ.w.params Γ.prog) (hA : AOk A st (n + 3)) (hn1 : 10 * k ≤ n + 2) (hn2 : 20 ≤ n) (hx : x.length ≤ 900000)
    (ht : TokLv k [] x.length 0 x.cps.toList (.str [(s, [.fin e])] last a :: post)) (hpl : post.length ≤ 100) (hE : E e) : Wc Γ A st (.glob 409) [.str x] σ Q E := by
  refine c_exprOf O X hA hx fun A' st' hA' => ?_
  refine c_tokLv k Γ A' st' _ _ _ σ.length x x.length 0 x.cps.toList [] _ O X (hA'.le hn1) (by rw [atW_all]; exact get_last) (win_all hx) hx ht fun σ2 j vs hp hj hg hr => ⟨j, rfl, ?_⟩
  have hlen := hr.len
  cases hr with
  | @cons _ v0 _ vs' hv0 hrest =>
  have ha : AtP (σ2 ++ [AObj.inst cPars (parsFs j 0 0)]) σ2.length j 0 0 (v0 :: vs') := ⟨get_last, get_app hg, by rw [hlen]; simp; (exact Nat.le_trans (by assumption) (by decide))⟩
  exact c_wholeX (N := 20) O X (hA'.le (by exact ar349 hn2)) ha fun A1 st1 h1 => c_exprX (N := 19) O X h1 ha (by decide) (by decide) (hv0.pre ⟨_, rfl⟩) fun A2 st2 σ2 h2 ha2 hr2 => c_operandX (N := 17) O X h2 ha2 rfl hr2 rfl rfl rfl fun A3 st3 σ3 h3 ha3 hr3 => c_atomStrX (N := 3) O X (h3.le (by exact Nat.le_refl _)) ha3 (by decide) (by decide) rfl hr3 hE
end
end
section
open Builtin Builtin.Str
noncomputable abbrev feedFs (c : Nat) (pl : Nat) (lf : Int) (t : PySem.Str) : List (PySem.Str × V) := [("cells", .obj c), ("place", .int pl), ("left", .int lf), ("text", .str t)]
structure Feed (σ : List AObj) (f c pl : Nat) (lf : Int) (t : PySem.Str) : Prop where
  fd : σ[f]? = some (.dict (feedFs c pl lf t))
  cl : ∃ zs : List Int, σ[c]? = some (.list (zs.map V.int)) ∧ zs.length ≤ 1000
theorem Feed.ne {σ f c pl lf t} (h : Feed σ f c pl lf t) : c ≠ f := fun q => by
  obtain ⟨zs, h1, _⟩ := h.cl
  rw [q, h.fd] at h1; cases h1
theorem Feed.set {σ f c pl lf t pl' lf' t'} (h : Feed σ f c pl lf t) : Feed (σ.set f (.dict (feedFs c pl' lf' t'))) f c pl' lf' t' :=
  ⟨set_get h.fd, by obtain ⟨zs, h1, h2⟩ := h.cl; exact ⟨zs, by rw [List.getElem?_set_ne (Ne.symm h.ne)]; exact h1, h2⟩⟩
theorem Feed.pre {σ σ' f c pl lf t} (h : Feed σ f c pl lf t) (p : Pre σ σ') : Feed σ' f c pl lf t := ⟨p.get h.fd, by obtain ⟨zs, h1, h2⟩ := h.cl; exact ⟨zs, p.get h1, h2⟩⟩
theorem Rep.place {c pl pl' lf t} : Rep (feedFs c pl lf t) "place" (.int (pl' : Nat)) (feedFs c pl' lf t) := .tail .head
theorem Rep.left {c pl lf lf' t} : Rep (feedFs c pl lf t) "left" (.int lf') (feedFs c pl lf' t) := .tail (.tail .head)
theorem Rep.text {c pl lf t t'} : Rep (feedFs c pl lf t) "text" (.str t') (feedFs c pl lf t') := .tail (.tail (.tail .head))
noncomputable def Gap (g : List Nat) : Prop := ∃ s ∈ gapsL, g = s.cps.toList
section
variable {Γ : Cx} {A : Around} {st : List Env} {F : Fn} {L : Addr} {ℓ : List (Option V)} {σ : List AObj} {E : Int → Prop} {f c pl : Nat} {lf : Int} {t : PySem.Str} {n : PySem.Str} {b u : Nat} {p1 p2 p3 p4 : Pos}
theorem f_place {Q : V → List AObj → Prop} (O : Γ.Ok) (OF : FnOk F) (ha : At F.scope.names ℓ n (.obj f)) (h : Feed σ f c pl lf t) (hq : Q (.int pl) σ) : We Γ A st F L (.Subscript (.Name n p1) (.Constant (.str "place") u p2) p3) ℓ σ Q E :=
  We.item O (We.name OF ha (We.cstr ⟨_, _, h.fd, by repeat constructor, hq⟩))
theorem f_left {Q : V → List AObj → Prop} (O : Γ.Ok) (OF : FnOk F) (ha : At F.scope.names ℓ n (.obj f)) (h : Feed σ f c pl lf t) (hq : Q (.int lf) σ) : We Γ A st F L (.Subscript (.Name n p1) (.Constant (.str "left") u p2) p3) ℓ σ Q E :=
  We.item O (We.name OF ha (We.cstr ⟨_, _, h.fd, by repeat constructor, hq⟩))
theorem f_cells {Q : V → List AObj → Prop} (O : Γ.Ok) (OF : FnOk F) (ha : At F.scope.names ℓ n (.obj f)) (h : Feed σ f c pl lf t) (hq : Q (.obj c) σ) : We Γ A st F L (.Subscript (.Name n p1) (.Constant (.str "cells") u p2) p3) ℓ σ Q E :=
  We.item O (We.name OF ha (We.cstr ⟨_, _, h.fd, by repeat constructor, hq⟩))
theorem f_text {Q : V → List AObj → Prop} (O : Γ.Ok) (OF : FnOk F) (ha : At F.scope.names ℓ n (.obj f)) (h : Feed σ f c pl lf t) (hq : Q (.str t) σ) : We Γ A st F L (.Subscript (.Name n p1) (.Constant (.str "text") u p2) p3) ℓ σ Q E :=
  We.item O (We.name OF ha (We.cstr ⟨_, _, h.fd, by repeat constructor, hq⟩))
theorem fs_text {Q : Fl → List (Option V) → List AObj → Prop} {v : Expr} (O : Γ.Ok) (OF : FnOk F) (ha : At F.scope.names ℓ n (.obj f)) (h : We Γ A st F L v ℓ σ (fun W σ1 => ∃ c pl lf t t', W = .str t' ∧ Feed σ1 f c pl lf t ∧ Q .next ℓ (σ1.set f (.dict (feedFs c pl lf t')))) E)
    (hs : ∀ env, swapsWith v (some (.Subscript (.Name n p1) (.Constant (.str "text") u p2) p3)) p4.line env = pure false := by intro; rfl) :
    Ws Γ A st F L (.Assign [.Subscript (.Name n p1) (.Constant (.str "text") u p2) p3] v p4) ℓ σ Q E :=
  Ws.assignItem O (h.mono (fun W σ1 hpt => by obtain ⟨c, pl, lf, t, t', h1, h2, h3⟩ := hpt; subst h1; exact We.name OF ha (We.cstr ⟨_, _, _, _, rfl, rfl, h2.fd, .text, by simp, h3⟩)) fun _ x => x) hs
theorem fs_left {Q : Fl → List (Option V) → List AObj → Prop} {v : Expr} (O : Γ.Ok) (OF : FnOk F) (ha : At F.scope.names ℓ n (.obj f)) (h : We Γ A st F L v ℓ σ (fun W σ1 => ∃ c pl lf t lf', W = .int lf' ∧ Feed σ1 f c pl lf t ∧ Q .next ℓ (σ1.set f (.dict (feedFs c pl lf' t)))) E)
    (hs : ∀ env, swapsWith v (some (.Subscript (.Name n p1) (.Constant (.str "left") u p2) p3)) p4.line env = pure false := by intro; rfl) :
    Ws Γ A st F L (.Assign [.Subscript (.Name n p1) (.Constant (.str "left") u p2) p3] v p4) ℓ σ Q E :=
  Ws.assignItem O (h.mono (fun W σ1 hpt => by obtain ⟨c, pl, lf, t, t', h1, h2, h3⟩ := hpt; subst h1; exact We.name OF ha (We.cstr ⟨_, _, _, _, rfl, rfl, h2.fd, .left, by simp, h3⟩)) fun _ x => x) hs
theorem fmod_rng {i : Int} {m : Nat} (hm : 0 < m) : ∃ r : Nat, i.fmod m = r ∧ r < m := by
  have h1 : 0 ≤ i.fmod m := Int.fmod_nonneg_of_pos _ (by exact ar287 hm)
  have h2 : i.fmod m < m := Int.fmod_lt_of_pos _ (by exact ar287 hm)
  exact ⟨(i.fmod m).toNat, by (exact ar38 h1), by (exact ar33 hm h2)⟩
theorem BinK.mod {i : Int} {m : Nat} {Q : V → List AObj → Prop} (hm : 0 < m) (h : ∀ r : Nat, r < m → Q (.int r) σ) : BinK .Mod (.int i) (.int m) σ Q := by
  obtain ⟨r, e, hr⟩ := fmod_rng (i := i) hm
  exact ⟨by (exact ar383 hm), by rw [e]; exact h r hr⟩
theorem BinK.mul {i j : Int} {Q : V → List AObj → Prop} (h0 : 0 ≤ i) (h1 : i < 2 ^ 60) (h : Q (.int (i * j)) σ) : BinK .Mult (.int i) (.int j) σ Q := ⟨⟨by (exact ar254 h0), by (exact ar231 h1)⟩, h⟩
theorem c_dip {Q : V → List AObj → Prop} {m : Nat} (O : Γ.Ok) (X : KF Γ.K Γ.w.params Γ.prog) (hA : AOk A st (b + 1)) (h : Feed σ f c pl lf t) (hm : 0 < m) (hp : pl ≤ 1000000) (hq : ∀ r : Nat, r < m → Q (.int r) (σ.set f (.dict (feedFs c (pl + 1) lf t)))) : Wc Γ A st (.glob 424) [.obj f, .int m] σ Q E := by
  have OF := X.dip.ok
  refine Wc.fn O hA X.dip rfl fun L A' hA' hL => ?_
  refine Wx.cons (Ws.assign OF (f_place O OF .head h ⟨_, .tail (.tail .head), ?_⟩))
  refine Wx.cons (Ws.assignItem O (We.bin (We.name OF (by repeat constructor) (We.cint (.addI (We.name OF .head (We.cstr ⟨_, _, _, _, rfl, rfl, h.fd, .place (pl' := pl + 1), by simp, ?_⟩)))))))
  have h2 := h.set (pl' := pl + 1) (lf' := lf) (t' := t)
  generalize σ.set f (.dict (feedFs c (pl + 1) lf t)) = σ1 at h2 hq ⊢
  obtain ⟨zs, hz, hzl⟩ := h2.cl
  have last : Wx Γ A' st fDip L [stI (bT 29) 3] (some (.obj f) :: some (.int m) :: some (.int pl) :: List.replicate 1 none) σ1 (RetK Q) E := by
    refine Wx.cons (Ws.ret (We.bin (We.bin (We.bin (We.bin (We.bin (We.bin (We.cint (We.name OF (by repeat constructor) (.mul (by decide) (by decide) (We.name OF (by repeat constructor) (.mul (by exact ar322) (by exact ar258 hp) (We.name OF (by repeat constructor) (.addI (We.cint (.addI (We.cint ?_)))))))))))))))))
    exact BinK.mod (m := 89) (by decide) fun r hr => We.name OF (by repeat constructor) (.mod hm fun r' hr' => hq r' hr')
  by_cases hlt : pl < zs.length
  · refine Wx.cons (Ws.ifT (Wt.cmp O (We.name OF (by repeat constructor) (b_lenL O X OF (by repeat constructor) (f_cells O OF .head h2 ⟨_, _, rfl, hz, by simp [sizeLim]; (exact Nat.le_trans (by assumption) (by decide)), .lt true (by simpa using hlt) ⟨rfl, ?_⟩⟩)))))
    have hv : (zs.map V.int)[pl]? = some (.int zs[pl]) := by rw [List.getElem?_map, List.getElem?_eq_getElem hlt]; rfl
    exact Wx.cons (Ws.ret (We.bin (We.item O (f_cells O OF .head h2 (We.name OF (by repeat constructor) (.list hz pl rfl (by simp; (exact Nat.le_trans (by assumption) (by decide))) hv (We.name OF (by repeat constructor) (.mod hm fun r hr => hq r hr))))))))
  · exact Wx.cons (Ws.ifF (Wt.cmp O (We.name OF (by repeat constructor) (b_lenL O X OF (by repeat constructor) (f_cells O OF .head h2 ⟨_, _, rfl, hz, by simp [sizeLim]; (exact Nat.le_trans (by assumption) (by decide)), .lt false (by simpa using Nat.le_of_not_lt hlt) ⟨rfl, Wx.nil last⟩⟩)))))
theorem gaps_get {r : Nat} (hr : r < 5) : ∃ s, gapsL[r]? = some s ∧ s.length ≤ 8 := by
  have : ∀ r, (h : r < 5) → (gapsL[r]'h).length ≤ 8 := by decide
  exact ⟨gapsL[r]'hr, List.getElem?_eq_getElem (l := gapsL) hr, this r hr⟩
theorem str_len_append (a b : PySem.Str) : (a ++ b).length = a.length + b.length := by show (a.cps ++ b.cps).size = a.cps.size + b.cps.size; simp
theorem c_putL {Q : V → List AObj → Prop} {s : PySem.Str} (O : Γ.Ok) (X : KF Γ.K Γ.w.params Γ.prog) (hA : AOk A st (b + 2)) (h : Feed σ f c pl lf t) (hp : pl ≤ 1000000) (ht : t.length + s.length ≤ 900000)
    (hq : ∀ g : PySem.Str, g ∈ gapsL → g.length ≤ 8 → Q (.int ((t.length + g.length : Nat) : Int)) (σ.set f (.dict (feedFs c (pl + 1) lf (t ++ g ++ s))))) : Wc Γ A st (.glob 431) [.obj f, .str s] σ Q E := by
  have OF := X.put.ok
  refine Wc.fn O hA X.put rfl fun L A' hA' hL => ?_
  refine Wx.cons (fs_text O OF .head (We.bin (f_text O OF .head h (We.item O (We.gname O OF (by repeat constructor) X.gaps (We.call O (We.gname O OF (by repeat constructor) X.glawdip ⟨X.kDip, Wes.cons (We.name OF .head (Wes.cons (We.cint (Wes.nil (Wf.of_Wc O (c_dip O X (b := b) (m := 5) hA' h (by decide) hp fun r hr => ?_))))))⟩)))))))
  obtain ⟨g, hg, hgl⟩ := gaps_get hr
  refine .tup (by exact ar135) (by exact ar245 hr) (W := .str g) (by rw [Int.toNat_natCast, List.getElem?_map, hg]; rfl) (.addS (by unfold sizeLim; (exact ar255 ht hgl)) ⟨_, _, _, _, _, rfl, h.set, ?_⟩)
  rw [List.set_set]
  have h2 := h.set (pl' := pl + 1) (lf' := lf) (t' := t ++ g)
  refine Wx.cons (Ws.assign OF (We.call O (We.gname O OF (by repeat constructor) X.blen ⟨trivial, Wes.cons (f_text O OF .head h2 (Wes.nil (Wf.lenStr (by rw [str_len_append]; unfold sizeLim; (exact ar255 ht hgl)) ⟨_, .tail (.tail .head), ?_⟩)))⟩)))
  refine Wx.cons (fs_text O OF .head (We.bin (f_text O OF .head h2 (We.name OF (by repeat constructor) (.addS (by rw [str_len_append]; unfold sizeLim; (exact ar203 ht hgl)) ⟨_, _, _, _, _, rfl, h2, ?_⟩)))))
  rw [List.set_set]
  refine Wx.cons (Ws.ret (We.name OF (by repeat constructor) ?_))
  rw [str_len_append]
  exact hq g (List.mem_of_getElem? hg) hgl
end
end
section
open Builtin Builtin.Str
section
variable {Γ : Cx} {A : Around} {st : List Env} {F : Fn} {L : Addr} {ℓ : List (Option V)} {σ : List AObj} {E : Int → Prop} {Q : Fl → List (Option V) → List AObj → Prop}
theorem range_fact {n : Nat} (hn : n < 100) : Builtin.Range.rangeSize 0 n 1 = n ∧ Builtin.Range.small 0 n 1 = true := by
  have : ∀ n : Fin 100, Builtin.Range.rangeSize 0 (n.val : Int) 1 = (n.val : Int) ∧ Builtin.Range.small 0 (n.val : Int) 1 = true := by decide +kernel
  exact this ⟨n, hn⟩
theorem Ws.forRange {x : PySem.Str} {xp np cp pos : Pos} {a : Expr} {body : List Stmt} (O : Γ.Ok) (OF : FnOk F) (hg : Glb Γ.K "range" (.typ "range")) (hm : (("range" : PySem.Str), NameKind.globalImplicit) ∈ F.scope.names)
    (h : We Γ A st F L a ℓ σ (fun W σ1 => ∃ n : Nat, n < 100 ∧ W = .int n ∧ Wfr Γ A st F L x xp (.range 0 n) body ℓ σ1 Q E) E)
    (hs : ∀ env x, foldedSetIterable (.Call (.Name "range" np) [a] [] cp) env x = pure x := by intro _ _; rfl) (hp : ∀ env, (starEach [a] env).any (·.1) = false := by intro; rfl) (he : ∀ env, starEach [a] env = [(false, eval a env)] := by intro; rfl) :
    Ws Γ A st F L (.For (.Name x xp) (.Call (.Name "range" np) [a] [] cp) body [] pos) ℓ σ Q E := .mk fun s R m r l => by
  refine wpAny_For ?_ (hs _)
  show wpAny _ _ (do callWith cp (← eval (.Name "range" np) (F.env L)) [] (backTo cp (starEach [a] (F.env L))) (backToKw cp (keywordEach [] (F.env L)))) _ _ _
  have hN : We Γ A st F L (.Name "range" np) ℓ σ (fun W σ1 => W = .typ "range" ∧ σ1 = σ) E := We.gname O OF hm hg ⟨rfl, rfl⟩
  refine wpAny_bind (hN.use r l fun vf s0 W σ0 R0 P0 hv0 hW l0 => ?_)
  obtain ⟨rfl, rfl⟩ := hW
  (obtain rfl := VR.inv hv0)
  refine callWith_of (P := fun _ => True) (by show (_ || false) = false; rw [starEach_plain (hp _)]; rfl) (fun h' _ => ⟨.machine, .inr (.inl rfl), Looks.of_pure rfl⟩) ?_
  refine evalArgs_of (hp _) ?_
  rw [he]
  show wpAny _ _ (spliced [(false, _)]) _ _ _
  refine spliced_cons (h.use P0.rel l0 fun v s1 W σ1 R1 P1 hv hq l1 => spliced_nil ⟨trivial, ?_⟩)
  obtain ⟨n, hn, rfl, h2⟩ := hq
  obtain ⟨f1, f2⟩ := range_fact hn
  (obtain ⟨_, rfl⟩ := VR.inv hv)
  rename_i tk
  have P := P0.trans P1
  refine call_range_1 (wpAny_pyIter_range (a := 0) (b := n) (c := 1) (t := s1.toks) (u := tk) (v := s1.toks + 1) (Heap.get?_push_size _ rfl) f2 ?_)
  rw [f1]
  have N1 := News.push P.fr (allNews_ok Γ.B s1.heap L) { cls := .type "range", data := .fields #[.int 0 s1.toks, .int n tk, .int 1 (s1.toks + 1)] } rfl
  have F1 := P.fr.push { cls := .type "range", data := .fields #[.int 0 s1.toks, .int n tk, .int 1 (s1.toks + 1)] }
  have N2 := News.push F1 N1 { cls := .type "range_iterator", data := .fields #[rawInt 0, rawInt n, rawInt 1] } rfl
  have F2 := F1.push { cls := .type "range_iterator", data := .fields #[rawInt 0, rawInt n, rawInt 1] }
  have P2 := P.step (tk := s1.toks + 1 + 1) F2 (fun p hp => N2 p (.tail _ (.tail _ hp))) l.hB
  have hnew : s1.heap.get? (s1.heap.push { cls := .type "range", data := .fields #[.int 0 s1.toks, .int n tk, .int 1 (s1.toks + 1)] }).objs.size = none := get_none_ge (by rw [Heap.size_push]; exact Nat.le_succ _)
  have fr := P.fresh hnew
  have h0 : s.heap.get? (s1.heap.push { cls := .type "range", data := .fields #[.int 0 s1.toks, .int n tk, .int 1 (s1.toks + 1)] }).objs.size = none := by
    cases q : s.heap.get? (s1.heap.push { cls := .type "range", data := .fields #[.int 0 s1.toks, .int n tk, .int 1 (s1.toks + 1)] }).objs.size with
    | none => rfl
    | some o' =>
      by_cases hL : L = (s1.heap.push { cls := .type "range", data := .fields #[.int 0 s1.toks, .int n tk, .int 1 (s1.toks + 1)] }).objs.size
      · have := ns_live P.fr.ns; rw [hL, hnew] at this; cases this
      · by_cases hi : ∃ i, i < σ0.length ∧ (s1.heap.push { cls := .type "range", data := .fields #[.int 0 s1.toks, .int n tk, .int 1 (s1.toks + 1)] }).objs.size = R.m i
        · obtain ⟨i, hi, hq⟩ := hi
          exact absurd (by rw [P.ext.m i hi, hq]) (fr.1 i (Nat.lt_of_lt_of_le hi P.ext.le))
        · have := P.ext.keep _ o' q (fun i hi' hq => hi ⟨i, hi', hq⟩) (fun hq => hL (Option.some.inj hq).symm)
          rw [hnew] at this; cases this
  exact codeAny_mono (h2 σ0 R s _ R1 m _ P2.rel (l.post P2) P2.ext h0 fr.2.1 (Heap.get?_push_size _ rfl)) fun r s' h' => by cases r <;> exact h'
end
end
section
open Builtin Builtin.Str
noncomputable def loneC : List Nat := [97, 40, 41, 37, 47, 42, 39, 93]
mutual
inductive RdP : Nat → Nat → List Nat → Pt → Prop
  | num {n a g} {k : Nat} (hg : Gap g) (hk : k < 30) : RdP n a (g ++ (((toString ((k : Nat) : Int) : String) : PySem.Str)).cps.toList) (.num ((k : Nat) : Int) ((a + g.length : Nat) : Int))
  | nam {n a g s} (hg : Gap g) (hs : s ∈ lwordsL) : RdP n a (g ++ s.cps.toList) (.nam s ((a + g.length : Nat) : Int))
  | str {n a g w ps l} (hg : Gap g) (h : RdB n (a + g.length + 1) [] w ps l) (hl : ps.length ≤ 3) : RdP (n + 1) a (g ++ 34 :: (w ++ [34])) (.str ((a + g.length : Nat) : Int) ps l)
  | call {n a g s g2 w one g3} (hg : Gap g) (hs : s ∈ lwordsL) (hg2 : Gap g2) (h : RdP n (a + g.length + s.cps.toList.length + g2.length + 1) w one) (hg3 : Gap g3) :
      RdP (n + 1) a (g ++ (s.cps.toList ++ (g2 ++ 40 :: (w ++ (g3 ++ [41]))))) (.call ((a + g.length : Nat) : Int) s one)
  | bin {n a g w1 one g2 plus w2 other g3} (hg : Gap g) (h1 : RdP n (a + g.length + 1) w1 one) (hg2 : Gap g2) (h2 : RdP n (a + g.length + 1 + w1.length + g2.length + (opS plus).cps.toList.length) w2 other) (hg3 : Gap g3) :
      RdP (n + 1) a (g ++ 40 :: (w1 ++ (g2 ++ ((opS plus).cps.toList ++ (w2 ++ (g3 ++ [41])))))) (.bin ((a + g.length + 1 + w1.length + g2.length : Nat) : Int) plus one other)
inductive RdB : Nat → Nat → List Nat → List Nat → List (PySem.Str × Pt) → PySem.Str → Prop
  | fin {n a fs} : RdB n a fs [] [] (mkS fs)
  | ch {n a fs c w ps l} (hc : c ∈ loneC) (r : RdB n (a + 1) (fs ++ [c]) w ps l) : RdB n a fs (c :: w) ps l
  | esc {n a fs c v w ps l} (h : escOf c v) (r : RdB n (a + 2) (fs ++ [v]) w ps l) : RdB n a fs (92 :: c :: w) ps l
  | inner {n a fs wi g w p ps l} (h : RdP n (a + 2) wi p) (hg : Gap g) (r : RdB (n + 1) (a + 2 + wi.length + g.length + 1) [] w ps l) : RdB (n + 1) a fs (92 :: 40 :: (wi ++ (g ++ 41 :: w))) ((mkS fs, p) :: ps) l
end
theorem rd_ind {mP : Nat → Nat → List Nat → Pt → Prop} {mB : Nat → Nat → List Nat → List Nat → List (PySem.Str × Pt) → PySem.Str → Prop}
    (num : ∀ {n a g} {k : Nat} (_ : Gap g) (_ : k < 30), mP n a (g ++ (((toString ((k : Nat) : Int) : String) : PySem.Str)).cps.toList) (.num ((k : Nat) : Int) ((a + g.length : Nat) : Int)))
    (nam : ∀ {n a g s} (_ : Gap g) (_ : s ∈ lwordsL), mP n a (g ++ s.cps.toList) (.nam s ((a + g.length : Nat) : Int)))
    (str : ∀ {n a g w ps l} (_ : Gap g) (_ : RdB n (a + g.length + 1) [] w ps l) (_ : ps.length ≤ 3), mB n (a + g.length + 1) [] w ps l → mP (n + 1) a (g ++ 34 :: (w ++ [34])) (.str ((a + g.length : Nat) : Int) ps l))
    (call : ∀ {n a g s g2 w one g3} (_ : Gap g) (_ : s ∈ lwordsL) (_ : Gap g2) (_ : RdP n (a + g.length + s.cps.toList.length + g2.length + 1) w one) (_ : Gap g3), mP n (a + g.length + s.cps.toList.length + g2.length + 1) w one →
      mP (n + 1) a (g ++ (s.cps.toList ++ (g2 ++ 40 :: (w ++ (g3 ++ [41]))))) (.call ((a + g.length : Nat) : Int) s one))
    (bin : ∀ {n a g w1 one g2 plus w2 other g3} (_ : Gap g) (_ : RdP n (a + g.length + 1) w1 one) (_ : Gap g2) (_ : RdP n (a + g.length + 1 + w1.length + g2.length + (opS plus).cps.toList.length) w2 other) (_ : Gap g3),
      mP n (a + g.length + 1) w1 one → mP n (a + g.length + 1 + w1.length + g2.length + (opS plus).cps.toList.length) w2 other →
      mP (n + 1) a (g ++ 40 :: (w1 ++ (g2 ++ ((opS plus).cps.toList ++ (w2 ++ (g3 ++ [41])))))) (.bin ((a + g.length + 1 + w1.length + g2.length : Nat) : Int) plus one other))
    (fin : ∀ {n a fs}, mB n a fs [] [] (mkS fs))
    (ch : ∀ {n a fs c w ps l} (_ : c ∈ loneC) (_ : RdB n (a + 1) (fs ++ [c]) w ps l), mB n (a + 1) (fs ++ [c]) w ps l → mB n a fs (c :: w) ps l)
    (esc : ∀ {n a fs c v w ps l} (_ : escOf c v) (_ : RdB n (a + 2) (fs ++ [v]) w ps l), mB n (a + 2) (fs ++ [v]) w ps l → mB n a fs (92 :: c :: w) ps l)
    (inner : ∀ {n a fs wi g w p ps l} (_ : RdP n (a + 2) wi p) (_ : Gap g) (_ : RdB (n + 1) (a + 2 + wi.length + g.length + 1) [] w ps l), mP n (a + 2) wi p → mB (n + 1) (a + 2 + wi.length + g.length + 1) [] w ps l →
      mB (n + 1) a fs (92 :: 40 :: (wi ++ (g ++ 41 :: w))) ((mkS fs, p) :: ps) l) :
    (∀ {n a w p}, RdP n a w p → mP n a w p) ∧ (∀ {n a fs w ps l}, RdB n a fs w ps l → mB n a fs w ps l) :=
  ⟨fun h => RdP.rec (motive_1 := fun n a w p _ => mP n a w p) (motive_2 := fun n a fs w ps l _ => mB n a fs w ps l) num nam str call bin fin ch esc inner h,
   fun h => RdB.rec (motive_1 := fun n a w p _ => mP n a w p) (motive_2 := fun n a fs w ps l _ => mB n a fs w ps l) num nam str call bin fin ch esc inner h⟩
theorem RdB.chs {n w ps l} {u : List Nat} {a : Nat} {fs : List Nat} (hu : ∀ c ∈ u, c ∈ loneC) (h : RdB n (a + u.length) (fs ++ u) w ps l) : RdB n a fs (u ++ w) ps l := by
  induction u generalizing a fs with
  | nil => rw [List.append_nil] at h; exact h
  | cons c u ih =>
    refine .ch (hu c (.head _)) (ih (fun x hx => hu x (.tail _ hx)) ?_)
    rw [List.append_assoc, Nat.add_assoc, Nat.add_comm 1]; exact h
theorem mkS_append (a b : List Nat) : mkS (a ++ b) = mkS a ++ mkS b := by
  show (⟨_⟩ : PySem.Str) = ⟨a.toArray ++ b.toArray⟩; simp
theorem mkS_cps (s : PySem.Str) : mkS s.cps.toList = s := by cases s; simp [mkS]
theorem str_assoc (a b c : PySem.Str) : a ++ b ++ c = a ++ (b ++ c) := by
  show (⟨a.cps ++ b.cps ++ c.cps⟩ : PySem.Str) = ⟨a.cps ++ (b.cps ++ c.cps)⟩; rw [Array.append_assoc]
theorem mkS_len (a : List Nat) : (mkS a).length = a.length := by show a.toArray.size = _; simp
theorem cps_len (s : PySem.Str) : s.cps.toList.length = s.length := by show _ = s.cps.size; simp
theorem str_nil (a : PySem.Str) : a ++ mkS [] = a := by cases a; show (⟨_ ++ #[]⟩ : PySem.Str) = _; simp
theorem mkS_tail (t : PySem.Str) (u v : List Nat) : t ++ mkS u ++ mkS v = t ++ mkS (u ++ v) := by rw [str_assoc t (mkS u) (mkS v), mkS_append u v]
theorem mkS_tailS (t : PySem.Str) (u : List Nat) (s : PySem.Str) : t ++ mkS u ++ s = t ++ mkS (u ++ s.cps.toList) := by rw [← mkS_tail t u s.cps.toList, mkS_cps s]
theorem len_tail (t : PySem.Str) (u : List Nat) : (t ++ mkS u).length = t.length + u.length := by rw [str_len_append, mkS_len u]
noncomputable def tl (n : Nat) : Nat := 100 * 4 ^ n
theorem tl_succ (n : Nat) : tl (n + 1) = 4 * tl n := by unfold tl; rw [Nat.pow_succ]; (exact ar402)
theorem tl_ge (n : Nat) : 100 ≤ tl n := by unfold tl; have := Nat.one_le_two_pow (n := n); have : 1 ≤ 4 ^ n := Nat.one_le_pow _ _ (by decide); (exact ar285 this)
noncomputable def rowOf (a : Int) (ps : List (PySem.Str × Pt)) : List V := ps.flatMap fun x => [sNode a x.1, cNode a (node x.2)]
theorem rowOf_snoc (a : Int) (ps : List (PySem.Str × Pt)) (s : PySem.Str) (p : Pt) : rowOf a (ps ++ [(s, p)]) = rowOf a ps ++ [sNode a s, cNode a (node p)] := by simp [rowOf]
theorem rowOf_len (a : Int) (ps : List (PySem.Str × Pt)) : (rowOf a ps).length = 2 * ps.length := by
  induction ps with
  | nil => rfl
  | cons x r ih => simp [rowOf] at ih ⊢; (exact ar333 ih)
theorem strFold_row (a : Int) (last : PySem.Str) (ps : List (PySem.Str × Pt)) (acc : V) : (rowOf a ps ++ [sNode a last]).foldl (jNode a) acc = strFold a acc ps last := by
  induction ps generalizing acc with
  | nil => rw [strFold]; rfl
  | cons x r ih => obtain ⟨s, p⟩ := x; rw [strFold, ← ih]; rfl
theorem strNode_row (a : Int) (last : PySem.Str) (ps : List (PySem.Str × Pt)) : ∃ h r, rowOf a ps ++ [sNode a last] = h :: r ∧ r.foldl (jNode a) h = strNode a ps last := by
  cases ps with
  | nil => exact ⟨sNode a last, [], rfl, by rw [strNode]; rfl⟩
  | cons x r =>
    obtain ⟨s, p⟩ := x
    refine ⟨sNode a s, cNode a (node p) :: (rowOf a r ++ [sNode a last]), rfl, ?_⟩
    rw [strNode, ← strFold_row a last r]
    rfl
end
section
open Builtin Builtin.Str
noncomputable def CPart (n N : Nat) : Prop := ∀ (Γ : Cx) (A : Around) (st : List Env) (σ : List AObj) (E : Int → Prop) (Q : V → List AObj → Prop) (f c pl : Nat) (lf : Int) (t : PySem.Str), Γ.Ok → KF Γ.K Γ.w.params Γ.prog → AOk A st N → Feed σ f c pl lf t → pl + tl n ≤ 900000 → t.length + tl n ≤ 800000 →
  (∀ σ' pl' lf' w p, PreI f σ σ' → Feed σ' f c pl' lf' (t ++ mkS w) → RdP n t.length w p → w.length ≤ tl n → pl' ≤ pl + tl n → Q (node p) σ') → Wc Γ A st (.glob 438) [.obj f, .int n] σ Q E
noncomputable def CStrL (n N : Nat) : Prop := ∀ (Γ : Cx) (A : Around) (st : List Env) (σ : List AObj) (E : Int → Prop) (Q : V → List AObj → Prop) (f c pl : Nat) (lf : Int) (t : PySem.Str), Γ.Ok → KF Γ.K Γ.w.params Γ.prog → AOk A st N → Feed σ f c pl lf t → pl + tl n ≤ 900000 → t.length + tl n ≤ 800000 →
  (∀ σ' pl' lf' g w ps l, PreI f σ σ' → Gap g → Feed σ' f c pl' lf' (t ++ mkS (g ++ 34 :: (w ++ [34]))) → RdB n (t.length + g.length + 1) [] w ps l → ps.length ≤ 3 → (g ++ 34 :: (w ++ [34])).length ≤ tl n → pl' ≤ pl + tl n → Q (strNode ((t.length + g.length : Nat) : Int) ps l) σ') → Wc Γ A st (.glob 445) [.obj f, .int n] σ Q E
theorem lone_get {r : Nat} (hr : r < 7) : ∃ s, loneL[r]? = some s ∧ (∀ c ∈ s.cps.toList, c ∈ loneC) ∧ s.length ≤ 2 := by
  have : ∀ r, (h : r < 7) → (∀ c ∈ (loneL[r]'h).cps.toList, c ∈ loneC) ∧ (loneL[r]'h).length ≤ 2 := by decide
  exact ⟨loneL[r]'hr, List.getElem?_eq_getElem (l := loneL) hr, this r hr⟩
noncomputable abbrev escsV : List V := [.tup [.str "\\\"", .str "\""], .tup [.str "\\\\", .str "\\"], .tup [.str "\\n", .str "\n"], .tup [.str "\\t", .str "\t"]]
theorem escs_get {r : Nat} (hr : r < 4) : ∃ c v, escsV[r]? = some (.tup [.str (mkS [92, c]), .str (mkS [v])]) ∧ escOf c v := by
  have : ∀ r, (h : r < 4) → escOf ([34, 92, 110, 116][r]'h) ([34, 92, 10, 9][r]'h) := by unfold escOf; decide
  refine ⟨[34, 92, 110, 116][r]'hr, [34, 92, 10, 9][r]'hr, ?_, this r hr⟩
  rcases (by decide : ∀ r, r < 4 → r = 0 ∨ r = 1 ∨ r = 2 ∨ r = 3) r hr with rfl | rfl | rfl | rfl <;> rfl
section
variable {Γ : Cx} {A : Around} {st : List Env} {F : Fn} {L : Addr} {ℓ : List (Option V)} {σ : List AObj} {E : Int → Prop} {f c pl : Nat} {lf : Int} {t : PySem.Str} {n : PySem.Str} {b : Nat}
theorem e_many {Q : V → List AObj → Prop} {x y : Int} {nn : Nat} {p1 p2 p3 p4 p5 p6 p7 p8 p9 p10 : Pos} {u1 u2 u3 u4 u5 : Nat} (O : Γ.Ok) (OF : FnOk F) (hn : At F.scope.names ℓ "floors" (.int nn)) (hf : At F.scope.names ℓ "feed" (.obj f)) (h : Feed σ f c pl lf t) (h1 : 0 < nn → Q (.int x) σ) (h2 : Q (.int y) σ) :
    We Γ A st F L (.IfExp (.BoolOp .And [.Compare (.Name "floors" p1) [.Gt] [.Constant (.int 0) u1 p2] p3, .Compare (.Subscript (.Name "feed" p4) (.Constant (.str "left") u2 p5) p6) [.Gt] [.Constant (.int 0) u3 p7] p8] p9) (.Constant (.int x) u4 p10) (.Constant (.int y) u5 p10') p11) ℓ σ Q E := by
  by_cases hz : 0 < nn
  · by_cases hl : 0 < lf
    · exact We.ifexpT (Wt.andT (Wt.cmp O (We.name OF hn (We.cint (.gt true (by simpa using hz) ⟨rfl, Wt.cmp O (f_left O OF hf h (We.cint (.gt true (by simpa using hl) ⟨rfl, We.cint (h1 hz)⟩)))⟩)))))
    · exact We.ifexpF (Wt.andT (Wt.cmp O (We.name OF hn (We.cint (.gt true (by simpa using hz) ⟨rfl, Wt.cmp O (f_left O OF hf h (We.cint (.gt false (by simpa using hl) ⟨rfl, We.cint h2⟩)))⟩)))))
  · exact We.ifexpF (Wt.andF (Wt.cmp O (We.name OF hn (We.cint (.gt false (by simpa using hz) ⟨rfl, rfl, We.cint h2⟩)))))
end
structure LSt (n : Nat) (σ σ1 : List AObj) (f c jr : Nat) (t : PySem.Str) (g body fs : List Nat) (ps : List (PySem.Str × Pt)) (pl : Nat) (lf : Int) (a : Int) : Prop where
  pre : PreI f σ σ1
  feed : Feed σ1 f c pl lf (t ++ mkS (g ++ 34 :: body))
  row : σ1[jr]? = some (.list (rowOf a ps))
  new : σ.length ≤ jr
  inv : ∀ w' ps' l', RdB n (t.length + g.length + 1 + body.length) fs w' ps' l' → RdB n (t.length + g.length + 1) [] (body ++ w') (ps ++ ps') l'
noncomputable abbrev lsF : Stmt := stI (bT 32) 1
section
variable {Γ : Cx} {A : Around} {st : List Env} {F : Fn} {L : Addr} {ℓ : List (Option V)} {σ : List AObj} {E : Int → Prop} {f c pl : Nat} {lf : Int} {t : PySem.Str} {b : Nat}
set_option maxHeartbeats 4000000 in
theorem l_lstr {P : Fl → List (Option V) → List AObj → Prop} {n N B : Nat} {xp : Pos} {g : List Nat} {a : Int} (O : Γ.Ok) (X : KF Γ.K Γ.w.params Γ.prog) (hA : AOk A (fLstring.env L :: st) (N + 5)) (CP : ∀ m, n = m + 1 → CPart m N) (hB : ∀ m, n = m + 1 → tl m + 12 ≤ B) (hB0 : 12 ≤ B)
    (hf : f < σ.length) (hgl : g.length ≤ 8) (htB : t.length + 9 + 3 * B ≤ 800000) {pl0 : Nat} (hnn : n = 0 ∨ tl (n - 1) ≤ 100000) (hP : ∀ σ' pl lf body fs ps jr ol o1 o2 o3 o4 o5, LSt n σ σ' f c jr t g body fs ps pl lf a → ps.length ≤ 3 → body.length ≤ 3 * B → pl ≤ pl0 + 3 * B → fs.length ≤ 3 * B →
      P .next (some (.obj f) :: some (.int n) :: some (.int a) :: some (.obj jr) :: some (.str (mkS fs)) :: ol :: o1 :: o2 :: o3 :: o4 :: o5 :: List.replicate 8 none) σ') :
    ∀ (m done : Nat) (σ1 : List AObj) (pl : Nat) (lf : Int) (body fs : List Nat) (ps : List (PySem.Str × Pt)) (jr : Nat) (k : Int) (ol o1 o2 o3 o4 o5 : Option V), LSt n σ σ1 f c jr t g body fs ps pl lf a → done + m ≤ 3 → ps.length ≤ done → body.length ≤ done * B → fs.length ≤ done * B → pl ≤ pl0 + done * B → pl0 + 3 * B ≤ 900000 →
      Wfr Γ A st fLstring L "lap" xp (.range k m) (whB lsF) (some (.obj f) :: some (.int n) :: some (.int a) :: some (.obj jr) :: some (.str (mkS fs)) :: ol :: o1 :: o2 :: o3 :: o4 :: o5 :: List.replicate 8 none) σ1 P E := by
  have OF := X.lstring.ok
  intro m
  induction m with
  | zero =>
    intro done σ1 pl lf body fs ps jr k ol o1 o2 o3 o4 o5 hI hd h1 h2 h3 h4 h5
    have hm : done * B ≤ 3 * B := Nat.mul_le_mul_right B (by (exact Nat.le_trans (by assumption) (by decide)))
    exact Wfr.done O hA.handled (.range (by simp)) (hP _ _ _ _ _ _ _ _ _ _ _ _ _ hI (by exact ar300 hd h1) (by exact ar262 h2 hm) (by exact ar129 h4 hm) (by exact ar262 h3 hm))
  | succ m ih =>
    intro done σ1 pl lf body fs ps jr k ol o1 o2 o3 o4 o5 hI hd h1 h2 h3 h4 h5
    have hm : (done + 1) * B ≤ 3 * B := Nat.mul_le_mul_right B (by exact ar260 hd)
    rw [Nat.add_mul, Nat.one_mul] at hm
    have step : ∀ (σ1 : List AObj) (pl : Nat) (lf : Int) (body fs : List Nat) (ps : List (PySem.Str × Pt)) (jr : Nat) (ol o1 o2 o3 o4 o5 : Option V), LSt n σ σ1 f c jr t g body fs ps pl lf a → ps.length ≤ done + 1 → body.length ≤ done * B + B → fs.length ≤ done * B + B → pl ≤ pl0 + (done * B + B) →
        Wfr Γ A st fLstring L "lap" xp (.range (k + 1) m) (whB lsF) (some (.obj f) :: some (.int n) :: some (.int a) :: some (.obj jr) :: some (.str (mkS fs)) :: ol :: o1 :: o2 :: o3 :: o4 :: o5 :: List.replicate 8 none) σ1 P E :=
      fun σ1 pl lf body fs ps jr ol o1 o2 o3 o4 o5 hI h1 h2 h3 h4 => ih (done + 1) σ1 pl lf body fs ps jr (k + 1) ol o1 o2 o3 o4 o5 hI (by exact ar259 hd) h1 (by rw [Nat.add_mul, Nat.one_mul]; exact h2) (by rw [Nat.add_mul, Nat.one_mul]; exact h3) (by rw [Nat.add_mul, Nat.one_mul]; exact h4) h5
    clear ih
    have hl1 : σ.length ≤ σ1.length := hI.pre.le
    have hjf : jr ≠ f := by have := hI.new; (exact ar79 hf this)
    have hlen : (t ++ mkS (g ++ 34 :: body)).length ≤ t.length + 9 + done * B := by
      have e : (g ++ 34 :: body).length = g.length + body.length + 1 := by simp; (exact ar326)
      rw [len_tail, e]; (exact ar184 hgl h2)
    refine Wfr.step O OF hA.frames (.range (by exact ar289)) ⟨_, .tail (.tail (.tail (.tail (.tail .head)))), ?_⟩
    have ek : ((m + 1 : Nat) : Int) - 1 = (m : Nat) := by push_cast; (exact ar310)
    rw [ek]
    -- way
    have body' : ∀ r : Nat, r < 2 ∨ (r = 2 ∧ 0 < n) → Wx Γ A st fLstring L [stI (whB lsF) 1] (some (.obj f) :: some (.int n) :: some (.int a) :: some (.obj jr) :: some (.str (mkS fs)) :: some (.int k) :: some (.int r) :: o2 :: o3 :: o4 :: o5 :: List.replicate 8 none) (σ1.set f (.dict (feedFs c (pl + 1) lf (t ++ mkS (g ++ 34 :: body)))))
        (LoopK P fun ℓ2 σ2 => Wfr Γ A st fLstring L "lap" xp (.range (k + 1) m) (whB lsF) ℓ2 σ2 P E) E := by
      intro r hr
      have hI1 : LSt n σ (σ1.set f (.dict (feedFs c (pl + 1) lf (t ++ mkS (g ++ 34 :: body))))) f c jr t g body fs ps (pl + 1) lf a :=
        ⟨hI.pre.setI hf, hI.feed.set, by rw [List.getElem?_set_ne (Ne.symm hjf)]; exact hI.row, hI.new, hI.inv⟩
      generalize σ1.set f (.dict (feedFs c (pl + 1) lf (t ++ mkS (g ++ 34 :: body)))) = σ2 at hI1 ⊢
      have hset : ∀ {σ3 : List AObj} {ao : AObj}, σ3[jr]? = some (.list (rowOf a ps)) → (σ3.set f ao)[jr]? = some (.list (rowOf a ps)) := fun h => by rw [List.getElem?_set_ne (Ne.symm hjf)]; exact h
      by_cases r0 : r = 0
      · subst r0
        refine Wx.cons (Ws.ifT (Wt.cmp O (We.name OF (by repeat constructor) (We.cint (.eqI true rfl ⟨rfl, ?_⟩)))))
        refine Wx.cons (Ws.assign OF (We.item O (We.gname O OF (by repeat constructor) X.lone (We.call O (We.gname O OF (by repeat constructor) X.glawdip ⟨X.kDip, Wes.cons (We.name OF .head (Wes.cons (We.cint (Wes.nil (Wf.of_Wc O (c_dip O X (b := N + 4) (m := 7) hA hI1.feed (by decide) (by exact ar82 h4 h5 hm) fun r' hr' => ?_))))))⟩)))))
        obtain ⟨s, hs, hsc, hsl⟩ := lone_get hr'
        refine .tup (by exact ar135) (by exact ar246 hr') (W := .str s) (by rw [Int.toNat_natCast, List.getElem?_map, hs]; rfl) ⟨_, .tail (.tail (.tail (.tail (.tail (.tail (.tail .head)))))), ?_⟩
        have hF := hI1.feed.set (pl' := pl + 1 + 1) (lf' := lf) (t' := t ++ mkS (g ++ 34 :: body))
        have hr2 := hset (ao := .dict (feedFs c (pl + 1 + 1) lf (t ++ mkS (g ++ 34 :: body)))) hI1.row
        have hp2 := hI1.pre.setI (a := .dict (feedFs c (pl + 1 + 1) lf (t ++ mkS (g ++ 34 :: body)))) hf
        generalize σ2.set f (.dict (feedFs c (pl + 1 + 1) lf (t ++ mkS (g ++ 34 :: body)))) = σ3 at hF hr2 hp2 ⊢
        refine Wx.cons (Ws.assignTup hA.handled (We.tuple (by decide) (Wes.cons (We.bin (f_text O OF .head hF (We.name OF (by repeat constructor) (.addS (by unfold sizeLim; (exact ar39 htB hm hlen hsl)) (Wes.cons (We.bin (We.name OF (by repeat constructor) (We.name OF (by repeat constructor) (.addS (by rw [mkS_len]; unfold sizeLim; (exact ar76 htB h3 hm hsl)) (Wes.nil ⟨by simp, _, rfl, by simp, ?_⟩)))))))))))) (by intro; rfl) (by rfl) (by intro; rfl))
        refine Wa.item O (We.name OF .head (We.cstr ⟨_, _, _, _, rfl, rfl, hF.fd, .text, by simp, ?_⟩))
        refine Wa.name OF ⟨_, .tail (.tail (.tail (.tail .head))), ?_⟩
        refine Wx.nil (Wx.nil ?_)
        have e1 : mkS fs ++ s = mkS (fs ++ s.cps.toList) := by rw [mkS_append, mkS_cps]
        have e2 : t ++ mkS (g ++ 34 :: body) ++ s = t ++ mkS (g ++ 34 :: (body ++ s.cps.toList)) := by
          rw [mkS_tailS, List.append_assoc]; rfl
        rw [e1, e2]
        refine step _ _ _ _ _ ps jr _ _ _ _ _ _ ⟨hp2.setI hf, hF.set, hset hr2, hI.new, fun w' ps' l' hr => ?_⟩ (by exact ar29 h1) (by rw [List.length_append, cps_len]; (exact ar105 hB0 h2 hsl)) (by rw [List.length_append, cps_len]; (exact ar105 hB0 h3 hsl)) (by exact ar75 hB0 h4)
        rw [List.append_assoc]
        refine hI.inv _ _ _ (RdB.chs hsc ?_)
        have e3 : t.length + g.length + 1 + body.length + s.cps.toList.length = t.length + g.length + 1 + (body ++ s.cps.toList).length := by simp; (exact ar370)
        rw [e3]; exact hr
      by_cases r1 : r = 1
      · subst r1
        refine Wx.cons (Ws.ifF (Wt.cmp O (We.name OF (by repeat constructor) (We.cint (.eqI false rfl ⟨rfl, ?_⟩)))))
        refine Wx.cons (Ws.ifT (Wt.cmp O (We.name OF (by repeat constructor) (We.cint (.eqI true rfl ⟨rfl, ?_⟩)))))
        refine Wx.cons (Ws.assignTup hA.handled (We.item O (We.gname O OF (by repeat constructor) X.escs (We.call O (We.gname O OF (by repeat constructor) X.glawdip ⟨X.kDip, Wes.cons (We.name OF .head (Wes.cons (We.cint (Wes.nil (Wf.of_Wc O (c_dip O X (b := N + 4) (m := 4) hA hI1.feed (by decide) (by exact ar82 h4 h5 hm) fun r' hr' => ?_))))))⟩)))) (by intro; rfl) (by rfl) (by intro; rfl))
        obtain ⟨cc, vv, hs, hesc⟩ := escs_get hr'
        refine .tup (by exact ar135) (by exact ar247 hr') (W := .tup [.str (mkS [92, cc]), .str (mkS [vv])]) (by rw [Int.toNat_natCast]; exact hs) ⟨_, rfl, by simp, ?_⟩
        refine Wa.name OF ⟨_, .tail (.tail (.tail (.tail (.tail (.tail (.tail (.tail .head))))))), ?_⟩
        refine Wa.name OF ⟨_, .tail (.tail (.tail (.tail (.tail (.tail (.tail (.tail (.tail .head)))))))), ?_⟩
        have hF := hI1.feed.set (pl' := pl + 1 + 1) (lf' := lf) (t' := t ++ mkS (g ++ 34 :: body))
        have hr2 := hset (ao := .dict (feedFs c (pl + 1 + 1) lf (t ++ mkS (g ++ 34 :: body)))) hI1.row
        have hp2 := hI1.pre.setI (a := .dict (feedFs c (pl + 1 + 1) lf (t ++ mkS (g ++ 34 :: body)))) hf
        generalize σ2.set f (.dict (feedFs c (pl + 1 + 1) lf (t ++ mkS (g ++ 34 :: body)))) = σ3 at hF hr2 hp2 ⊢
        have l2 : (mkS [92, cc]).length = 2 := rfl
        have l1 : (mkS [vv]).length = 1 := rfl
        refine Wx.cons (Ws.assignTup hA.handled (We.tuple (by decide) (Wes.cons (We.bin (f_text O OF .head hF (We.name OF (by repeat constructor) (.addS (by unfold sizeLim; (exact ar35 htB hm hlen l2)) (Wes.cons (We.bin (We.name OF (by repeat constructor) (We.name OF (by repeat constructor) (.addS (by rw [mkS_len]; unfold sizeLim; (exact ar67 htB h3 hm l1)) (Wes.nil ⟨by simp, _, rfl, by simp, ?_⟩)))))))))))) (by intro; rfl) (by rfl) (by intro; rfl))
        refine Wa.item O (We.name OF .head (We.cstr ⟨_, _, _, _, rfl, rfl, hF.fd, .text, by simp, ?_⟩))
        refine Wa.name OF ⟨_, .tail (.tail (.tail (.tail .head))), ?_⟩
        refine Wx.nil (Wx.nil (Wx.nil ?_))
        have e2 : t ++ mkS (g ++ 34 :: body) ++ mkS [92, cc] = t ++ mkS (g ++ 34 :: (body ++ [92, cc])) := by
          rw [mkS_tail, List.append_assoc]; rfl
        rw [← mkS_append fs [vv], e2]
        refine step _ _ _ _ _ ps jr _ _ _ _ _ _ ⟨hp2.setI hf, hF.set, hset hr2, hI.new, fun w' ps' l' hr => ?_⟩ (by exact ar29 h1) (by simp; (exact ar136 hB0 h2)) (by simp; (exact ar119 hB0 h3)) (by exact ar75 hB0 h4)
        rw [List.append_assoc]
        refine hI.inv _ _ _ (.esc hesc ?_)
        have e3 : t.length + g.length + 1 + body.length + 2 = t.length + g.length + 1 + (body ++ [92, cc]).length := by simp; (exact ar375)
        rw [e3]; exact hr
      · obtain ⟨rfl, hn⟩ : r = 2 ∧ 0 < n := by rcases hr with h | h <;> (first | lia | omega)
        obtain ⟨n', rfl⟩ : ∃ n', n = n' + 1 := ⟨n - 1, by (exact (Nat.sub_add_cancel (by assumption)).symm)⟩
        have hBn := hB n' rfl
        have htn : tl n' ≤ 100000 := by rcases hnn with h | h <;> simpa using h
        refine Wx.cons (Ws.ifF (Wt.cmp O (We.name OF (by repeat constructor) (We.cint (.eqI false rfl ⟨rfl, ?_⟩)))))
        refine Wx.cons (Ws.ifF (Wt.cmp O (We.name OF (by repeat constructor) (We.cint (.eqI false rfl ⟨rfl, ?_⟩)))))
        refine Wx.cons (fs_text O OF .head (We.bin (f_text O OF .head hI1.feed (We.cstr (.addS (by show _ + 2 ≤ _; unfold sizeLim; (exact ar49 htB hm hlen)) ⟨_, _, _, _, _, rfl, hI1.feed, ?_⟩)))))
        have e2 : t ++ mkS (g ++ 34 :: body) ++ ("\\(" : PySem.Str) = t ++ mkS (g ++ 34 :: (body ++ [92, 40])) := by
          rw [show ("\\(" : PySem.Str) = mkS [92, 40] from rfl, mkS_tail, List.append_assoc]; rfl
        rw [e2]
        have hF := hI1.feed.set (pl' := pl + 1) (lf' := lf) (t' := t ++ mkS (g ++ 34 :: (body ++ [92, 40])))
        have hr2 := hset (ao := .dict (feedFs c (pl + 1) lf (t ++ mkS (g ++ 34 :: (body ++ [92, 40]))))) hI1.row
        have hp2 := hI1.pre.setI (a := .dict (feedFs c (pl + 1) lf (t ++ mkS (g ++ 34 :: (body ++ [92, 40]))))) hf
        generalize σ2.set f (.dict (feedFs c (pl + 1) lf (t ++ mkS (g ++ 34 :: (body ++ [92, 40]))))) = σ3 at hF hr2 hp2 ⊢
        have htl : (t ++ mkS (g ++ 34 :: (body ++ [92, 40]))).length = t.length + g.length + 1 + body.length + 2 := by
          have e : (g ++ 34 :: (body ++ [92, 40])).length = g.length + body.length + 3 := by simp; (exact ar388)
          rw [len_tail, e]; (exact ar373)
        refine Wx.cons (Ws.assign OF (We.call O (We.gname O OF (by repeat constructor) X.glawpart ⟨X.kPart, Wes.cons (We.name OF .head (Wes.cons (We.bin (We.name OF (by repeat constructor) (We.cint (.subI (Wes.nil (Wf.of_Wc O ?_))))))))⟩)))
        have en : ((n' + 1 : Nat) : Int) - 1 = (n' : Nat) := by push_cast; (exact ar310)
        rw [en]
        refine CP n' rfl Γ A _ σ3 E _ f c (pl + 1) lf _ O X (hA.le (by exact ar365)) hF (by exact ar58 h4 h5 hm hBn) (by rw [htl]; (exact ar51 hgl htB h2 hm hBn)) fun σ4 pl4 lf4 w4 p4 hp4 hF4 hR4 hw4 hpl4 => ⟨_, .tail (.tail (.tail (.tail (.tail (.tail (.tail (.tail (.tail (.tail .head))))))))), ?_⟩
        have hf3 : f < σ3.length := lt_of_some hF.fd
        have hr4 : σ4[jr]? = some (.list (rowOf a ps)) := hp4.get hr2 hjf
        have hp4' := hp2.trans hp4 (.inl rfl) hf
        have htl4 : (t ++ mkS (g ++ 34 :: (body ++ [92, 40])) ++ mkS w4).length = t.length + g.length + 1 + body.length + 2 + w4.length := by rw [len_tail, htl]
        refine Wx.cons (Ws.expr OF (We.call O (We.gname O OF (by repeat constructor) X.glawput ⟨X.kPut, Wes.cons (We.name OF .head (Wes.cons (We.cstr (Wes.nil (Wf.of_Wc O (c_putL O X (b := N + 3) hA hF4 (by exact ar43 h4 h5 hm hBn hpl4) (by rw [htl4]; show _ + 1 ≤ _; (exact ar37 hgl htB h2 hm hBn hw4)) fun g5 hg5 hgl5 => ?_))))))⟩)))
        have hF5 := hF4.set (pl' := pl4 + 1) (lf' := lf4) (t' := t ++ mkS (g ++ 34 :: (body ++ [92, 40])) ++ mkS w4 ++ g5 ++ ")")
        have hr5 := hset (ao := .dict (feedFs c (pl4 + 1) lf4 (t ++ mkS (g ++ 34 :: (body ++ [92, 40])) ++ mkS w4 ++ g5 ++ ")"))) hr4
        have hp5 := hp4'.setI (a := .dict (feedFs c (pl4 + 1) lf4 (t ++ mkS (g ++ 34 :: (body ++ [92, 40])) ++ mkS w4 ++ g5 ++ ")"))) hf
        generalize σ4.set f (.dict (feedFs c (pl4 + 1) lf4 (t ++ mkS (g ++ 34 :: (body ++ [92, 40])) ++ mkS w4 ++ g5 ++ ")"))) = σ5 at hF5 hr5 hp5 ⊢
        refine Wx.cons (Ws.assignSwap (names := ["row", "found"]) hA.handled (We.tuple (by decide) (Wes.cons (We.bin (We.name OF (by repeat constructor) (We.list (Wes.cons (We.tuple (by decide) (Wes.cons (We.cstr (Wes.cons (We.name OF (by repeat constructor) (Wes.cons (We.name OF (by repeat constructor) (Wes.nil ⟨by simp, ?_⟩)))))))))))))) (by intro; rfl) (by rfl))
        refine Wes.cons (We.tuple (by decide) (Wes.cons (We.cstr (Wes.cons (We.name OF (by repeat constructor) (Wes.cons (We.cstr (Wes.cons (We.tuple (by decide) (Wes.cons (We.name OF (.tail (.tail (.tail (.tail (.tail (.tail (.tail (.tail (.tail (.tail .head)))))))))) (Wes.nil ⟨by simp, Wes.nil ⟨by simp, Wes.nil ⟨by simp, _, _, get_app hr5, get_last, ?_, Wes.cons (We.cstr (Wes.nil ⟨by simp, _, rfl, by simp, ?_⟩))⟩⟩⟩))))))))))))
        · rw [rowOf_len]; simp [sizeLim]; (exact ar201 hd h1)
        refine Wa.bind OF ⟨_, .tail (.tail (.tail (.tail .head))), ?_⟩
        refine Wa.bind OF ⟨_, .tail (.tail (.tail .head)), ?_⟩
        refine Wx.nil (Wx.nil (Wx.nil ?_))
        have et : t ++ mkS (g ++ 34 :: (body ++ [92, 40])) ++ mkS w4 ++ g5 ++ ")" = t ++ mkS (g ++ 34 :: (body ++ 92 :: 40 :: (w4 ++ (g5.cps.toList ++ [41])))) := by
          rw [show (")" : PySem.Str) = mkS [41] from rfl, mkS_tail t, mkS_tailS t, mkS_tail t]
          congr 2; simp
        rw [et] at hF5
        have hgl5' : g5.cps.toList.length = g5.length := cps_len g5
        have e8 : (body ++ 92 :: 40 :: (w4 ++ (g5.cps.toList ++ [41]))).length = body.length + w4.length + g5.length + 3 := by rw [← hgl5']; simp; (exact ar366)
        refine step _ _ _ (body ++ 92 :: 40 :: (w4 ++ (g5.cps.toList ++ [41]))) [] (ps ++ [(mkS fs, p4)]) _ _ _ _ _ _ _ ⟨(hp5.app).app, (hF5.pre ⟨_, rfl⟩).pre ⟨_, rfl⟩, ?_, ?_, fun w' ps' l' hr => ?_⟩ (by simp; (assumption)) (by rw [e8]; (exact ar44 h2 hBn hw4 hgl5)) (by simp) (by exact ar42 h4 hBn hpl4)
        · rw [rowOf_snoc]; exact get_last
        · have := hp5.le; simp; (exact ar29 this)
        · rw [List.append_assoc, List.append_assoc]
          refine hI.inv _ _ _ ?_
          show RdB (n' + 1) _ fs (92 :: 40 :: ((w4 ++ (g5.cps.toList ++ [41])) ++ w')) ((mkS fs, p4) :: ps') l'
          have e6 : (w4 ++ (g5.cps.toList ++ [41])) ++ w' = w4 ++ (g5.cps.toList ++ 41 :: w') := by simp
          rw [e6]
          rw [htl] at hR4
          refine .inner hR4 ⟨g5, hg5, rfl⟩ ?_
          have e7 : t.length + g.length + 1 + body.length + 2 + w4.length + g5.cps.toList.length + 1 = t.length + g.length + 1 + (body ++ 92 :: 40 :: (w4 ++ (g5.cps.toList ++ [41]))).length := by simp; (exact ar237)
          rw [e7]; exact hr
    refine Wx.cons (Ws.assign OF (We.call O (We.gname O OF (by repeat constructor) X.glawdip ⟨X.kDip, Wes.cons (We.name OF .head (Wes.cons (e_many (nn := n) O OF (by repeat constructor) .head hI.feed (fun hn => ?_) ?_)))⟩)))
    · exact Wes.nil (Wf.of_Wc O (c_dip O X (b := N + 4) (m := 3) hA hI.feed (by decide) (by exact ar89 h4 h5 hm) fun r hr => ⟨_, .tail (.tail (.tail (.tail (.tail (.tail .head))))), body' r (by exact ar155 hn hr)⟩))
    · exact Wes.nil (Wf.of_Wc O (c_dip O X (b := N + 4) (m := 2) hA hI.feed (by decide) (by exact ar89 h4 h5 hm) fun r hr => ⟨_, .tail (.tail (.tail (.tail (.tail (.tail .head))))), body' r (by exact ar209 hr)⟩))
end
end
section
open Builtin Builtin.Str
noncomputable abbrev lsG : Stmt := stI (bT 32) 5
section
variable {Γ : Cx} {A : Around} {st : List Env} {F : Fn} {L : Addr} {ℓ : List (Option V)} {σ : List AObj} {E : Int → Prop} {f c pl : Nat} {lf : Int} {t : PySem.Str} {b : Nat}
theorem gap_of {s : PySem.Str} (h : s ∈ gapsL) : Gap s.cps.toList := ⟨s, h, rfl⟩
theorem c_putU {Q : V → List AObj → Prop} {s : PySem.Str} {u : List Nat} (O : Γ.Ok) (X : KF Γ.K Γ.w.params Γ.prog) (hA : AOk A st (b + 2)) (h : Feed σ f c pl lf (t ++ mkS u)) (hp : pl ≤ 1000000) (ht : t.length + u.length + s.length ≤ 900000)
    (hq : ∀ g : List Nat, Gap g → g.length ≤ 8 → Q (.int ((t.length + u.length + g.length : Nat) : Int)) (σ.set f (.dict (feedFs c (pl + 1) lf (t ++ mkS (u ++ (g ++ s.cps.toList))))))) : Wc Γ A st (.glob 431) [.obj f, .str s] σ Q E := by
  refine c_putL O X hA h hp (by rw [len_tail]; exact ht) fun g hg hgl => ?_
  have := hq g.cps.toList (gap_of hg) (by rw [cps_len]; exact hgl)
  rw [cps_len, ← len_tail t u, ← List.append_assoc u, ← mkS_tailS t (u ++ g.cps.toList) s, ← mkS_tailS t u g] at this
  exact this
theorem l_fold {P : Fl → List (Option V) → List AObj → Prop} {xp : Pos} {j : Nat} {whole : List V} {a : Int} {q1 q2 q3 q4 ol o1 o2 o3 o4 o5 : Option V} (X : KF Γ.K Γ.w.params Γ.prog) (O : Γ.Ok) (hA : AOk A (fLstring.env L :: st) b) (hj : σ[j]? = some (.list whole)) :
    ∀ (rest : List V) (k : Nat) (acc : V) (la : Option V), whole.drop k = rest → (∀ la, P .next (q1 :: q2 :: some (.int a) :: q3 :: q4 :: ol :: o1 :: o2 :: o3 :: o4 :: o5 :: some (rest.foldl (jNode a) acc) :: la :: List.replicate 6 none) σ) →
      Wfr Γ A st fLstring L "late" xp (.list j k) (whB lsG) (q1 :: q2 :: some (.int a) :: q3 :: q4 :: ol :: o1 :: o2 :: o3 :: o4 :: o5 :: some acc :: la :: List.replicate 6 none) σ P E := by
  have OF := X.lstring.ok
  intro rest
  induction rest with
  | nil => intro k acc la hd hP; exact Wfr.done O hA.handled (.list hj (drop_nil hd)) (hP la)
  | cons v r ih =>
    intro k acc la hd hP
    obtain ⟨e1, e2⟩ := drop_head hd
    refine Wfr.step O OF hA.frames (.list hj e1) ⟨_, .tail (.tail (.tail (.tail (.tail (.tail (.tail (.tail (.tail (.tail (.tail (.tail .head))))))))))), ?_⟩
    refine Wx.cons (Ws.assign OF (We.tuple (by decide) (Wes.cons (We.cstr (Wes.cons (We.name OF (by repeat constructor) (Wes.cons (We.cstr (Wes.cons (We.name OF (.tail (.tail (.tail (.tail (.tail (.tail (.tail (.tail (.tail (.tail (.tail .head))))))))))) (Wes.cons (We.name OF (.tail (.tail (.tail (.tail (.tail (.tail (.tail (.tail (.tail (.tail (.tail (.tail .head)))))))))))) (Wes.nil ⟨by simp, _, .tail (.tail (.tail (.tail (.tail (.tail (.tail (.tail (.tail (.tail (.tail .head)))))))))), Wx.nil ?_⟩)))))))))))))
    exact ih (k + 1) _ _ e2 hP
set_option maxHeartbeats 2000000 in
theorem c_lstring {n N : Nat} (CP : ∀ m, n = m + 1 → CPart m N) (hn : n ≤ 5) : CStrL n (N + 6) := by
  intro Γ A st σ E Q f c pl lf t O X hA hF hpl ht hq
  have OF := X.lstring.ok
  have hf : f < σ.length := lt_of_some hF.fd
  obtain ⟨B, hB, hB0, hBt, hnn⟩ : ∃ B, (∀ m, n = m + 1 → tl m + 12 ≤ B) ∧ 12 ≤ B ∧ 20 + 3 * B ≤ tl n ∧ (n = 0 ∨ tl (n - 1) ≤ 100000) := by
    cases n with
    | zero => exact ⟨12, fun m e => by (exact ar415 e), by (exact Nat.le_refl _), by unfold tl; decide, .inl rfl⟩
    | succ m =>
      have h1 := tl_succ m; have h2 := tl_ge m
      refine ⟨tl m + 12, fun m' e => ?_, by (exact ar423), by (exact ar198 h1 h2), .inr ?_⟩
      · have : m' = m := by (exact ar321 e)
        subst this; (exact Nat.le_refl _)
      · have hm : m = 0 ∨ m = 1 ∨ m = 2 ∨ m = 3 ∨ m = 4 := by (exact ar152 hn)
        rcases hm with rfl | rfl | rfl | rfl | rfl <;> decide
  refine Wc.fn O hA X.lstring rfl fun L A' hA' hL => ?_
  refine Wx.cons (Ws.assignSwap (names := ["spot", "row", "found"]) hA'.handled (We.tuple (by decide) (Wes.cons (We.call O (We.gname O OF (by repeat constructor) X.glawput ⟨X.kPut, Wes.cons (We.name OF .head (Wes.cons (We.cstr (Wes.nil (Wf.of_Wc O (c_putU (u := []) O X (b := N + 3) hA' (by rw [str_nil]; exact hF) (by exact ar214 hpl) (by show t.length + 0 + 1 ≤ _; (exact ar170 ht)) fun g hg hgl => ?_))))))⟩)))) (by intro; rfl) (by rfl))
  refine Wes.cons (We.list (Wes.nil ⟨by simp, Wes.cons (We.cstr (Wes.nil ⟨by simp, _, rfl, by simp, ?_⟩))⟩))
  refine Wa.bind OF ⟨_, .tail (.tail (.tail (.tail .head))), ?_⟩
  refine Wa.bind OF ⟨_, .tail (.tail (.tail .head)), ?_⟩
  refine Wa.bind OF ⟨_, .tail (.tail .head), ?_⟩
  have hF1 := hF.set (pl' := pl + 1) (lf' := lf) (t' := t ++ mkS ([] ++ (g ++ ("\"" : PySem.Str).cps.toList)))
  have hp1 : PreI f σ (σ.set f (.dict (feedFs c (pl + 1) lf (t ++ mkS ([] ++ (g ++ ("\"" : PySem.Str).cps.toList)))))) := (PreI.refl hf).setI hf
  have hl1 : (σ.set f (.dict (feedFs c (pl + 1) lf (t ++ mkS ([] ++ (g ++ ("\"" : PySem.Str).cps.toList)))))).length = σ.length := by simp
  generalize σ.set f (.dict (feedFs c (pl + 1) lf (t ++ mkS ([] ++ (g ++ ("\"" : PySem.Str).cps.toList))))) = σ1 at hF1 hp1 hl1 ⊢
  have ea : t.length + ([] : List Nat).length + g.length = t.length + g.length := by simp
  rw [ea]
  have hI0 : LSt n σ (σ1 ++ [AObj.list []]) f c σ1.length t g [] [] [] (pl + 1) lf ((t.length + g.length : Nat) : Int) :=
    ⟨hp1.app, hF1.pre ⟨_, rfl⟩, get_last, by (exact ar212 hl1), fun w' ps' l' h => by simpa using h⟩
  refine Wx.cons (Ws.forRange O OF X.trange (by repeat constructor) (We.call O (We.gname O OF (by repeat constructor) X.glawdip ⟨X.kDip, Wes.cons (We.name OF .head (Wes.cons (We.cint (Wes.nil (Wf.of_Wc O (c_dip O X (b := N + 4) (m := 4) hA' hI0.feed (by decide) (by exact ar192 hpl) fun r hr => ⟨r, by (exact Nat.le_trans (by assumption) (by decide)), rfl, ?_⟩))))))⟩)))
  have hI1 : LSt n σ ((σ1 ++ [AObj.list []]).set f (.dict (feedFs c (pl + 1 + 1) lf (t ++ mkS (g ++ 34 :: []))))) f c σ1.length t g [] [] [] (pl + 1 + 1) lf ((t.length + g.length : Nat) : Int) :=
    ⟨hI0.pre.setI hf, hI0.feed.set, by rw [List.getElem?_set_ne (by exact ar337 hf hl1)]; exact hI0.row, hI0.new, hI0.inv⟩
  refine l_lstr (N := N) (B := B) (pl0 := pl + 1 + 1) O X (hA'.le (by exact Nat.le_refl _)) CP hB hB0 hf hgl (by exact ar142 ht hBt) hnn ?_ r 0 _ (pl + 1 + 1) lf [] [] [] σ1.length 0 _ _ _ _ _ _ hI1 (by exact ar318 hr) (by simp) (by simp) (by simp) (by simp) (by exact ar138 hpl hBt)
  clear hI0 hI1
  intro σ2 pl2 lf2 body fs ps jr ol o1 o2 o3 o4 o5 hI hps hbody hpl2 hfs
  have hjf : jr ≠ f := by have := hI.new; (exact ar79 hf this)
  have htl : (t ++ mkS (g ++ 34 :: body)).length = t.length + g.length + 1 + body.length := by
    have e : (g ++ 34 :: body).length = g.length + body.length + 1 := by simp; (exact ar326)
    rw [len_tail, e]; (exact ar382)
  refine Wx.cons (fs_text O OF .head (We.bin (f_text O OF .head hI.feed (We.cstr (.addS (by rw [htl]; show _ + 1 ≤ _; unfold sizeLim; (exact ar83 ht hBt hgl hbody)) ⟨_, _, _, _, _, rfl, hI.feed, ?_⟩)))))
  have et : t ++ mkS (g ++ 34 :: body) ++ ("\"" : PySem.Str) = t ++ mkS (g ++ 34 :: (body ++ [34])) := by
    rw [show ("\"" : PySem.Str) = mkS [34] from rfl, mkS_tail, List.append_assoc]; rfl
  rw [et]
  have hF3 := hI.feed.set (pl' := pl2) (lf' := lf2) (t' := t ++ mkS (g ++ 34 :: (body ++ [34])))
  have hr3 : (σ2.set f (.dict (feedFs c pl2 lf2 (t ++ mkS (g ++ 34 :: (body ++ [34]))))))[jr]? = some (.list (rowOf ((t.length + g.length : Nat) : Int) ps)) := by rw [List.getElem?_set_ne (Ne.symm hjf)]; exact hI.row
  have hp3 := hI.pre.setI (a := .dict (feedFs c pl2 lf2 (t ++ mkS (g ++ 34 :: (body ++ [34]))))) hf
  generalize σ2.set f (.dict (feedFs c pl2 lf2 (t ++ mkS (g ++ 34 :: (body ++ [34]))))) = σ3 at hF3 hr3 hp3 ⊢
  refine Wx.cons (Ws.assign OF (We.bin (We.name OF (by repeat constructor) (We.list (Wes.cons (We.tuple (by decide) (Wes.cons (We.cstr (Wes.cons (We.name OF (by repeat constructor) (Wes.cons (We.name OF (by repeat constructor) (Wes.nil ⟨by simp, ?_⟩)))))))))))))
  refine Wes.nil ⟨by simp, _, _, get_app hr3, get_last, by rw [rowOf_len]; simp [sizeLim]; (exact ar339 hps), _, .tail (.tail (.tail .head)), ?_⟩
  obtain ⟨hd, rest, e1, e2⟩ := strNode_row ((t.length + g.length : Nat) : Int) (mkS fs) ps
  rw [e1]
  have hrl : (hd :: rest).length ≤ 7 := by rw [← e1, List.length_append, rowOf_len]; simp; (exact ar340 hps)
  have hF4 : Feed (σ3 ++ [AObj.list [sNode ((t.length + g.length : Nat) : Int) (mkS fs)]] ++ [AObj.list (hd :: rest)]) f c pl2 lf2 (t ++ mkS (g ++ 34 :: (body ++ [34]))) := (hF3.pre ⟨_, rfl⟩).pre ⟨_, rfl⟩
  have hp4 : PreI f σ (σ3 ++ [AObj.list [sNode ((t.length + g.length : Nat) : Int) (mkS fs)]] ++ [AObj.list (hd :: rest)]) := hp3.app.app
  have hr4 : (σ3 ++ [AObj.list [sNode ((t.length + g.length : Nat) : Int) (mkS fs)]] ++ [AObj.list (hd :: rest)])[(σ3 ++ [AObj.list [sNode ((t.length + g.length : Nat) : Int) (mkS fs)]]).length]? = some (.list (hd :: rest)) := get_last
  generalize (σ3 ++ [AObj.list [sNode ((t.length + g.length : Nat) : Int) (mkS fs)]]).length = jr4 at hr4 ⊢
  generalize σ3 ++ [AObj.list [sNode ((t.length + g.length : Nat) : Int) (mkS fs)]] ++ [AObj.list (hd :: rest)] = σ4 at hF4 hp4 hr4 ⊢
  refine Wx.cons (Ws.assign OF (We.item O (We.name OF (by repeat constructor) (We.cint (.list hr4 0 rfl (by (exact Nat.le_trans (by assumption) (by decide))) rfl ⟨_, .tail (.tail (.tail (.tail (.tail (.tail (.tail (.tail (.tail (.tail (.tail .head)))))))))), ?_⟩)))))
  refine Wx.cons (Ws.for O (We.slice (We.name OF (by repeat constructor) (Wpart.some (We.cint ⟨1, rfl, Wpart.none (.list rfl hr4 (by unfold sizeLim; (exact Nat.le_trans (by assumption) (by decide))) ⟨_, .list get_last, ?_⟩)⟩)))))
  have epk : pick (hd :: rest) (some 1) none = rest := by rw [pick_tail]; rfl
  rw [epk]
  refine l_fold (b := N + 5) X O hA' get_last rest 0 hd _ rfl fun la => ?_
  rw [e2]
  refine Wx.cons (Ws.ret (We.name OF (.tail (.tail (.tail (.tail (.tail (.tail (.tail (.tail (.tail (.tail (.tail .head))))))))))) ?_))
  refine hq _ pl2 lf2 g body ps (mkS fs) hp4.app hg (hF4.pre ⟨_, rfl⟩) ?_ hps ?_ (by exact ar145 hBt hpl2)
  · have := hI.inv [] [] (mkS fs) .fin
    simpa using this
  · simp; (exact ar125 hBt hgl hbody)
end
end
section
open Builtin Builtin.Str
theorem dig_fact {r : Nat} (hr : r < 30) : ((r : Nat) : Int).natAbs.log2 < 1920 ∧ ((toString ((r : Nat) : Int) : String) : PySem.Str).length ≤ 2 := by
  have : ∀ r : Fin 30, ((r.val : Nat) : Int).natAbs.log2 < 1920 ∧ ((toString ((r.val : Nat) : Int) : String) : PySem.Str).length ≤ 2 := by decide +kernel
  exact this ⟨r, hr⟩
theorem word_get {r : Nat} (hr : r < 3) : ∃ s, lwordsL[r]? = some s ∧ s ∈ lwordsL ∧ s.length ≤ 4 := by
  have : ∀ r, (h : r < 3) → (lwordsL[r]'h).length ≤ 4 := by decide
  exact ⟨lwordsL[r]'hr, List.getElem?_eq_getElem (l := lwordsL) hr, List.getElem_mem (l := lwordsL) hr, this r hr⟩
section
variable {Γ : Cx} {A : Around} {st : List Env} {F : Fn} {L : Addr} {ℓ : List (Option V)} {σ : List AObj} {E : Int → Prop} {f c pl : Nat} {lf : Int} {t : PySem.Str} {b : Nat}
theorem c_partU {Q : V → List AObj → Prop} {n N : Nat} {u : List Nat} (CP : CPart n N) (O : Γ.Ok) (X : KF Γ.K Γ.w.params Γ.prog) (hA : AOk A st N) (h : Feed σ f c pl lf (t ++ mkS u)) (hp : pl + tl n ≤ 900000) (ht : t.length + u.length + tl n ≤ 800000)
    (hq : ∀ σ' pl' lf' w p, PreI f σ σ' → Feed σ' f c pl' lf' (t ++ mkS (u ++ w)) → RdP n (t.length + u.length) w p → w.length ≤ tl n → pl' ≤ pl + tl n → Q (node p) σ') : Wc Γ A st (.glob 438) [.obj f, .int n] σ Q E := by
  refine CP Γ A st σ E Q f c pl lf _ O X hA h hp (by rw [len_tail]; exact ht) fun σ' pl' lf' w p h1 h2 h3 h4 h5 => hq σ' pl' lf' w p h1 ?_ ?_ h4 h5
  · rw [mkS_tail] at h2; exact h2
  · rw [len_tail] at h3; exact h3
theorem c_part0 {Q : V → List AObj → Prop} {n r : Nat} (O : Γ.Ok) (X : KF Γ.K Γ.w.params Γ.prog) {A' : Around} (hA' : AOk A' (fPart.env L :: st) 5) (hF : Feed σ f c pl lf t) (hpl : pl + 100 ≤ 900001) (ht : t.length + 100 ≤ 800000) {σ0 : List AObj} (hp0 : PreI f σ0 σ) (hf : f < σ0.length) (hr : r < 2)
    (hq : ∀ σ' pl' lf' w p, PreI f σ0 σ' → Feed σ' f c pl' lf' (t ++ mkS w) → RdP n t.length w p → w.length ≤ 20 → pl' ≤ pl + 10 → Q (node p) σ') {rest : List Stmt} (hrest : bT 31 = stI (bT 31) 0 :: stI (bT 31) 1 :: stI (bT 31) 2 :: rest) :
    Wx Γ A' st fPart L (stI (bT 31) 1 :: stI (bT 31) 2 :: rest) (some (.obj f) :: some (.int n) :: some (.int r) :: List.replicate 12 none) σ (RetK Q) E := by
  have OF := X.part.ok
  by_cases r0 : r = 0
  · subst r0
    refine Wx.cons (Ws.ifT (Wt.cmp O (We.name OF (by repeat constructor) (We.cint (.eqI true rfl ⟨rfl, ?_⟩)))))
    refine Wx.cons (Ws.assign OF (We.call O (We.gname O OF (by repeat constructor) X.glawdip ⟨X.kDip, Wes.cons (We.name OF .head (Wes.cons (We.cint (Wes.nil (Wf.of_Wc O (c_dip O X (b := 4) (m := 30) hA' hF (by decide) (by exact ar363 hpl) fun k hk => ⟨_, .tail (.tail (.tail .head)), ?_⟩))))))⟩)))
    obtain ⟨d1, d2⟩ := dig_fact hk
    have hF1 : Feed (σ.set f (.dict (feedFs c (pl + 1) lf t))) f c (pl + 1) lf (t ++ mkS []) := by rw [str_nil]; exact hF.set
    refine Wx.cons (Ws.ret (We.tuple (by decide) (Wes.cons (We.cstr (Wes.cons (We.call O (We.gname O OF (by repeat constructor) X.glawput ⟨X.kPut, Wes.cons (We.name OF .head (Wes.cons (We.call O (We.gname O OF (by repeat constructor) X.tstr ⟨trivial, Wes.cons (We.name OF (by repeat constructor) (Wes.nil (Wf.strInt d1 ?_)))⟩))))⟩)))))))
    refine Wes.nil (Wf.of_Wc O (c_putU (u := []) O X (b := 3) hA' hF1 (by exact ar331 hpl) (by show t.length + 0 + _ ≤ _; (exact ar225 ht d2)) fun g hg hgl => Wes.cons (We.name OF (by repeat constructor) (Wes.nil ⟨by simp, ?_⟩))))
    have e := hq _ (pl + 1 + 1) lf (g ++ ((toString ((k : Nat) : Int) : String) : PySem.Str).cps.toList) (.num (k : Nat) ((t.length + g.length : Nat) : Int)) ((hp0.setI hf).setI hf) hF1.set (.num hg hk) (by rw [List.length_append, cps_len]; (exact ar249 d2 hgl)) (by exact ar386)
    rw [node] at e
    show Q (.tup [.str "int", .int ((t.length + ([] : List Nat).length + g.length : Nat) : Int), .int (k : Nat)]) _
    rw [show t.length + ([] : List Nat).length + g.length = t.length + g.length by simp]
    exact e
  · have r1 : r = 1 := by (exact ar320 hr r0)
    subst r1
    refine Wx.cons (Ws.ifF (Wt.cmp O (We.name OF (by repeat constructor) (We.cint (.eqI false rfl ⟨rfl, Wx.nil ?_⟩)))))
    refine Wx.cons (Ws.ifT (Wt.cmp O (We.name OF (by repeat constructor) (We.cint (.eqI true rfl ⟨rfl, ?_⟩)))))
    refine Wx.cons (Ws.assign OF (We.item O (We.gname O OF (by repeat constructor) X.words (We.call O (We.gname O OF (by repeat constructor) X.glawdip ⟨X.kDip, Wes.cons (We.name OF .head (Wes.cons (We.cint (Wes.nil (Wf.of_Wc O (c_dip O X (b := 4) (m := 3) hA' hF (by decide) (by exact ar363 hpl) fun k hk => ?_))))))⟩)))))
    obtain ⟨s, hs, hsm, hsl⟩ := word_get hk
    refine .tup (by exact ar135) (by exact ar108 hk) (W := .str s) (by rw [Int.toNat_natCast, List.getElem?_map, hs]; rfl) ⟨_, .tail (.tail (.tail (.tail .head))), ?_⟩
    have hF1 : Feed (σ.set f (.dict (feedFs c (pl + 1) lf t))) f c (pl + 1) lf (t ++ mkS []) := by rw [str_nil]; exact hF.set
    refine Wx.cons (Ws.ret (We.tuple (by decide) (Wes.cons (We.cstr (Wes.cons (We.call O (We.gname O OF (by repeat constructor) X.glawput ⟨X.kPut, Wes.cons (We.name OF .head (Wes.cons (We.name OF (by repeat constructor) (Wes.nil (Wf.of_Wc O ?_)))))⟩)))))))
    refine c_putU (u := []) O X (b := 3) hA' hF1 (by exact ar331 hpl) (by show t.length + 0 + _ ≤ _; (exact ar238 ht hsl)) fun g hg hgl => Wes.cons (We.name OF (by repeat constructor) (Wes.nil ⟨by simp, ?_⟩))
    have e := hq _ (pl + 1 + 1) lf (g ++ s.cps.toList) (.nam s ((t.length + g.length : Nat) : Int)) ((hp0.setI hf).setI hf) hF1.set (.nam hg hsm) (by rw [List.length_append, cps_len]; (exact ar257 hsl hgl)) (by exact ar386)
    rw [node] at e
    show Q (.tup [.str "name", .int ((t.length + ([] : List Nat).length + g.length : Nat) : Int), .str s]) _
    rw [show t.length + ([] : List Nat).length + g.length = t.length + g.length by simp]
    exact e
theorem part_zero : CPart 0 6 := by
  intro Γ A st σ E Q f c pl lf t O X hA hF hpl ht hq
  have OF := X.part.ok
  have hf : f < σ.length := lt_of_some hF.fd
  have h100 : tl 0 = 100 := by decide
  refine Wc.fn O hA X.part rfl fun L A' hA' hL => ?_
  refine Wx.cons (Ws.assign OF (We.call O (We.gname O OF (by repeat constructor) X.glawdip ⟨X.kDip, Wes.cons (We.name OF .head (Wes.cons (e_many (nn := 0) O OF (by repeat constructor) .head hF (fun hn => absurd hn (by decide)) ?_)))⟩)))
  refine Wes.nil (Wf.of_Wc O (c_dip O X (b := 4) (m := 2) hA' hF (by decide) (by exact ar214 hpl) fun r hr => ⟨_, .tail (.tail .head), ?_⟩))
  exact c_part0 (n := 0) O X hA' hF.set (by exact ar270 hpl h100) (by (exact Nat.le_trans (by assumption) (by decide))) ((PreI.refl hf).setI hf) hf hr (fun σ' pl' lf' w p h1 h2 h3 h4 h5 => hq σ' pl' lf' w p h1 h2 h3 (by (exact Nat.le_trans (by assumption) (by decide))) (by exact ar223 h100 h5)) rfl
end
end
section
open Builtin Builtin.Str
section
variable {Γ : Cx} {A : Around} {st : List Env} {F : Fn} {L : Addr} {ℓ : List (Option V)} {σ : List AObj} {E : Int → Prop} {f c pl : Nat} {lf : Int} {t : PySem.Str} {b : Nat}
set_option maxHeartbeats 4000000 in
theorem part_succ {n N : Nat} (CP : CPart n N) (CS : CStrL n N) (hN : 6 ≤ N) : CPart (n + 1) (N + 1) := by
  intro Γ A st σ E Q f c pl lf t O X hA hF hpl ht hq
  have OF := X.part.ok
  have hf : f < σ.length := lt_of_some hF.fd
  have hts := tl_succ n
  have htg := tl_ge n
  obtain ⟨N', rfl⟩ : ∃ N', N = N' + 6 := ⟨N - 6, by (exact (Nat.sub_add_cancel (by assumption)).symm)⟩
  refine Wc.fn O hA X.part rfl fun L A' hA' hL => ?_
  have en : ((n + 1 : Nat) : Int) - 1 = (n : Nat) := by push_cast; (exact ar310)
  have go : ∀ r : Nat, r < 5 → Wx Γ A' st fPart L (stI (bT 31) 1 :: stI (bT 31) 2 :: (bT 31).drop 3) (some (.obj f) :: some (.int ((n + 1 : Nat) : Int)) :: some (.int r) :: List.replicate 12 none) (σ.set f (.dict (feedFs c (pl + 1) lf t))) (RetK Q) E := by
    intro r hr
    by_cases r2 : r < 2
    · exact c_part0 (n := n + 1) O X (hA'.le (by (exact Nat.le_of_lt (by assumption)))) hF.set (by exact ar189 hpl hts htg) (by exact ar173 ht hts htg) ((PreI.refl hf).setI hf) hf r2 (fun σ' pl' lf' w p h1 h2 h3 h4 h5 => hq σ' pl' lf' w p h1 h2 h3 (by exact ar210 hts htg h4) (by exact ar160 hts htg h5)) rfl
    · have hF1 := hF.set (pl' := pl + 1) (lf' := lf) (t' := t)
      have hp1 : PreI f σ (σ.set f (.dict (feedFs c (pl + 1) lf t))) := (PreI.refl hf).setI hf
      generalize σ.set f (.dict (feedFs c (pl + 1) lf t)) = σ1 at hF1 hp1 ⊢
      refine Wx.cons (Ws.ifF (Wt.cmp O (We.name OF (by repeat constructor) (We.cint (.eqI false (by simp; (exact ar314 r2)) ⟨rfl, Wx.nil ?_⟩)))))
      refine Wx.cons (Ws.ifF (Wt.cmp O (We.name OF (by repeat constructor) (We.cint (.eqI false (by simp; (exact ar313 r2)) ⟨rfl, Wx.nil ?_⟩)))))
      refine Wx.cons (fs_left O OF .head (We.bin (f_left O OF .head hF1 (We.cint (.subI ⟨_, _, _, _, _, rfl, hF1, ?_⟩)))))
      have hF2 : Feed (σ1.set f (.dict (feedFs c (pl + 1) (lf - 1) t))) f c (pl + 1) (lf - 1) t := hF1.set
      have hp2 := hp1.setI (a := .dict (feedFs c (pl + 1) (lf - 1) t)) hf
      generalize σ1.set f (.dict (feedFs c (pl + 1) (lf - 1) t)) = σ2 at hF2 hp2 ⊢
      by_cases e2 : r = 2
      · subst e2
        refine Wx.cons (Ws.ifT (Wt.cmp O (We.name OF (by repeat constructor) (We.cint (.eqI true rfl ⟨rfl, ?_⟩)))))
        refine Wx.cons (Ws.ret (We.call O (We.gname O OF (by repeat constructor) X.glawstring ⟨X.kLstring, Wes.cons (We.name OF .head (Wes.cons (We.bin (We.name OF (by repeat constructor) (We.cint (.subI (Wes.nil (Wf.of_Wc O ?_))))))))⟩)))
        rw [en]
        refine CS Γ A' _ σ2 E _ f c (pl + 1) (lf - 1) t O X hA' hF2 (by exact ar169 hpl hts htg) (by exact ar146 ht hts) fun σ3 pl3 lf3 g w ps l h1 hg h2 h3 h4 h5 h6 => ?_
        have := hq σ3 pl3 lf3 _ _ (hp2.trans h1 (.inl rfl) hf) h2 (.str hg h3 h4) (by exact ar195 hts h5) (by exact ar140 hts htg h6)
        rw [node] at this
        exact this
      refine Wx.cons (Ws.ifF (Wt.cmp O (We.name OF (by repeat constructor) (We.cint (.eqI false (by simp; (exact ar282 e2)) ⟨rfl, Wx.nil ?_⟩)))))
      by_cases e3 : r = 3
      · subst e3
        refine Wx.cons (Ws.ifT (Wt.cmp O (We.name OF (by repeat constructor) (We.cint (.eqI true rfl ⟨rfl, ?_⟩)))))
        refine Wx.cons (Ws.assign OF (We.item O (We.gname O OF (by repeat constructor) X.words (We.call O (We.gname O OF (by repeat constructor) X.glawdip ⟨X.kDip, Wes.cons (We.name OF .head (Wes.cons (We.cint (Wes.nil (Wf.of_Wc O (c_dip O X (b := N' + 5) (m := 3) hA' hF2 (by decide) (by exact ar192 hpl) fun k hk => ?_))))))⟩)))))
        obtain ⟨s, hs, hsm, hsl⟩ := word_get hk
        refine .tup (by exact ar135) (by exact ar108 hk) (W := .str s) (by rw [Int.toNat_natCast, List.getElem?_map, hs]; rfl) ⟨_, .tail (.tail (.tail (.tail .head))), ?_⟩
        have hF3 : Feed (σ2.set f (.dict (feedFs c (pl + 1 + 1) (lf - 1) t))) f c (pl + 1 + 1) (lf - 1) (t ++ mkS []) := by rw [str_nil]; exact hF2.set
        have hp3 := hp2.setI (a := .dict (feedFs c (pl + 1 + 1) (lf - 1) t)) hf
        generalize σ2.set f (.dict (feedFs c (pl + 1 + 1) (lf - 1) t)) = σ3 at hF3 hp3 ⊢
        have hsl' : s.cps.toList.length = s.length := cps_len s
        refine Wx.cons (Ws.assign OF (We.call O (We.gname O OF (by repeat constructor) X.glawput ⟨X.kPut, Wes.cons (We.name OF .head (Wes.cons (We.name OF (by repeat constructor) (Wes.nil (Wf.of_Wc O (c_putU (u := []) O X (b := N' + 4) hA' hF3 (by exact ar174 hpl) (by simp; (exact ar151 ht hsl)) fun g hg hgl => ⟨_, .tail (.tail (.tail (.tail (.tail .head)))), ?_⟩))))))⟩)))
        have hF4 := hF3.set (pl' := pl + 1 + 1 + 1) (lf' := lf - 1) (t' := t ++ mkS ([] ++ (g ++ s.cps.toList)))
        have hp4 := hp3.setI (a := .dict (feedFs c (pl + 1 + 1 + 1) (lf - 1) (t ++ mkS ([] ++ (g ++ s.cps.toList))))) hf
        generalize σ3.set f (.dict (feedFs c (pl + 1 + 1 + 1) (lf - 1) (t ++ mkS ([] ++ (g ++ s.cps.toList))))) = σ4 at hF4 hp4 ⊢
        have l1 : ([] ++ (g ++ s.cps.toList)).length = g.length + s.length := by rw [← hsl']; simp
        refine Wx.cons (Ws.expr OF (We.call O (We.gname O OF (by repeat constructor) X.glawput ⟨X.kPut, Wes.cons (We.name OF .head (Wes.cons (We.cstr (Wes.nil (Wf.of_Wc O (c_putU (u := [] ++ (g ++ s.cps.toList)) O X (b := N' + 4) hA' hF4 (by exact ar150 hpl) (by rw [l1]; show _ + 1 ≤ _; (exact ar90 ht hsl hgl)) fun g2 hg2 hgl2 => ?_))))))⟩)))
        have hF5 := hF4.set (pl' := pl + 1 + 1 + 1 + 1) (lf' := lf - 1) (t' := t ++ mkS ([] ++ (g ++ s.cps.toList) ++ (g2 ++ ("(" : PySem.Str).cps.toList)))
        have hp5 := hp4.setI (a := .dict (feedFs c (pl + 1 + 1 + 1 + 1) (lf - 1) (t ++ mkS ([] ++ (g ++ s.cps.toList) ++ (g2 ++ ("(" : PySem.Str).cps.toList))))) hf
        generalize σ4.set f (.dict (feedFs c (pl + 1 + 1 + 1 + 1) (lf - 1) (t ++ mkS ([] ++ (g ++ s.cps.toList) ++ (g2 ++ ("(" : PySem.Str).cps.toList))))) = σ5 at hF5 hp5 ⊢
        have l2 : ([] ++ (g ++ s.cps.toList) ++ (g2 ++ ("(" : PySem.Str).cps.toList)).length = g.length + s.length + g2.length + 1 := by rw [List.length_append, l1, List.length_append]; show _ + (_ + 1) = _; (exact ar385)
        refine Wx.cons (Ws.assign OF (We.call O (We.gname O OF (by repeat constructor) X.glawpart ⟨X.kPart, Wes.cons (We.name OF .head (Wes.cons (We.bin (We.name OF (by repeat constructor) (We.cint (.subI (Wes.nil (Wf.of_Wc O ?_))))))))⟩)))
        rw [en]
        refine c_partU CP O X hA' hF5 (by exact ar111 hpl hts htg) (by rw [l2]; (exact ar52 ht hts htg hsl hgl hgl2)) fun σ6 pl6 lf6 w one hp6 hF6 hR hw hpl6 => ⟨_, .tail (.tail (.tail (.tail (.tail (.tail .head))))), ?_⟩
        have hp6' := hp5.trans hp6 (.inl rfl) hf
        refine Wx.cons (Ws.expr OF (We.call O (We.gname O OF (by repeat constructor) X.glawput ⟨X.kPut, Wes.cons (We.name OF .head (Wes.cons (We.cstr (Wes.nil (Wf.of_Wc O (c_putU O X (b := N' + 4) hA' hF6 (by exact ar93 hpl hts hpl6) (by rw [List.length_append, l2]; show _ + 1 ≤ _; (exact ar36 ht hts hsl hgl hgl2 hw)) fun g3 hg3 hgl3 => ?_))))))⟩)))
        refine Wx.cons (Ws.ret (We.tuple (by decide) (Wes.cons (We.cstr (Wes.cons (We.name OF (by repeat constructor) (Wes.cons (We.name OF (by repeat constructor) (Wes.cons (We.tuple (by decide) (Wes.cons (We.name OF (by repeat constructor) (Wes.nil ⟨by simp, Wes.nil ⟨by simp, ?_⟩⟩)))))))))))))
        have et : [] ++ (g ++ s.cps.toList) ++ (g2 ++ ("(" : PySem.Str).cps.toList) ++ w ++ (g3 ++ (")" : PySem.Str).cps.toList) = g ++ (s.cps.toList ++ (g2 ++ 40 :: (w ++ (g3 ++ [41])))) := by
          show [] ++ (g ++ s.cps.toList) ++ (g2 ++ [40]) ++ w ++ (g3 ++ [41]) = _
          simp
        have hF7 := hF6.set (pl' := pl6 + 1) (lf' := lf6) (t' := t ++ mkS ([] ++ (g ++ s.cps.toList) ++ (g2 ++ ("(" : PySem.Str).cps.toList) ++ w ++ (g3 ++ (")" : PySem.Str).cps.toList)))
        have hp7 := hp6'.setI (a := .dict (feedFs c (pl6 + 1) lf6 (t ++ mkS ([] ++ (g ++ s.cps.toList) ++ (g2 ++ ("(" : PySem.Str).cps.toList) ++ w ++ (g3 ++ (")" : PySem.Str).cps.toList))))) hf
        rw [et] at hF7 hp7 ⊢
        have hR' : RdP n (t.length + g.length + s.cps.toList.length + g2.length + 1) w one := by
          have e : t.length + ([] ++ (g ++ s.cps.toList) ++ (g2 ++ ("(" : PySem.Str).cps.toList)).length = t.length + g.length + s.cps.toList.length + g2.length + 1 := by rw [l2, hsl']; (exact ar364)
          rw [← e]; exact hR
        have := hq _ (pl6 + 1) lf6 _ _ hp7 hF7 (.call hg hsm hg2 hR' hg3) (by simp only [List.length_append, List.length_cons, List.length_nil, hsl']; (exact ar40 hts htg hsl hgl hgl2 hw hgl3)) (by exact ar104 hts htg hpl6)
        rw [node] at this
        show Q (.tup [.str "call", .int ((t.length + ([] : List Nat).length + g.length : Nat) : Int), .str s, .tup [node one]]) _
        rw [show t.length + ([] : List Nat).length + g.length = t.length + g.length by simp]
        exact this
      · refine Wx.cons (Ws.ifF (Wt.cmp O (We.name OF (by repeat constructor) (We.cint (.eqI false (by simp; (exact ar194 hr e2 e3)) ⟨rfl, Wx.nil ?_⟩)))))
        have hF3 : Feed σ2 f c (pl + 1) (lf - 1) (t ++ mkS []) := by rw [str_nil]; exact hF2
        refine Wx.cons (Ws.expr OF (We.call O (We.gname O OF (by repeat constructor) X.glawput ⟨X.kPut, Wes.cons (We.name OF .head (Wes.cons (We.cstr (Wes.nil (Wf.of_Wc O (c_putU (u := []) O X (b := N' + 4) hA' hF3 (by exact ar192 hpl) (by show t.length + 0 + 1 ≤ _; (exact ar170 ht)) fun g hg hgl => ?_))))))⟩)))
        have hF4 := hF3.set (pl' := pl + 1 + 1) (lf' := lf - 1) (t' := t ++ mkS ([] ++ (g ++ ("(" : PySem.Str).cps.toList)))
        have hp4 := hp2.setI (a := .dict (feedFs c (pl + 1 + 1) (lf - 1) (t ++ mkS ([] ++ (g ++ ("(" : PySem.Str).cps.toList))))) hf
        generalize σ2.set f (.dict (feedFs c (pl + 1 + 1) (lf - 1) (t ++ mkS ([] ++ (g ++ ("(" : PySem.Str).cps.toList))))) = σ4 at hF4 hp4 ⊢
        have l1 : ([] ++ (g ++ ("(" : PySem.Str).cps.toList)).length = g.length + 1 := by rw [List.nil_append, List.length_append]; rfl
        refine Wx.cons (Ws.assign OF (We.call O (We.gname O OF (by repeat constructor) X.glawpart ⟨X.kPart, Wes.cons (We.name OF .head (Wes.cons (We.bin (We.name OF (by repeat constructor) (We.cint (.subI (Wes.nil (Wf.of_Wc O ?_))))))))⟩)))
        rw [en]
        refine c_partU CP O X hA' hF4 (by exact ar137 hpl hts htg) (by rw [l1]; (exact ar110 ht hts htg hgl)) fun σ5 pl5 lf5 w1 one hp5 hF5 hR1 hw1 hpl5 => ⟨_, .tail (.tail (.tail (.tail (.tail (.tail .head))))), ?_⟩
        have hp5' := hp4.trans hp5 (.inl rfl) hf
        have l2 : ([] ++ (g ++ ("(" : PySem.Str).cps.toList) ++ w1).length = g.length + 1 + w1.length := by rw [List.length_append, l1]
        refine Wx.cons (Ws.assign OF (We.item O (e_tup2 (We.call O (We.gname O OF (by repeat constructor) X.glawdip ⟨X.kDip, Wes.cons (We.name OF .head (Wes.cons (We.cint (Wes.nil (Wf.of_Wc O (c_dip O X (b := N' + 5) (m := 2) hA' hF5 (by decide) (by exact ar117 hpl hts hpl5) fun k hk => ?_))))))⟩)))))
        obtain ⟨plus, hplus⟩ : ∃ plus : Bool, [V.str "+", V.str "++"][k]? = some (V.str (opS plus)) := by
          rcases (show k = 0 ∨ k = 1 by (exact ar309 hk)) with rfl | rfl
          · exact ⟨true, rfl⟩
          · exact ⟨false, rfl⟩
        refine .tup (by exact ar135) (by exact ar243 hk) (W := .str (opS plus)) (by rw [Int.toNat_natCast]; exact hplus) ⟨_, .tail (.tail (.tail (.tail (.tail (.tail (.tail .head)))))), ?_⟩
        have hF6 := hF5.set (pl' := pl5 + 1) (lf' := lf5) (t' := t ++ mkS ([] ++ (g ++ ("(" : PySem.Str).cps.toList) ++ w1))
        have hp6 := hp5'.setI (a := .dict (feedFs c (pl5 + 1) lf5 (t ++ mkS ([] ++ (g ++ ("(" : PySem.Str).cps.toList) ++ w1)))) hf
        generalize σ5.set f (.dict (feedFs c (pl5 + 1) lf5 (t ++ mkS ([] ++ (g ++ ("(" : PySem.Str).cps.toList) ++ w1)))) = σ6 at hF6 hp6 ⊢
        have hol : (opS plus).length ≤ 2 := by cases plus <;> decide
        have hol' : (opS plus).cps.toList.length = (opS plus).length := cps_len _
        refine Wx.cons (Ws.assign OF (We.call O (We.gname O OF (by repeat constructor) X.glawput ⟨X.kPut, Wes.cons (We.name OF .head (Wes.cons (We.name OF (by repeat constructor) (Wes.nil (Wf.of_Wc O (c_putU O X (b := N' + 4) hA' hF6 (by exact ar106 hpl hts hpl5) (by rw [l2]; (exact ar56 ht hts hgl hw1 hol)) fun g2 hg2 hgl2 => ⟨_, .tail (.tail (.tail (.tail (.tail .head)))), ?_⟩))))))⟩)))
        have hF7 := hF6.set (pl' := pl5 + 1 + 1) (lf' := lf5) (t' := t ++ mkS ([] ++ (g ++ ("(" : PySem.Str).cps.toList) ++ w1 ++ (g2 ++ (opS plus).cps.toList)))
        have hp7 := hp6.setI (a := .dict (feedFs c (pl5 + 1 + 1) lf5 (t ++ mkS ([] ++ (g ++ ("(" : PySem.Str).cps.toList) ++ w1 ++ (g2 ++ (opS plus).cps.toList))))) hf
        generalize σ6.set f (.dict (feedFs c (pl5 + 1 + 1) lf5 (t ++ mkS ([] ++ (g ++ ("(" : PySem.Str).cps.toList) ++ w1 ++ (g2 ++ (opS plus).cps.toList))))) = σ7 at hF7 hp7 ⊢
        have l3 : ([] ++ (g ++ ("(" : PySem.Str).cps.toList) ++ w1 ++ (g2 ++ (opS plus).cps.toList)).length = g.length + 1 + w1.length + g2.length + (opS plus).length := by rw [List.length_append, l2, List.length_append, hol']; (exact ar369)
        refine Wx.cons (Ws.assign OF (We.call O (We.gname O OF (by repeat constructor) X.glawpart ⟨X.kPart, Wes.cons (We.name OF .head (Wes.cons (We.bin (We.name OF (by repeat constructor) (We.cint (.subI (Wes.nil (Wf.of_Wc O ?_))))))))⟩)))
        rw [en]
        refine c_partU CP O X hA' hF7 (by exact ar81 hpl hts htg hpl5) (by rw [l3]; (exact ar34 ht hts htg hgl hw1 hol hgl2)) fun σ8 pl8 lf8 w2 other hp8 hF8 hR2 hw2 hpl8 => ⟨_, .tail (.tail (.tail (.tail (.tail (.tail (.tail (.tail .head))))))), ?_⟩
        have hp8' := hp7.trans hp8 (.inl rfl) hf
        refine Wx.cons (Ws.expr OF (We.call O (We.gname O OF (by repeat constructor) X.glawput ⟨X.kPut, Wes.cons (We.name OF .head (Wes.cons (We.cstr (Wes.nil (Wf.of_Wc O (c_putU O X (b := N' + 4) hA' hF8 (by exact ar60 hpl hts htg hpl5 hpl8) (by rw [List.length_append, l3]; show _ + 1 ≤ _; (exact ar27 ht hts hgl hw1 hol hgl2 hw2)) fun g3 hg3 hgl3 => ?_))))))⟩)))
        refine Wx.cons (Ws.ret (We.tuple (by decide) (Wes.cons (We.cstr (Wes.cons (We.name OF (by repeat constructor) (Wes.cons (We.name OF (by repeat constructor) (Wes.cons (We.name OF (by repeat constructor) (Wes.cons (We.name OF (by repeat constructor) (Wes.nil ⟨by simp, ?_⟩)))))))))))))
        have et : [] ++ (g ++ ("(" : PySem.Str).cps.toList) ++ w1 ++ (g2 ++ (opS plus).cps.toList) ++ w2 ++ (g3 ++ (")" : PySem.Str).cps.toList) = g ++ 40 :: (w1 ++ (g2 ++ ((opS plus).cps.toList ++ (w2 ++ (g3 ++ [41]))))) := by
          show [] ++ (g ++ [40]) ++ w1 ++ (g2 ++ (opS plus).cps.toList) ++ w2 ++ (g3 ++ [41]) = _
          simp
        have hF9 := hF8.set (pl' := pl8 + 1) (lf' := lf8) (t' := t ++ mkS ([] ++ (g ++ ("(" : PySem.Str).cps.toList) ++ w1 ++ (g2 ++ (opS plus).cps.toList) ++ w2 ++ (g3 ++ (")" : PySem.Str).cps.toList)))
        have hp9 := hp8'.setI (a := .dict (feedFs c (pl8 + 1) lf8 (t ++ mkS ([] ++ (g ++ ("(" : PySem.Str).cps.toList) ++ w1 ++ (g2 ++ (opS plus).cps.toList) ++ w2 ++ (g3 ++ (")" : PySem.Str).cps.toList))))) hf
        rw [et] at hF9 hp9 ⊢
        have hR1' : RdP n (t.length + g.length + 1) w1 one := by
          rw [l1] at hR1; exact hR1
        have hR2' : RdP n (t.length + g.length + 1 + w1.length + g2.length + (opS plus).cps.toList.length) w2 other := by
          rw [l3] at hR2
          have e : t.length + (g.length + 1 + w1.length + g2.length + (opS plus).length) = t.length + g.length + 1 + w1.length + g2.length + (opS plus).cps.toList.length := by rw [hol']; (exact ar277)
          rw [← e]; exact hR2
        have := hq _ (pl8 + 1) lf8 _ _ hp9 hF9 (.bin hg hR1' hg2 hR2' hg3) (by simp only [List.length_append, List.length_cons, List.length_nil, hol']; (exact ar28 hts htg hgl hw1 hol hgl2 hw2 hgl3)) (by exact ar66 hts htg hpl5 hpl8)
        rw [node] at this
        rw [l2]
        rw [show t.length + (g.length + 1 + w1.length) + g2.length = t.length + g.length + 1 + w1.length + g2.length by (exact ar315)]
        exact this
  refine Wx.cons (Ws.assign OF (We.call O (We.gname O OF (by repeat constructor) X.glawdip ⟨X.kDip, Wes.cons (We.name OF .head (Wes.cons (e_many (nn := n + 1) O OF (by repeat constructor) .head hF (fun hn => ?_) ?_)))⟩)))
  · exact Wes.nil (Wf.of_Wc O (c_dip O X (b := N' + 5) (m := 5) hA' hF (by decide) (by exact ar214 hpl) fun r hr => ⟨_, .tail (.tail .head), go r hr⟩))
  · exact Wes.nil (Wf.of_Wc O (c_dip O X (b := N' + 5) (m := 2) hA' hF (by decide) (by exact ar214 hpl) fun r hr => ⟨_, .tail (.tail .head), go r (by (exact Nat.le_trans (by assumption) (by decide)))⟩))
end
theorem CPart.mono {n N N'} (h : CPart n N) (hN : N ≤ N') : CPart n N' := fun Γ A st σ E Q f c pl lf t O X hA => h Γ A st σ E Q f c pl lf t O X (hA.le hN)
theorem CStrL.mono {n N N'} (h : CStrL n N) (hN : N ≤ N') : CStrL n N' := fun Γ A st σ E Q f c pl lf t O X hA => h Γ A st σ E Q f c pl lf t O X (hA.le hN)
theorem all_law : ∀ n, n ≤ 5 → CPart n (6 * n + 20) ∧ CStrL n (6 * n + 20)
  | 0, _ => ⟨part_zero.mono (by decide), (c_lstring (N := 6) (fun m e => by (first | lia | omega)) (by decide)).mono (by decide)⟩
  | n + 1, h => by
    obtain ⟨c1, c2⟩ := all_law n (by (exact Nat.le_of_lt (by assumption)))
    refine ⟨(part_succ c1 c2 (by exact ar411)).mono (by exact ar374), (c_lstring (N := 6 * n + 20) (fun m e => ?_) h).mono (by exact Nat.le_refl _)⟩
    have : m = n := by (exact ar321 e)
    subst this; exact c1
end
section
open Builtin Builtin.Str
noncomputable def GH (v : List Nat) : Prop := ∀ c, v.head? = some c → c = 32 ∨ c = 10 ∨ c = 37 ∨ c = 47
theorem GH.nil : GH [] := fun c h => by simp at h
theorem Gap.cases {g : List Nat} (h : Gap g) : g = [32] ∨ g = [10] ∨ g = [37, 41, 34, 10] ∨ g = [47, 42, 40, 34, 42, 47] ∨ g = [32, 47, 42, 92, 40, 42, 47, 32] := by
  obtain ⟨s, hs, rfl⟩ := h
  simp only [gapsL, List.mem_cons, List.not_mem_nil, or_false] at hs
  rcases hs with rfl | rfl | rfl | rfl | rfl
  · exact .inl rfl
  · exact .inr (.inl rfl)
  · exact .inr (.inr (.inl rfl))
  · exact .inr (.inr (.inr (.inl rfl)))
  · exact .inr (.inr (.inr (.inr rfl)))
theorem Gap.gh {g v : List Nat} (h : Gap g) : GH (g ++ v) := by
  intro c hc
  rcases h.cases with rfl | rfl | rfl | rfl | rfl <;> (simp at hc; (first | lia | omega))
theorem Gap.skp {g v v' post : List Nat} (h : Gap g) (hv : Skp post v v') : Skp post (g ++ v) v' := by
  rcases h.cases with rfl | rfl | rfl | rfl | rfl
  · exact .blank rfl hv
  · exact .blank rfl hv
  · exact .line (l := [41, 34]) (w := 10 :: v) (by simp) (.inr rfl) (.blank rfl hv)
  · exact .block (m := [40, 34]) (by decide) hv
  · exact .blank rfl (.block (m := [92, 40]) (w := 32 :: v) (by decide) (.blank rfl hv))
noncomputable def Stp (c : Nat) : Prop := isBlank c = false ∧ c ≠ 37 ∧ c ≠ 47
theorem Stp.skp {c : Nat} {v post : List Nat} (h : Stp c) : Skp post (c :: v) (c :: v) := .other h.1 h.2.1 fun q => h.2.2 q.1
theorem stp_fig {c : Nat} (h : isFig c = true) : Stp c := by unfold isFig at h; unfold Stp isBlank; simp at h ⊢; (exact ar54 h)
theorem stp_let {c : Nat} (h : isLet c = true) : Stp c := by unfold isLet at h; unfold Stp isBlank; simp at h ⊢; (exact ar23 h)
theorem Gap.inn {g v post wr : List Nat} {s : List Bool} (h : Gap g) (hv : Skp post v v) (hi : Inn post (false :: s) v wr) : Inn post (false :: s) (g ++ v) wr := by
  rcases h.cases with rfl | rfl | rfl | rfl | rfl
  · exact .oth (by decide) (by decide) (by decide) (by decide) (fun q => absurd q.1 (by decide)) hi
  · exact .oth (by decide) (by decide) (by decide) (by decide) (fun q => absurd q.1 (by decide)) hi
  · exact .rem (.inl rfl) (.line (l := [41, 34]) (w := 10 :: v) (by simp) (.inr rfl) (.blank rfl hv)) (by simp; (exact ar384)) hi
  · exact .rem (.inr ⟨rfl, rfl⟩) (.block (m := [40, 34]) (by decide) hv) (by simp; (exact ar379)) hi
  · exact .oth (by decide) (by decide) (by decide) (by decide) (fun q => absurd q.1 (by decide)) (.rem (.inr ⟨rfl, rfl⟩) (.block (m := [92, 40]) (w := 32 :: v) (by decide) (.blank rfl hv)) (by simp; (exact ar376)) hi)
theorem inn_plain {u v post wr : List Nat} {s : List Bool} (hu : ∀ c ∈ u, c ≠ 40 ∧ c ≠ 34 ∧ c ≠ 41 ∧ c ≠ 37 ∧ c ≠ 47) (hi : Inn post (false :: s) v wr) : Inn post (false :: s) (u ++ v) wr := by
  induction u with
  | nil => exact hi
  | cons c u ih =>
    obtain ⟨h1, h2, h3, h4, h5⟩ := hu c (.head _)
    exact .oth h1 h2 h3 h4 (fun q => h5 q.1) (ih fun x hx => hu x (.tail _ hx))
theorem dig_all {k : Nat} (hk : k < 30) : let u := (((toString ((k : Nat) : Int) : String) : PySem.Str)).cps.toList
    (∀ c ∈ u, isFig c = true) ∧ u ≠ [] ∧ u.length ≤ 60 ∧ PySem.intText? (mkS u) = some ((k : Nat) : Int) := by
  have : ∀ k : Fin 30, let u := (((toString ((k.val : Nat) : Int) : String) : PySem.Str)).cps.toList
    (∀ c ∈ u, isFig c = true) ∧ u ≠ [] ∧ u.length ≤ 60 ∧ PySem.intText? (mkS u) = some ((k.val : Nat) : Int) := by decide +kernel
  exact this ⟨k, hk⟩
theorem word_all {s : PySem.Str} (hs : s ∈ lwordsL) : (∀ c ∈ s.cps.toList, (isLet c || isFig c || c == 95) = true) ∧ (∃ c r, s.cps.toList = c :: r ∧ isLet c = true) ∧ s.cps.toList.length ≤ 60 ∧ wordsL.any (· == mkS s.cps.toList) = false := by
  simp only [lwordsL, List.mem_cons, List.not_mem_nil, or_false] at hs
  rcases hs with rfl | rfl | rfl
  · exact ⟨by decide +kernel, ⟨_, _, rfl, by decide⟩, by decide +kernel, by decide +kernel⟩
  · exact ⟨by decide +kernel, ⟨_, _, rfl, by decide⟩, by decide +kernel, by decide +kernel⟩
  · exact ⟨by decide +kernel, ⟨_, _, rfl, by decide⟩, by decide +kernel, by decide +kernel⟩
theorem GH.noId {v : List Nat} (h : GH v) : ∀ c, v.head? = some c → isFig c = false ∧ isLet c = false ∧ c ≠ 95 := fun c hc => by
  rcases h c hc with rfl | rfl | rfl | rfl <;> decide
noncomputable def sgnS (s : PySem.Str) : Prop := s = "(" ∨ s = ")" ∨ s = "+" ∨ s = "++"
theorem prefix_head {c : Nat} {r x : List Nat} (h : c :: r <+: x) : x.head? = some c := by
  obtain ⟨y, hy⟩ := h; rw [← hy]; rfl
theorem tok_sgn {T : TkRel} {post g v : List Nat} {e d : Int} {ts : List Tk} {s : PySem.Str} (hs : sgnS s) (hg : Gap g) (hv : GH v) (h : TokR T post e d v ts) : TokR T post e d (g ++ (s.cps.toList ++ v)) (.sg s (atW e (s.cps.toList ++ v)) :: ts) := by
  obtain ⟨hk, hr⟩ := h
  have pls : ∀ (n : Nat) (x : List Nat), (∀ t ∈ signsL.take n, t.cps.toList.head? ≠ some 43 ∨ t = "++") → (∀ t ∈ signsL.take n, t.cps.toList ≠ []) → (∀ t ∈ signsL.take n, t = "++" → x.head? ≠ some 43) → ∀ t ∈ signsL.take n, ¬ t.cps.toList <+: 43 :: x := by
    intro n x h1 h0 h2 t ht hp
    have hne := h0 t ht
    rcases h1 t ht with q | q
    · cases hc : t.cps.toList with
      | nil => exact hne hc
      | cons c r => rw [hc] at hp q; have := prefix_head hp; simp at this; subst this; exact q rfl
    · have := h2 t ht q
      subst q
      obtain ⟨y, hy⟩ := hp
      have : (43 : Nat) :: 43 :: y = 43 :: x := hy
      cases this
      exact absurd rfl (h2 _ ht rfl)
  rcases hs with rfl | rfl | rfl | rfl
  · refine ⟨hg.skp (Stp.skp (c := 40) (by unfold Stp; decide)), .sg (pre := []) (suf := signsL.drop 1) (by decide) rfl (fun t ht => nomatch ht) ⟨40, [], rfl, by decide, by decide, by decide⟩ hk hr⟩
  · refine ⟨hg.skp (Stp.skp (c := 41) (by unfold Stp; decide)), .sg (pre := ["("]) (suf := signsL.drop 2) (by decide) rfl (fun t ht hp => ?_) ⟨41, [], rfl, by decide, by decide, by decide⟩ hk hr⟩
    rw [List.mem_singleton] at ht; subst ht
    have := prefix_head (c := 40) (r := []) hp
    cases this
  · refine ⟨hg.skp (Stp.skp (c := 43) (by unfold Stp; decide)), .sg (pre := signsL.take 26) (suf := signsL.drop 27) (by decide) rfl (fun t ht => pls 26 v (by decide) (by decide) (fun t ht q hc => by rcases hv 43 hc with q | q | q | q <;> cases q) t ht) ⟨43, [], rfl, by decide, by decide, by decide⟩ hk hr⟩
  · refine ⟨hg.skp (Stp.skp (c := 43) (by unfold Stp; decide)), .sg (pre := signsL.take 17) (suf := signsL.drop 18) (by decide) rfl (fun t ht => pls 17 (43 :: v) (by decide) (by decide) (fun t ht q hc => ?_) t ht) ⟨43, [43], rfl, by decide, by decide, by decide⟩ hk hr⟩
    have : ∀ t ∈ signsL.take 17, t ≠ "++" := by decide
    exact this t ht q
theorem RdP.gh {n a w p v} (h : RdP n a w p) : GH (w ++ v) := by
  cases h with
  | num hg => rw [List.append_assoc]; exact hg.gh
  | nam hg => rw [List.append_assoc]; exact hg.gh
  | str hg => rw [List.append_assoc]; exact hg.gh
  | call hg => rw [List.append_assoc]; exact hg.gh
  | bin hg => rw [List.append_assoc]; exact hg.gh
theorem rd_inn : (∀ {n a w p}, RdP n a w p → ∀ {post v wr : List Nat} {s : List Bool}, Inn post (false :: s) v wr → Inn post (false :: s) (w ++ v) wr) ∧ (∀ {n a fs w ps l}, RdB n a fs w ps l → ∀ {post z wr : List Nat} {s : List Bool}, Inn post (true :: s) z wr → Inn post (true :: s) (w ++ z) wr) := by
  refine rd_ind (mP := fun n a w p => ∀ {post v wr : List Nat} {s : List Bool}, Inn post (false :: s) v wr → Inn post (false :: s) (w ++ v) wr) (mB := fun n a fs w ps l => ∀ {post z wr : List Nat} {s : List Bool}, Inn post (true :: s) z wr → Inn post (true :: s) (w ++ z) wr) ?_ ?_ ?_ ?_ ?_ ?_ ?_ ?_ ?_
  · intro n a g k hg hk post v wr s hi
    obtain ⟨d1, d2, d3, d4⟩ := dig_all hk
    rw [List.append_assoc]
    generalize (((toString ((k : Nat) : Int) : String) : PySem.Str)).cps.toList = u at d1 d2
    cases u with
    | nil => exact absurd rfl d2
    | cons c u =>
      refine hg.inn (Stp.skp (stp_fig (d1 c (.head _)))) (inn_plain (fun x hx => ?_) hi)
      have := d1 x hx
      unfold isFig at this; simp at this; (exact ar100 this)
  · intro n a g sw hg hs post v wr s hi
    obtain ⟨d1, ⟨c, r, d2, d3⟩, -⟩ := word_all hs
    rw [List.append_assoc]
    refine hg.inn (by rw [d2]; exact Stp.skp (stp_let d3)) (inn_plain (fun x hx => ?_) hi)
    have := d1 x hx
    unfold isFig isLet at this; simp at this; (exact ar12 this)
  · intro n a g w ps l hg h hl ih post v wr s hi
    rw [List.append_assoc]
    refine hg.inn (Stp.skp (c := 34) (by unfold Stp; decide)) (.qu ?_)
    show Inn post _ (w ++ [34] ++ v) wr
    rw [List.append_assoc]
    exact ih (.qEnd hi)
  · intro n a g sw g2 w one g3 hg hs hg2 h hg3 ih post v wr s hi
    obtain ⟨d1, ⟨c, r, d2, d3⟩, -⟩ := word_all hs
    simp only [List.append_assoc, List.cons_append, List.nil_append]
    refine hg.inn (by rw [d2]; exact Stp.skp (stp_let d3)) (inn_plain (fun x hx => ?_) (hg2.inn (Stp.skp (c := 40) (by unfold Stp; decide)) (.op (ih (hg3.inn (Stp.skp (c := 41) (by unfold Stp; decide)) (.cl (by simp) hi))))))
    have := d1 x hx
    unfold isFig isLet at this; simp at this; (exact ar12 this)
  · intro n a g w1 one g2 plus w2 other g3 hg h1 hg2 h2 hg3 ih1 ih2 post v wr s hi
    simp only [List.append_assoc, List.cons_append, List.nil_append]
    refine hg.inn (Stp.skp (c := 40) (by unfold Stp; decide)) (.op (ih1 (hg2.inn ?_ (inn_plain ?_ (ih2 (hg3.inn (Stp.skp (c := 41) (by unfold Stp; decide)) (.cl (by simp) hi)))))))
    · cases plus
      · exact Stp.skp (c := 43) (by unfold Stp; decide)
      · exact Stp.skp (c := 43) (by unfold Stp; decide)
    · cases plus <;> decide
  · intro n a fs post z wr s hi
    exact hi
  · intro n a fs c w ps l hc r ihr post z wr s hi
    have : ∀ c ∈ loneC, c ≠ 92 ∧ c ≠ 34 := by decide
    exact .inS (this _ hc).1 (this _ hc).2 (ihr hi)
  · intro n a fs c v w ps l h r ihr post z wr s hi
    exact .esc (by rcases h with ⟨rfl, _⟩ | ⟨rfl, _⟩ | ⟨rfl, _⟩ | ⟨rfl, _⟩ <;> decide) (ihr hi)
  · intro n a fs wi g w p ps l h hg r ih ihr post z wr s hi
    simp only [List.append_assoc, List.cons_append, List.nil_append]
    exact .escP (ih (hg.inn (Stp.skp (c := 41) (by unfold Stp; decide)) (.cl (by simp) (ihr hi))))
theorem RdP.inn {n a w p} (h : RdP n a w p) : ∀ {post v wr : List Nat} {s : List Bool}, Inn post (false :: s) v wr → Inn post (false :: s) (w ++ v) wr := rd_inn.1 h
end
section
open Builtin Builtin.Str
theorem atW_app {e : Int} {a : Nat} {g x : List Nat} (h : (a : Int) = atW e (g ++ x)) : ((a + g.length : Nat) : Int) = atW e x := by
  unfold atW at h ⊢
  rw [List.length_append] at h
  push_cast at h ⊢; (exact ar271 h)
theorem atW_cons {e : Int} {a c : Nat} {x : List Nat} (h : (a : Int) = atW e (c :: x)) : ((a + 1 : Nat) : Int) = atW e x := by
  have := atW_app (g := [c]) (x := x) h
  exact this
theorem tok_fin {k : Nat} {post : List Nat} {e d : Int} : TokR (TokLv k) post e d [] [.fin e] := ⟨.nil, .fin⟩
theorem gap_fin {k : Nat} {post g : List Nat} {e d : Int} (hg : Gap g) : TokR (TokLv k) post e d g [.fin e] := by
  have := hg.skp (v := []) (v' := []) (post := post) .nil
  rw [List.append_nil] at this
  exact ⟨this, .fin⟩
theorem rd_tok : (∀ {n a w p}, RdP n a w p → ∀ {k : Nat} {post v : List Nat} {e d : Int} {ts2 : List Tk}, n ≤ k → 0 ≤ d → 2 * d + n ≤ 6 → (a : Int) = atW e (w ++ v) → GH v → TokR (TokLv k) post e d v ts2 → ∃ ts, PT p ts ∧ TokR (TokLv k) post e d (w ++ v) (ts ++ ts2)) ∧ (∀ {n a fs w ps l}, RdB n a fs w ps l → ∀ {k : Nat} {post z : List Nat} {e d : Int} {o : Option (List Nat)}, n ≤ k → 0 ≤ d → 2 * d + n ≤ 5 → (a : Int) = atW e (w ++ z) → (∀ fs, BodyR (TokLv k) post e d fs z [] (mkS fs) o) → ∃ tps, PTs ps tps ∧ BodyR (TokLv k) post e d fs (w ++ z) tps l o) := by
  refine rd_ind (mP := fun n a w p => ∀ {k : Nat} {post v : List Nat} {e d : Int} {ts2 : List Tk}, n ≤ k → 0 ≤ d → 2 * d + n ≤ 6 → (a : Int) = atW e (w ++ v) → GH v → TokR (TokLv k) post e d v ts2 → ∃ ts, PT p ts ∧ TokR (TokLv k) post e d (w ++ v) (ts ++ ts2)) (mB := fun n a fs w ps l => ∀ {k : Nat} {post z : List Nat} {e d : Int} {o : Option (List Nat)}, n ≤ k → 0 ≤ d → 2 * d + n ≤ 5 → (a : Int) = atW e (w ++ z) → (∀ fs, BodyR (TokLv k) post e d fs z [] (mkS fs) o) → ∃ tps, PTs ps tps ∧ BodyR (TokLv k) post e d fs (w ++ z) tps l o) ?_ ?_ ?_ ?_ ?_ ?_ ?_ ?_ ?_
  · intro n a g kk hg hk k post v e d ts2 hn hd hd6 ha hv h
    obtain ⟨d1, d2, d3, d4⟩ := dig_all hk
    obtain ⟨hs, hr⟩ := h
    rw [List.append_assoc] at ha ⊢
    have hp := atW_app ha
    rw [hp]
    refine ⟨[.num kk _], .num, ?_⟩
    generalize (((toString ((kk : Nat) : Int) : String) : PySem.Str)).cps.toList = u at d1 d2 d3 d4
    refine ⟨hg.skp ?_, .num d1 d2 d3 hv.noId d4 hs hr⟩
    cases u with
    | nil => exact absurd rfl d2
    | cons c u => exact Stp.skp (stp_fig (d1 c (.head _)))
  · intro n a g sw hg hsw k post v e d ts2 hn hd hd6 ha hv h
    obtain ⟨d1, ⟨c, r, d2, d3⟩, d4, d5⟩ := word_all hsw
    obtain ⟨hs, hr⟩ := h
    rw [List.append_assoc] at ha ⊢
    have hp := atW_app ha
    rw [hp]
    have hsk : Skp post (sw.cps.toList ++ v) (sw.cps.toList ++ v) := by rw [d2]; exact Stp.skp (stp_let d3)
    refine ⟨[.nam sw _], .nam, ⟨hg.skp hsk, ?_⟩⟩
    have := TokW.nam (T := TokLv k) (post := post) (e := e) (d := d) (u := sw.cps.toList) (w := v) d1 ⟨c, r, d2, d3⟩ d4 (fun c hc => by obtain ⟨q1, q2, q3⟩ := hv.noId c hc; simp [q1, q2, q3]) d5 hs hr
    rw [mkS_cps] at this
    exact this
  · intro n a g w ps l hg hb hl ih k post v e d ts2 hn hd hd6 ha hv h
    obtain ⟨hs, hr⟩ := h
    have e1 : g ++ 34 :: (w ++ [34]) ++ v = g ++ (34 :: (w ++ (34 :: v))) := by simp
    rw [e1] at ha ⊢
    have hp := atW_app ha
    rw [hp]
    obtain ⟨tps, t1, t2⟩ := ih (k := k) (post := post) (e := e) (d := d) (z := 34 :: v) (o := some v) (by (exact Nat.le_of_lt (by assumption))) hd (by push_cast at hd6; (exact ar226 hd6)) (atW_cons hp) (fun fs => .fin)
    exact ⟨[.str tps l _], .str t1, ⟨hg.skp (Stp.skp (c := 34) (by unfold Stp; decide)), .str t2 hs hr⟩⟩
  · intro n a g sw g2 w one g3 hg hsw hg2 h1 hg3 ih k post v e d ts2 hn hd hd6 ha hv h
    obtain ⟨d1, ⟨c, r, d2, d3⟩, d4, d5⟩ := word_all hsw
    have e1 : g ++ (sw.cps.toList ++ (g2 ++ 40 :: (w ++ (g3 ++ [41])))) ++ v = g ++ (sw.cps.toList ++ (g2 ++ (("(" : PySem.Str).cps.toList ++ (w ++ (g3 ++ ((")" : PySem.Str).cps.toList ++ v)))))) := by
      show _ = g ++ (sw.cps.toList ++ (g2 ++ ([40] ++ (w ++ (g3 ++ ([41] ++ v))))))
      simp
    rw [e1] at ha ⊢
    have hp := atW_app ha
    have hp2 := atW_app (atW_app (atW_app hp))
    rw [hp]
    have c1 := tok_sgn (s := ")") (.inr (.inl rfl)) hg3 hv h
    obtain ⟨ts, t1, t2⟩ := ih (k := k) (post := post) (e := e) (d := d) (by (exact Nat.le_of_lt (by assumption))) hd (by push_cast at hd6; (exact ar217 hd6)) hp2 hg3.gh c1
    obtain ⟨hs, hr⟩ := tok_sgn (s := "(") (.inl rfl) hg2 h1.gh t2
    have hsk : ∀ x, Skp post (sw.cps.toList ++ x) (sw.cps.toList ++ x) := fun x => by rw [d2]; exact Stp.skp (stp_let d3)
    have := TokW.nam (T := TokLv k) (post := post) (e := e) (d := d) (u := sw.cps.toList) (w := g2 ++ (("(" : PySem.Str).cps.toList ++ (w ++ (g3 ++ ((")" : PySem.Str).cps.toList ++ v))))) d1 ⟨c, r, d2, d3⟩ d4 (fun c hc => by obtain ⟨q1, q2, q3⟩ := hg2.gh.noId c hc; simp [q1, q2, q3]) d5 hs hr
    rw [mkS_cps] at this
    refine ⟨_, .call t1 (b := atW e (("(" : PySem.Str).cps.toList ++ (w ++ (g3 ++ ((")" : PySem.Str).cps.toList ++ v))))) (c := atW e ((")" : PySem.Str).cps.toList ++ v)), ⟨hg.skp (hsk _), ?_⟩⟩
    simpa using this
  · intro n a g w1 one g2 plus w2 other g3 hg h1 hg2 h2 hg3 ih1 ih2 k post v e d ts2 hn hd hd6 ha hv h
    have e1 : g ++ 40 :: (w1 ++ (g2 ++ ((opS plus).cps.toList ++ (w2 ++ (g3 ++ [41]))))) ++ v = g ++ (("(" : PySem.Str).cps.toList ++ (w1 ++ (g2 ++ ((opS plus).cps.toList ++ (w2 ++ (g3 ++ ((")" : PySem.Str).cps.toList ++ v))))))) := by
      show _ = g ++ ([40] ++ (w1 ++ (g2 ++ ((opS plus).cps.toList ++ (w2 ++ (g3 ++ ([41] ++ v)))))))
      simp
    rw [e1] at ha ⊢
    have hp1 := atW_app (atW_app ha)
    have hp3 := atW_app (atW_app hp1)
    have hp3' : ((_ + g.length + 1 + w1.length + g2.length : Nat) : Int) = _ := hp3
    have hop : sgnS (opS plus) := by cases plus; exact .inr (.inr (.inr rfl)); exact .inr (.inr (.inl rfl))
    have c1 := tok_sgn (s := ")") (.inr (.inl rfl)) hg3 hv h
    obtain ⟨t2s, a1, a2⟩ := ih2 (k := k) (post := post) (e := e) (d := d) (by (exact Nat.le_of_lt (by assumption))) hd (by push_cast at hd6; (exact ar217 hd6)) (atW_app hp3) hg3.gh c1
    have c2 := tok_sgn hop hg2 h2.gh a2
    obtain ⟨t1s, b1, b2⟩ := ih1 (k := k) (post := post) (e := e) (d := d) (by (exact Nat.le_of_lt (by assumption))) hd (by push_cast at hd6; (exact ar217 hd6)) hp1 hg2.gh c2
    have c3 := tok_sgn (s := "(") (.inl rfl) hg h1.gh b2
    rw [hp3']
    refine ⟨_, .bin b1 a1 (b := atW e (("(" : PySem.Str).cps.toList ++ (w1 ++ (g2 ++ ((opS plus).cps.toList ++ (w2 ++ (g3 ++ ((")" : PySem.Str).cps.toList ++ v)))))))) (c := atW e ((")" : PySem.Str).cps.toList ++ v)), ?_⟩
    simpa using c3
  · intro n a fs k post z e d o hn hd hd5 ha hz
    exact ⟨[], .nil, hz _⟩
  · intro n a fs c w ps l hc r ihr k post z e d o hn hd hd5 ha hz
    have : ∀ c ∈ loneC, c ≠ 34 ∧ c ≠ 10 ∧ c ≠ 92 := by decide
    obtain ⟨q1, q2, q3⟩ := this _ hc
    obtain ⟨tps, t1, t2⟩ := ihr hn hd hd5 (atW_cons ha) hz
    exact ⟨tps, t1, .ch q1 q2 q3 t2⟩
  · intro n a fs c v w ps l h r ihr k post z e d o hn hd hd5 ha hz
    obtain ⟨tps, t1, t2⟩ := ihr hn hd hd5 (atW_cons (atW_cons ha)) hz
    exact ⟨tps, t1, .esc h t2⟩
  · intro n a fs wi g w p ps l h hg r ih ihr k post z e d o hn hd hd5 ha hz
    obtain ⟨k', rfl⟩ : ∃ k', k = k' + 1 := ⟨k - 1, by (exact ar85 hn)⟩
    have e1 : 92 :: 40 :: (wi ++ (g ++ 41 :: w)) ++ z = 92 :: 40 :: ((wi ++ g) ++ 41 :: (w ++ z)) := by simp
    rw [e1] at ha ⊢
    have hp := atW_cons (atW_cons ha)
    have hp2 := atW_cons (atW_app hp)
    obtain ⟨ts, t1, t2⟩ := ih (k := k') (post := 41 :: (w ++ z) ++ post) (v := g) (e := atW e (41 :: (w ++ z))) (d := d + 1) (ts2 := [.fin (atW e (41 :: (w ++ z)))]) (by exact ar332 hn) (by exact ar133 hd) (by push_cast at hd5; (exact ar207 hd5)) (by
      unfold atW at hp ⊢; simp at hp ⊢; (exact ar163 hp)) (by have := hg.gh (v := []); rwa [List.append_nil] at this) (gap_fin hg)
    obtain ⟨tps, b1, b2⟩ := ihr (k := k' + 1) (post := post) (z := z) (e := e) (d := d) (o := o) hn hd hd5 (by rw [← hp2]; simp; (exact ar372)) hz
    refine ⟨_, .cons t1 b1 (e := _), .inner (by push_cast at hd5; (exact ar179 hd5)) ?_ t2 b2⟩
    rw [List.append_assoc]
    exact h.inn (hg.inn (Stp.skp (c := 41) (by unfold Stp; decide)) .fin)
theorem RdP.tok {n a w p} (h : RdP n a w p) : ∀ {k : Nat} {post v : List Nat} {e d : Int} {ts2 : List Tk}, n ≤ k → 0 ≤ d → 2 * d + n ≤ 6 → (a : Int) = atW e (w ++ v) → GH v → TokR (TokLv k) post e d v ts2 → ∃ ts, PT p ts ∧ TokR (TokLv k) post e d (w ++ v) (ts ++ ts2) := rd_tok.1 h
theorem RdB.tok {n a fs w ps l} (h : RdB n a fs w ps l) : ∀ {k : Nat} {post z : List Nat} {e d : Int} {o : Option (List Nat)}, n ≤ k → 0 ≤ d → 2 * d + n ≤ 5 → (a : Int) = atW e (w ++ z) → (∀ fs, BodyR (TokLv k) post e d fs z [] (mkS fs) o) → ∃ tps, PTs ps tps ∧ BodyR (TokLv k) post e d fs (w ++ z) tps l o := rd_tok.2 h
end
section
open Builtin Builtin.Str
mutual
noncomputable def sok : V → Bool
  | .str s => PyData.strOk s
  | .tup ws => soks ws
  | _ => true
noncomputable def soks : List V → Bool
  | [] => true
  | w :: ws => sok w && soks ws
end
theorem dat_toD (W : V) : dat W = true → sok W = true → ∃ d, toD W = some d ∧ d.canLay0 = true ∧ d.depth ≤ hgt W :=
  W.rec (motive_1 := fun W => dat W = true → sok W = true → ∃ d, toD W = some d ∧ d.canLay0 = true ∧ d.depth ≤ hgt W) (motive_2 := fun ws => dats ws = true → soks ws = true → ∃ ds, toDs ws = some ds ∧ PyData.canLayAll0 ds = true ∧ PyData.depthAll ds ≤ hgts ws)
    (fun h _ => nomatch h) (fun _ h _ => nomatch h) (fun i _ _ => ⟨.int i, rfl, rfl, Nat.le_refl _⟩)
    (fun s _ h => ⟨.str s, rfl, by rw [sok] at h; rw [PyData.canLay0]; exact h, Nat.le_refl _⟩)
    (fun ws ih h1 h2 => by
      rw [dat] at h1
      rw [sok] at h2
      obtain ⟨ds, e1, e2, e3⟩ := ih h1 h2
      refine ⟨.tuple ds, by rw [toD, e1]; rfl, by rw [PyData.canLay0]; exact e2, ?_⟩
      rw [PyData.depth, hgt]; (first | lia | omega))
    (fun _ h _ => nomatch h) (fun _ h _ => nomatch h) (fun _ h _ => nomatch h) (fun _ h _ => nomatch h)
    (fun _ _ => ⟨[], rfl, rfl, Nat.le_refl _⟩)
    (fun w ws i1 i2 h1 h2 => by
      rw [dats, Bool.and_eq_true] at h1
      rw [soks, Bool.and_eq_true] at h2
      obtain ⟨d, a1, a2, a3⟩ := i1 h1.1 h2.1
      obtain ⟨ds, b1, b2, b3⟩ := i2 h1.2 h2.2
      refine ⟨d :: ds, by rw [toDs, a1, b1], by rw [PyData.canLayAll0, a2, b2]; rfl, ?_⟩
      rw [PyData.depthAll, hgts]; exact Nat.max_le.mpr ⟨Nat.le_trans a3 (Nat.le_max_left _ _), Nat.le_trans b3 (Nat.le_max_right _ _)⟩)
structure Bd (n : Nat) (p : Pt) : Prop where
  dep : dep p ≤ n
  frm : frm p ≤ 20 * n + 10
  tup : isT (node p) = true
  dat : Mine.dat (node p) = true
  hgt : Mine.hgt (node p) ≤ 10 * n + 5
  siz : Mine.siz (node p) ≤ 20 * 4 ^ n
  tkn : tkn p ≤ 4 ^ (n + 1)
  fits : n ≤ 6 → fits p
  sok : Mine.sok (node p) = true
theorem Bd.fitN {n p} (h : Bd n p) (hn : n ≤ 6) : FitN (node p) ∧ Mine.tkn p ≤ 100000 := by
  have h1 := h.hgt; have h2 := h.siz; have h3 := h.tkn
  have hc : n = 0 ∨ n = 1 ∨ n = 2 ∨ n = 3 ∨ n = 4 ∨ n = 5 ∨ n = 6 := by (exact ar98 hn)
  refine ⟨⟨h.tup, h.dat, by (exact ar284 hn h1), ?_⟩, ?_⟩
  · rcases hc with rfl | rfl | rfl | rfl | rfl | rfl | rfl <;> (simp at h2; (exact Nat.le_trans (by assumption) (by decide)))
  · rcases hc with rfl | rfl | rfl | rfl | rfl | rfl | rfl <;> (simp at h3; (exact Nat.le_trans (by assumption) (by decide)))
structure BdB (n : Nat) (ps : List (PySem.Str × Pt)) (l : PySem.Str) : Prop where
  zero : n = 0 → ps = []
  all : ∀ x ∈ ps, Bd (n - 1) x.2 ∧ PyData.strOk x.1 = true
  last : PyData.strOk l = true
theorem bd_deps {n : Nat} {ps : List (PySem.Str × Pt)} (h : ∀ x ∈ ps, Bd n x.2) : deps ps ≤ n + 1 := by
  induction ps with
  | nil => simp [deps]
  | cons x r ih =>
    obtain ⟨s, p⟩ := x
    have h1 := (h _ (.head _)).dep
    have h2 := ih fun x hx => h x (.tail _ hx)
    rw [deps]
    simp only at h1
    (exact ar113 h1 h2)
theorem bd_frms {n : Nat} {ps : List (PySem.Str × Pt)} (h : ∀ x ∈ ps, Bd n x.2) : frms ps ≤ 20 * (n + 1) + 10 := by
  induction ps with
  | nil => simp [frms]
  | cons x r ih =>
    obtain ⟨s, p⟩ := x
    have h1 := (h _ (.head _)).frm
    have h2 := ih fun x hx => h x (.tail _ hx)
    rw [frms]
    simp only at h1
    (exact ar77 h1 h2)
theorem bd_fitss {n : Nat} {ps : List (PySem.Str × Pt)} (hn : n ≤ 6) (h : ∀ x ∈ ps, Bd n x.2) : fitss ps := by
  induction ps with
  | nil => trivial
  | cons x r ih =>
    obtain ⟨s, p⟩ := x
    have h1 := h _ (.head _)
    have h2 := ih fun x hx => h x (.tail _ hx)
    rw [fitss]
    obtain ⟨f1, f2⟩ := h1.fitN hn
    exact ⟨f1, f2, h1.fits hn, h2⟩
theorem hgt_jNode (a : Int) (x y : V) : hgt (jNode a x y) = 1 + max (hgt x) (hgt y) := by simp [hgt, hgts]
theorem hgt_cNode (a : Int) (x : V) : hgt (cNode a x) = 2 + hgt x := by simp [hgt, hgts]; (exact ar351)
theorem hgt_sNode (a : Int) (s : PySem.Str) : hgt (sNode a s) = 1 := by simp [hgt, hgts]
theorem siz_jNode (a : Int) (x y : V) : siz (jNode a x y) = 1 + siz x + siz y := by simp [siz, sizs]; (exact ar400)
theorem siz_cNode (a : Int) (x : V) : siz (cNode a x) = 2 + siz x := by simp [siz, sizs]; (exact ar351)
theorem siz_sNode (a : Int) (s : PySem.Str) : siz (sNode a s) = 1 := by simp [siz, sizs]
theorem dat_jNode (a : Int) {x y : V} (hx : dat x = true) (hy : dat y = true) : dat (jNode a x y) = true := by simp [dat, dats, hx, hy]
theorem dat_cNode (a : Int) {x : V} (hx : dat x = true) : dat (cNode a x) = true := by simp [dat, dats, hx]
theorem ok_lit : PyData.strOk "bin" = true ∧ PyData.strOk "++" = true ∧ PyData.strOk "call" = true ∧ PyData.strOk "show" = true ∧ PyData.strOk "str" = true ∧ PyData.strOk "int" = true ∧ PyData.strOk "name" = true ∧ PyData.strOk "+" = true := by decide +kernel
theorem sok_jNode (a : Int) {x y : V} (hx : sok x = true) (hy : sok y = true) : sok (jNode a x y) = true := by simp [sok, soks, hx, hy, ok_lit]
theorem sok_cNode (a : Int) {x : V} (hx : sok x = true) : sok (cNode a x) = true := by simp [sok, soks, hx, ok_lit]
theorem sok_sNode (a : Int) {s : PySem.Str} (hs : PyData.strOk s = true) : sok (sNode a s) = true := by simp [sok, soks, hs, ok_lit]
theorem dat_sNode (a : Int) (s : PySem.Str) : dat (sNode a s) = true := by simp [dat, dats]
structure NB (H Z : Nat) (W : V) : Prop where
  tup : isT W = true
  dat : Mine.dat W = true
  hgt : Mine.hgt W ≤ H
  siz : Mine.siz W ≤ Z
  sok : Mine.sok W = true
theorem NB.s (a : Int) {s : PySem.Str} (hs : PyData.strOk s = true) : NB 1 1 (sNode a s) := ⟨rfl, dat_sNode a s, Nat.le_of_eq (hgt_sNode a s), Nat.le_of_eq (siz_sNode a s), sok_sNode a hs⟩
theorem NB.c (a : Int) {H Z : Nat} {W : V} (h : NB H Z W) : NB (H + 2) (Z + 2) (cNode a W) := ⟨rfl, dat_cNode a h.dat, by rw [hgt_cNode]; have := h.hgt; (exact ar158 this), by rw [siz_cNode]; have := h.siz; (exact ar158 this), sok_cNode a h.sok⟩
theorem NB.j (a : Int) {H1 Z1 H2 Z2 H : Nat} {x y : V} (h1 : NB H1 Z1 x) (h2 : NB H2 Z2 y) (hH : H1 ≤ H ∧ H2 ≤ H) : NB (H + 1) (Z1 + Z2 + 1) (jNode a x y) :=
  ⟨rfl, dat_jNode a h1.dat h2.dat, by rw [hgt_jNode]; have := h1.hgt; have := h2.hgt; (exact ar92 hH (by assumption) this), by rw [siz_jNode]; have := h1.siz; have := h2.siz; (exact ar186 (by assumption) this), sok_jNode a h1.sok h2.sok⟩
theorem NB.fold (a : Int) {H Z : Nat} {l : PySem.Str} (hl : PyData.strOk l = true) (ps : List (PySem.Str × Pt)) (acc : V) (H1 Z1 : Nat) (hH : H + 2 ≤ H1) (hp : ∀ x ∈ ps, NB H Z (node x.2) ∧ PyData.strOk x.1 = true) (h : NB H1 Z1 acc) : NB (H1 + 2 * ps.length + 1) (Z1 + ps.length * (Z + 5) + 2) (strFold a acc ps l) := by
  induction ps generalizing acc H1 Z1 with
  | nil =>
    rw [strFold]
    have := NB.j a (H := H1) h (NB.s a hl) ⟨Nat.le_refl _, by (first | lia | omega)⟩
    exact ⟨this.tup, this.dat, by simpa using this.hgt, by have := this.siz; simp; (assumption), this.sok⟩
  | cons x r ih =>
    obtain ⟨s, p⟩ := x
    obtain ⟨q1, q2⟩ : NB H Z (node p) ∧ PyData.strOk s = true := hp (s, p) (.head _)
    have a1 := NB.j a (H := H1) h (NB.s a q2) ⟨Nat.le_refl _, by (first | lia | omega)⟩
    have a2 := NB.j a (H := H1 + 1) a1 (NB.c a q1) ⟨Nat.le_refl _, by (first | lia | omega)⟩
    rw [strFold]
    have := ih _ _ _ (by (first | lia | omega)) (fun x hx => hp x (.tail _ hx)) a2
    refine ⟨this.tup, this.dat, ?_, ?_, this.sok⟩
    · have := this.hgt; simp only [List.length_cons]; (first | lia | omega)
    · have := this.siz; simp only [List.length_cons, Nat.add_mul, Nat.one_mul]; (first | lia | omega)
theorem NB.node (a : Int) {H Z : Nat} {ps : List (PySem.Str × Pt)} {l : PySem.Str} (hl : PyData.strOk l = true) (hp : ∀ x ∈ ps, NB H Z (Mine.node x.2) ∧ PyData.strOk x.1 = true) (h3 : ps.length ≤ 3) : NB (H + 8) (20 + 3 * Z) (strNode a ps l) := by
  cases ps with
  | nil =>
    rw [strNode]
    have := NB.s a hl
    exact ⟨this.tup, this.dat, by have := this.hgt; (exact ar264 this), by have := this.siz; (exact ar235 this), this.sok⟩
  | cons x r =>
    obtain ⟨s, p⟩ := x
    obtain ⟨q1, q2⟩ : NB H Z (Mine.node p) ∧ PyData.strOk s = true := hp (s, p) (.head _)
    rw [strNode]
    have a1 := NB.j a (H := H + 2) (NB.s a q2) (NB.c a q1) ⟨by (exact ar419), Nat.le_refl _⟩
    have := NB.fold a hl r _ _ _ (by exact ar354) (fun x hx => hp x (.tail _ hx)) a1
    simp only [List.length_cons] at h3
    refine ⟨this.tup, this.dat, ?_, ?_, this.sok⟩
    · have := this.hgt; (exact ar96 h3 this)
    · have h1 := this.siz
      have : r.length * (Z + 5) ≤ 2 * (Z + 5) := Nat.mul_le_mul_right _ (by exact ar360 h3)
      (exact ar19 h1 this)
theorem Bd.nb {n p} (h : Bd n p) : NB (10 * n + 5) (20 * 4 ^ n) (Mine.node p) := ⟨h.tup, h.dat, h.hgt, h.siz, h.sok⟩
theorem pow_ge (n : Nat) : 1 ≤ 4 ^ n := Nat.one_le_pow _ _ (by decide)
theorem bd_str {n : Nat} {a : Int} {ps : List (PySem.Str × Pt)} {l : PySem.Str} (h : BdB n ps l) (h3 : ps.length ≤ 3) : Bd (n + 1) (.str a ps l) := by
  have hp := pow_ge n
  have hp1 : 4 ^ (n + 1) = 4 * 4 ^ n := by rw [Nat.pow_succ]; (exact ar408)
  have hp2 : 4 ^ (n + 2) = 4 * (4 * 4 ^ n) := by rw [Nat.pow_succ, hp1]; (exact ar405)
  have nb : NB (10 * (n + 1) + 5) (20 * 4 ^ (n + 1)) (strNode a ps l) := by
    cases n with
    | zero =>
      have e := h.zero rfl
      subst e
      rw [strNode]
      have := NB.s a h.last
      exact ⟨this.tup, this.dat, by have := this.hgt; (exact Nat.le_trans (by assumption) (by decide)), by have := this.siz; simp; (exact Nat.le_trans (by assumption) (by decide)), this.sok⟩
    | succ m =>
      have := NB.node a h.last (fun x hx => ⟨(h.all x hx).1.nb, (h.all x hx).2⟩) h3
      have e : m + 1 - 1 = m := by (exact ar409)
      rw [e] at this
      refine ⟨this.tup, this.dat, by have := this.hgt; (exact ar161 this), ?_, this.sok⟩
      have h1 := this.siz
      have hpm := pow_ge m
      have e1 : 4 ^ (m + 1) = 4 * 4 ^ m := by rw [Nat.pow_succ]; (exact ar408)
      rw [hp1, e1]; (first | lia | omega)
  have hd : deps ps ≤ n ∧ frms ps ≤ 20 * n + 10 := by
    cases n with
    | zero => have e := h.zero rfl; subst e; simp [deps, frms]
    | succ m => exact ⟨bd_deps fun x hx => (h.all x hx).1, bd_frms fun x hx => (h.all x hx).1⟩
  refine ⟨by rw [dep]; (exact ar278 hd), by rw [frm]; (exact ar208 hd), by rw [node]; exact nb.tup, by rw [node]; exact nb.dat, by rw [node]; exact nb.hgt, by rw [node]; exact nb.siz, by rw [tkn]; (first | lia | omega), fun hn => ?_, by rw [node]; exact nb.sok⟩
  rw [fits]
  exact ⟨by (exact Nat.le_trans (by assumption) (by decide)), bd_fitss (by exact ar80 hn) fun x hx => (h.all x hx).1⟩
theorem strOk_of {fs : List Nat} (h : ∀ c ∈ fs, c < 1000) : PyData.strOk (mkS fs) = true := by
  unfold PyData.strOk
  rw [Array.all_eq_true_iff_forall_mem]
  intro c hc
  have := h c (by simpa using hc)
  simp; (exact Nat.le_trans (by assumption) (by decide))
theorem rd_bd : (∀ {n a w p}, RdP n a w p → Bd n p) ∧ (∀ {n a fs w ps l}, RdB n a fs w ps l → (∀ c ∈ fs, c < 1000) → BdB n ps l) := by
  refine rd_ind (mP := fun n a w p => Bd n p) (mB := fun n a fs w ps l => (∀ c ∈ fs, c < 1000) → BdB n ps l) ?_ ?_ ?_ ?_ ?_ ?_ ?_ ?_ ?_
  · intro n a g k hg hk
    have hp := pow_ge n
    refine ⟨by simp [dep], by simp [frm], by simp [node, isT], by simp [node, dat, dats], by simp [node, hgt, hgts] <;> (first | lia | omega), by simp [node, siz, sizs] <;> (exact ar297 hp), by rw [tkn]; exact pow_ge _, fun _ => trivial, by simp [node, sok, soks, ok_lit]⟩
  · intro n a g s hg hs
    have hp := pow_ge n
    have hs' : PyData.strOk s = true := by
      have : ∀ s ∈ lwordsL, PyData.strOk s = true := by decide +kernel
      exact this s hs
    refine ⟨by simp [dep], by simp [frm], by simp [node, isT], by simp [node, dat, dats], by simp [node, hgt, hgts] <;> (first | lia | omega), by simp [node, siz, sizs] <;> (exact ar297 hp), by rw [tkn]; exact pow_ge _, fun _ => trivial, by simp [node, sok, soks, ok_lit, hs']⟩
  · intro n a g w ps l hg h hl ih
    exact bd_str (ih (by simp)) hl
  · intro n a g s g2 w one g3 hg hs hg2 h hg3 ih
    have b := ih
    have hp := pow_ge n
    have hs' : PyData.strOk s = true := by
      have : ∀ s ∈ lwordsL, PyData.strOk s = true := by decide +kernel
      exact this s hs
    have e1 : 4 ^ (n + 1) = 4 * 4 ^ n := by rw [Nat.pow_succ]; (exact ar408)
    have e2 : 4 ^ (n + 1 + 1) = 4 * (4 * 4 ^ n) := by rw [Nat.pow_succ, e1]; (exact ar405)
    have h1 := b.dep; have h2 := b.frm; have h3 := b.hgt; have h4 := b.siz; have h5 := b.tkn
    rw [e1] at h5
    refine ⟨by rw [dep]; (exact ar286 h1), by rw [frm]; (exact ar224 h2), by simp [node, isT], by simp [node, dat, dats, b.dat], by simp [node, hgt, hgts] <;> (exact ar233 h3), by simp [node, siz, sizs] <;> (exact ar73 hp e1 h4), by rw [tkn, e2]; (exact ar116 hp h5), fun hn => by rw [fits]; exact b.fits (by (exact Nat.le_of_lt (by assumption))), by simp [node, sok, soks, ok_lit, hs', b.sok]⟩
  · intro n a g w1 one g2 plus w2 other g3 hg h1 hg2 h2 hg3 ih1 ih2
    have b1 := ih1
    have b2 := ih2
    have hp := pow_ge n
    have e1 : 4 ^ (n + 1) = 4 * 4 ^ n := by rw [Nat.pow_succ]; (exact ar408)
    have e2 : 4 ^ (n + 1 + 1) = 4 * (4 * 4 ^ n) := by rw [Nat.pow_succ, e1]; (exact ar405)
    have h1 := b1.dep; have h2 := b1.frm; have h3 := b1.hgt; have h4 := b1.siz; have h5 := b1.tkn
    have k1 := b2.dep; have k2 := b2.frm; have k3 := b2.hgt; have k4 := b2.siz; have k5 := b2.tkn
    rw [e1] at h5 k5
    have ho : PyData.strOk (opS plus) = true := by cases plus; exact ok_lit.2.1; exact ok_lit.2.2.2.2.2.2.2
    refine ⟨by rw [dep]; (exact ar132 h1 k1), by rw [frm]; (exact ar101 h2 k2), by simp [node, isT], by simp [node, dat, dats, b1.dat, b2.dat], by simp [node, hgt, hgts] <;> (exact ar107 h3 k3), by simp [node, siz, sizs] <;> (exact ar41 hp e1 h4 k4), by rw [tkn, e2]; (exact ar59 hp h5 k5), fun hn => by rw [fits]; exact ⟨b1.fits (by (exact Nat.le_of_lt (by assumption))), b2.fits (by (exact Nat.le_of_lt (by assumption)))⟩, by simp [node, sok, soks, ok_lit, ho, b1.sok, b2.sok]⟩
  · intro n a fs hf
    exact ⟨fun _ => rfl, fun x hx => (nomatch hx), strOk_of hf⟩
  · intro n a fs c w ps l hc r ihr hf
    exact ihr (fun x hx => by
    rcases List.mem_append.mp hx with h | h
    · exact hf x h
    · rw [List.mem_singleton] at h; subst h
      have : ∀ c ∈ loneC, c < 1000 := by decide
      exact this _ hc)
  · intro n a fs c v w ps l h r ihr hf
    exact ihr (fun x hx => by
    rcases List.mem_append.mp hx with h' | h'
    · exact hf x h'
    · rw [List.mem_singleton] at h'; subst h'
      rcases h with ⟨_, rfl⟩ | ⟨_, rfl⟩ | ⟨_, rfl⟩ | ⟨_, rfl⟩ <;> decide)
  · intro n a fs wi g w p ps l h hg r ih ihr hf
    have b := ihr (fun x hx => (nomatch hx))
    refine ⟨fun q => (by cases q), fun x hx => ?_, b.last⟩
    rcases List.mem_cons.mp hx with rfl | hx
    · exact ⟨ih, strOk_of hf⟩
    · exact b.all x hx
theorem RdP.bd {n a w p} (h : RdP n a w p) : Bd n p := rd_bd.1 h
end
section
open Builtin Builtin.ObjectAttr
section
variable {prog : Program} {w : World} {A : Around} {E : Value → Shared → Prop} {s : Shared} {K : Frag} {x C : Addr} {ox : Obj} {od : Option Obj} {name : Str} {expr : Bool} {Q : Value → Shared → Prop}
theorem exc_get {v : Value} (X : K.In s.heap) (I : InstAt s.heap x ox C od) (hga : findIn K (.ref C) "__getattribute__" = some (some (.builtin "BaseException.__getattribute__"))) (hgx : findIn K (.ref C) "__getattr__" = some none)
    (hm : mroIn K C (.type "BaseException") = some true) (hf : findObj K C od name = some (.value v)) (hh : handedIn v = true) (h : Q v { s with toks := s.toks + 1 }) : wpAny (model prog w) A (getAttr (.ref x) name expr) Q E s := by
  obtain ⟨hh', g, d, t, os⟩ := s
  have L0 := I.type (M := model prog w)
  have L1 := looks_findIn (M := model prog w) X hga
  have L2 := looks_findIn (M := model prog w) X hgx
  have L3 := looks_find (M := model prog w) X I hf
  have sub : Looks (model prog w) hh' (isInstance (.ref x) (.type "BaseException")) true := L0.andThen (looks_mroIn X hm)
  unfold getAttr getAttrBy
  refine wpAny_bind (wpAny_mkText (wpAny_holding (wpAny_bind (L0.at (wpAny_bind (L1.at ?_))))))
  have hx2 : (Value.builtin "BaseException.__getattribute__" == Value.builtin "object.__getattribute__") = false := by decide +kernel
  show wpAny _ _ (if (onTheHeap (.ref C) && Value.builtin "BaseException.__getattribute__" == Value.builtin "object.__getattribute__") = true then _ else getAttrByItsOwn (.ref x) (.str name t) (.ref C) (.builtin "BaseException.__getattribute__") true expr) _ _ _
  rw [hx2, Bool.and_false, if_neg (by decide)]
  unfold getAttrByItsOwn hookBefore
  rw [if_pos (show onTheHeap (.ref C) = true from rfl)]
  refine wpAny_bind (L2.at ?_)
  refine wpAny_bind (wpAny_attempt (wpAny_holding ?_))
  have hx0 : (expr && onTheHeap (Value.builtin "BaseException.__getattribute__")) = false := by cases expr <;> rfl
  unfold callGetattribute
  rw [hx0, if_neg (by decide)]
  unfold boundAndCalled
  rw [PySem.F.excAttr_ValueError.ga.bind (.ref x)]
  refine wpAny_bind (wpAny_pure ?_)
  refine wpAny_call (codeAny_call_builtin PySem.F.excAttr_ValueError.ga.plain PySem.F.entry_bexc_ga (@check_slot (model prog w) _ _ ⟨hh', g, d, t + 1, os⟩ "BaseException.__getattribute__" "BaseException" "__getattribute__" (.ref x) [.str name t] [] _ (by decide +kernel) (by decide +kernel) sub (PySem.F.args_bexc_ga _ _) ?_))
  show wpAny _ _ (Builtin.«object.__getattribute__» ⟨[.ref x, .str name t], []⟩) _ _ _
  refine wpAny_bind (wpAny_pure (wpAny_bind (wpAny_pure (wpAny_bind (L0.at (wpAny_bind (L3.at ?_)))))))
  refine wpAny_pure ?_
  show wpAny _ _ (handedOut v) _ _ _
  rw [handedOut_of hh]; exact wpAny_pure h
end
end
section
structure KX (K : Frag) : Prop where
  ga : findIn K (.ref cTF) "__getattribute__" = some (some (.builtin "BaseException.__getattribute__"))
  gx : findIn K (.ref cTF) "__getattr__" = some none
  base : mroIn K cTF (.type "BaseException") = some true
  spot : findIn K (.ref cTF) "spot" = some none
  dict : hasDictIn K cTF = true
section
variable {M : Model} {A : Around} {E : Value → Shared → Prop} {s : Shared} {env : Env}
theorem spl2 {a b : Expr} {pos : Pos} {Q : List Value → Shared → Prop} (h : wpAny M A (eval a env) (fun u s1 => wpAny M A (eval b env) (fun v s2 => Q [u, v] s2) E s1) E s) (he : starEach [a, b] env = [(false, eval a env), (false, eval b env)] := by rfl) :
    wpAny M A (spliced (backTo pos (starEach [a, b] env))) Q E s := by
  rw [he]
  exact spliced_cons (wpAny_mono h (fun u s1 h1 => spliced_cons (wpAny_mono h1 (fun v s2 h2 => spliced_nil h2) fun _ _ x => x)) fun _ _ x => x)
theorem ev_call1 {x : Str} {a : Expr} {xp pos : Pos} {P : Heap → Prop} {Q : Value → Shared → Prop} (h : wpAny M A (eval (.Name x xp) env) (fun f s1 => (∀ h', P h' → ∃ k, (k = Keeper.frame ∨ k = Keeper.machine ∨ k = Keeper.boundFrame) ∧ Looks M h' (keeperOf f) k) ∧ wpAny M A (eval a env) (fun v s2 => P s2.heap ∧ wpAny M A (call f [v]) Q E s2) E s1) E s)
    (he : starEach [a] env = [(false, eval a env)] := by rfl) : wpAny M A (eval (.Call (.Name x xp) [a] [] pos) env) Q E s := by
  show wpAny _ _ (do callWith pos (← eval (.Name x xp) env) [] (backTo pos (starEach [a] env)) (backToKw pos (keywordEach [] env))) _ _ _
  refine wpAny_bind (wpAny_mono h (fun f s1 hpat => ?_) fun _ _ x => x)
  obtain ⟨hk, h1⟩ := hpat
  refine callWith_of (P := P) (by show (_ || false) = false; rw [starEach_plain (by rw [he]; rfl)]; rfl) hk ?_
  refine evalArgs_of (by rw [he]; rfl) ?_
  rw [he]
  exact spliced_cons (wpAny_mono h1 (fun v s2 h2 => spliced_nil h2) fun _ _ x => x)
end
theorem dat_vr {h : Heap} {r r' : Nat → Addr} {n n' : Nat} {v W} (x : VR h r n v W) : dat W = true → VR h r' n' v W := by
  induction x with
  | none => intro h; simp [dat] at h
  | bool b => intro h; simp [dat] at h
  | int i t => intro _; exact .int i t
  | str s t => intro _; exact .str s t
  | tup ht hl _ ih =>
    intro hd
    rw [dat] at hd
    exact .tup ht hl fun k v W e1 e2 => ih k v W e1 e2 (dats_mem hd W (List.mem_of_getElem? e2))
  | obj i hi => intro h; simp [dat] at h
  | glob a => intro h; simp [dat] at h
  | typ n => intro h; simp [dat] at h
  | blt n => intro h; simp [dat] at h
theorem funFrames_none {B h : Heap} {st : List Env} (hs : h.FunFrames B st) : ∀ env ∈ st, ∀ b, env.frame = some b → B.get? b = none := by
  induction st with
  | nil => intro env he; cases he
  | cons e0 st ih =>
    intro env he b hb
    have hs2 : e0.scope.kind ≠ .module ∧ (∃ L o, e0.frame = some L ∧ B.get? L = none ∧ h.get? L = some o ∧ ∀ vs, o.data ≠ .fields vs) ∧ h.FunFrames B st := hs
    obtain ⟨_, ⟨L, o, hf, hB, _⟩, r⟩ := hs2
    rcases List.mem_cons.mp he with rfl | he
    · rw [hf] at hb; cases hb; exact hB
    · exact ih r env he b hb
theorem ns_slots {h h' : Heap} {L : Addr} {m : Str → Option Value} (hn : h.Ns L m) (k : ∀ o, h.get? L = some o → ∃ sl, h'.get? L = some { o with slots := sl }) : h'.Ns L m := by
  obtain ⟨o, es, ep, ho, hd, r⟩ := hn
  obtain ⟨sl, e⟩ := k o ho
  exact ⟨_, es, ep, e, hd, r⟩
theorem isTup_slots {h h' : Heap} {a : Addr} {items} (ht : IsTup h a items) (k : ∀ o, h.get? a = some o → ∃ sl, h'.get? a = some { o with slots := sl }) : IsTup h' a items := by
  obtain ⟨o, ho, hc, n, hd⟩ := ht
  obtain ⟨sl, e⟩ := k o ho
  exact ⟨_, e, hc, n, hd⟩
section
variable {Γ : Cx} {A : Around} {st : List Env} {L : Addr} {s s1 : Shared} {m : Str → Option Value}
theorem core_fr {env : Env} {e dx : Addr} {vs : Array Value} {k : Int} (O : Γ.Ok) (core : ExcCore Γ (env :: st) e dx vs k s) (fr : Fr Γ.B L Γ.H m) : Fr Γ.B L s.heap m := by
  refine ⟨ns_slots fr.ns fun o ho => ?_, fun b o e => ?_, fr.above⟩
  · obtain ⟨sl, h1, _⟩ := core.up L o ho; exact ⟨sl, h1⟩
  · obtain ⟨sl, h1, h2⟩ := core.up b o (O.bh b o e)
    rw [h2 fun env he hf => by rw [funFrames_none core.frs env he b hf] at e; cases e] at h1
    exact h1
structure Heard (st : List Env) (L2 : Addr) (s1 s' : Shared) (a : Addr) (Q0 : V → Prop) (E0 : Int → Prop) : Prop where
  keep : ∀ b o, s1.heap.get? b = some o → b ≠ L2 → ∃ sl, s'.heap.get? b = some { o with slots := sl } ∧ ((∀ env ∈ st, env.frame ≠ some b) → sl = o.slots)
  gens : s'.gens = s1.gens
  os : s'.os = s1.os
  what : (∃ W t u, IsTup s'.heap a #[.str "node" t, u] ∧ (∀ r n, VR s'.heap r n u W) ∧ Q0 W) ∨ (∃ k t u, IsTup s'.heap a #[.str "spot" t, .int k u] ∧ E0 k)
theorem x_heard {A2 : Around} {L2 : Addr} {m2 : Str → Option Value} {x : Str} {tx : Tok} {R : Mp} {n : Nat} {Q0 : V → Prop} {E0 : Int → Prop} (O : Γ.Ok) (X : KF Γ.K Γ.w.params Γ.prog) (XX : KX Γ.K) (hA2 : AOk A2 (fHeard.env L2 :: st) n) (hH : Γ.H = s1.heap)
    (r : Rel Γ (fHeard.env L2 :: st) [] R s1) (fr : Fr Γ.B L2 s1.heap m2) (hm : m2 "text" = some (.str x tx)) (h : Wc Γ A2 (fHeard.env L2 :: st) (.glob 409) [.str x] [] (fun W _ => dat W = true ∧ Q0 W) E0) {body : List Stmt} (hbd : bT 33 = body) :
    wpAny Γ.M A2 (execs body (fHeard.env L2)) (fun f s' => ∃ a, f = .ret (.ref a) ∧ Heard st L2 s1 s' a Q0 E0) (fun _ _ => False) s1 := by
  subst hbd
  have OF := X.heard.ok
  have gx : nsIn Γ.K mainGlobals "expr_of" = some (some (.ref 409)) := by have := X.gexprof; cases this with | glob h => exact h | cst h hc => cases hc
  have gt : nsIn Γ.K mainGlobals "TextFault" = some (some (.ref 81)) := by have := X.gTextFault; cases this with | glob h => exact h | cst h hc => cases hc
  refine wpAny_execs_cons (wpAny_mono (Q := fun f s' => ∃ a, f = .ret (.ref a) ∧ Heard st L2 s1 s' a Q0 E0) (wpAny_Try_except ?_) (fun f s' hpt => by obtain ⟨a, e, d⟩ := hpt; subst e; exact ⟨a, rfl, d⟩) fun _ _ x => x)
  refine wpAny_execs_cons (wpAny_Return_some (Tuple_ (spl2 (wpAny_Constant_str (ev_call1 (P := fun h => Γ.K.In h) (nameX_K fr O.kin O.top gx ⟨fun h' K' => keeps_K X.kExprOf h' K', nameX_L fr hm ⟨O.kin.keeps fr.keep, ?_⟩⟩))))))
  refine wpAny_mono (h _ R (.ref 409) [.str x tx] (r.tok _) (.glob _) (.cons (.str _ _) .nil)) (fun v s2 ⟨W, σ', R', r', x', hv, hd, hq⟩ => ?_) (fun y s' ⟨k, hx, hE⟩ => ?_)
  · have fr2 : Fr Γ.B L2 s2.heap m2 := ⟨fr.ns.at' fun o e => r'.keep _ o (hH ▸ e), fun b o e => r'.keep b o (O.bh b o e), fr.above⟩
    refine newTuple_NK fr2 (allNews_ok _ _ _) (fun h' F' N' hk => ?_) (by rw [sizeLine_eq]; simp)
    refine ⟨_, rfl, fun b o e _ => ⟨o.slots, hk _ _ (r'.keep b o (hH ▸ e)), fun _ => rfl⟩, r'.gens.trans r.gens.symm, r'.os.trans r.os.symm, .inl ⟨W, s1.toks, v, ⟨_, (N' _ (.head _)).1, rfl, _, rfl⟩, fun rr nn => ?_, hq⟩⟩
    have := dat_vr (r' := rr) (n' := nn) hv hd
    exact this.gr (R := ⟨rr, rr⟩) (R' := ⟨rr, rr⟩) ⟨Nat.le_refl _, fun _ _ => rfl, fun _ _ => rfl, fun a items hpt => by obtain ⟨o, ho, q⟩ := hpt; exact ⟨o, hk _ _ ho, q⟩⟩
  · refine note_sound hA2.frames hx.weak fun h1 e dx vs hxe core t => ?_
    subst hxe
    refine setFlight_sound core t fun h2 core2 t2 => ?_
    have fr2 := core_fr O core2 (hH ▸ fr)
    obtain ⟨oe, he, hc, hde, hfl⟩ := core2.obj
    have bg : (Value.ref e : Value) ≠ byPass := by intro q; cases q
    refine wpAny_handleBy_cons (codeAny_handlers_test (nameX_K fr2 O.kin O.top gt ?_)) bg
    obtain ⟨nm, q, N, bs, bm, hdct, sn, sub, ab, col, dd, k0, k1, k2, k3, k5, hC, _, _, _, hb⟩ := X.exc.new
    refine wpAny_excMatches_sub_self (O.kin.keeps fr2.keep _ _ hC) he hc hb (codeAny_handlers_suite_as ?_)
    refine setFlight_sound core2 t2 fun h3 core3 t3 => ?_
    have fr3 := core_fr O core3 (hH ▸ fr)
    refine wpAny_storeName_local (by rfl) fr3.ns (fun h4 hn4 hs4 => ?_) (by rfl)
    have fr4 : Fr Γ.B L2 h4 _ := fr3.set hn4 hs4
    have up4 : ∀ b o, s1.heap.get? b = some o → b ≠ L2 → ∃ sl, h4.get? b = some { o with slots := sl } ∧ ((∀ env ∈ st, env.frame ≠ some b) → sl = o.slots) := by
      intro b o hb hbL
      obtain ⟨sl, a1, a2⟩ := core3.up b o (hH ▸ hb)
      refine ⟨sl, (hs4.2 b hbL).trans a1, fun hf => a2 fun env he => ?_⟩
      rcases List.mem_cons.mp he with rfl | he
      · intro q; exact hbL (Option.some.inj q).symm
      · exact hf env he
    obtain ⟨oe3, he3, hc3, hde3, hfl3⟩ := core3.obj
    obtain ⟨od3, es3, ep3, tk3, hd3, hdd3, hsp3⟩ := core3.dict
    have heL : e ≠ L2 := fun q => by
      have := notFrame_of_fields he3 hfl3 core3.frs _ (.head _)
      exact this (by rw [q]; rfl)
    have hdL : dx ≠ L2 := fun q => core3.off _ (.head _) (by rw [q]; rfl)
    have he4 : h4.get? e = some oe3 := (hs4.2 e heL).trans he3
    have hd4 : h4.get? dx = some od3 := (hs4.2 dx hdL).trans hd3
    have I4 : InstAt h4 e oe3 cTF (some od3) := ⟨he4, hc3, by unfold notCls; rw [hfl3], by rw [hde3]; exact hd4⟩
    have lk : lookIn "spot" od3 = some (some (.int k tk3)) := by unfold lookIn; rw [hdd3]; exact hsp3
    refine wpAny_execs_cons (wpAny_Return_some (Tuple_ (spl2 (wpAny_Constant_str (Attribute_Name_ (nameX_L fr4 (if_pos rfl) (exc_get (O.kin.keeps fr4.keep) I4 XX.ga XX.gx XX.base (findObj_own XX.dict XX.spot rfl lk) rfl ?_)) rfl)))))
    refine newTuple_NK fr4 (allNews_ok _ _ _) (fun h5 F5 N5 hk5 => ?_) (by rw [sizeLine_eq]; simp)
    have hT := N5 _ (.head _)
    refine wpAny_nameGoes (by rfl) F5.ns (by rfl) fun h6 m6 hn6 hs6 => ?_
    refine ⟨_, rfl, fun b o hb hbL => ?_, core3.gens.trans r.gens.symm, core3.os.trans r.os.symm, .inr ⟨k, _, _, ⟨_, (hs6.2 _ hT.2.1).trans hT.1, rfl, _, rfl⟩, hE⟩⟩
    obtain ⟨sl, a1, a2⟩ := up4 b o hb hbL
    exact ⟨sl, (hs6.2 b hbL).trans (hk5 _ _ a1), a2⟩
end
end
section
section
variable {Γ : Cx} {A : Around} {F : Fn} {L : Addr} {σ : List AObj} {Q : V → List AObj → Prop} {E : Int → Prop}
set_option maxHeartbeats 4000000 in
theorem Wf.heard {x : Str} {n : Nat} {Q0 : V → Prop} {E0 : Int → Prop} (O : Γ.Ok) (X : KF Γ.K Γ.w.params Γ.prog) (XX : KX Γ.K) (hA : AOk A [F.env L] (n + 1))
    (h : ∀ Γ' A' st', Γ'.Ok → KF Γ'.K Γ'.w.params Γ'.prog → AOk A' st' n → Wc Γ' A' st' (.glob 409) [.str x] [] (fun W _ => dat W = true ∧ Q0 W) E0)
    (hq1 : ∀ W, Q0 W → Q (.tup [.str "node", W]) σ) (hq2 : ∀ k, E0 k → Q (.tup [.str "spot", .int k]) σ) : Wf Γ A [] F L (.glob 452) [.str x] σ Q E := by
  intro s R m v vs r Fh hB hv hvs
  obtain ⟨v1, r1, rfl, hv1, hv2⟩ := hvs.cons_iff
  cases hv2.nil_iff
  (obtain rfl := VR.inv hv); (obtain ⟨_, rfl⟩ := VR.inv hv1)
  rename_i tx
  -- all that stands is kept
  let Γ' : Cx := { Γ with H := s.heap }
  have XF := X.heard
  generalize hbd : bT 33 = body at XF
  obtain ⟨name, params, dfV, kV, doc, pm, an, ct, oc, od, osl, ho, hb⟩ := XF.at_
  have KX : Γ.K.In s.heap := O.kin.keeps Fh.keep
  refine wpAny_call (codeAny_call_def (fd := fnOf name fHeard.q params body fHeard.scope dfV kV doc pm an fHeard.cd ct) (body := body) (binds := [(("text" : Str), Value.str x tx)]) (by have := hA.depth; (exact ar86 this)) (KX _ _ ho) rfl (O.nolimit.keeps Fh.keep) (codeRec_of KX XF.code) rfl (by have := hb s KX [.str x tx] rfl; simpa using this) XF.cell ?_ (fun h₁ hns hk₁ => ?_) XF.co XF.gen XF.ok.kind)
  · intro y hy
    have : y = (("text" : Str), Value.str x tx) := by simpa using hy
    subst this
    rfl
  · have hLn : s.heap.get? s.heap.objs.size = none := get_size_none _
    have AA := hA.deeper (fHeard.env s.heap.objs.size)
    -- the law's frame and heard's own
    have hfr : h₁.FunFrames Γ.B [F.env L] := funFrames_keeps (fun b o e _ => hk₁ b o e) r.frs
    have hLB : Γ.B.get? s.heap.objs.size = none := by
      cases q : Γ.B.get? s.heap.objs.size with
      | none => rfl
      | some o => have := Fh.keep _ o q; rw [hLn] at this; cases this
    have hne : s.heap.objs.size ≠ L := fun q => by have := Fh.ns.lt; rw [← q] at this; exact Nat.lt_irrefl _ this
    let Γ1 : Cx := { Γ with H := h₁ }
    have O1 : Γ1.Ok := ⟨O.kin, fun b o e => hk₁ b o (Fh.keep b o e), O.nolimit, O.top, O.full⟩
    have r2 : Rel Γ1 (fHeard.env s.heap.objs.size :: [F.env L]) [] R { s with heap := h₁, toks := s.toks + ([(("text" : Str), Value.str x tx)]).length, drawn := s.drawn } := by
      refine ⟨fun b o e => e, fun i ao e => (by simp at e), fun i hi => (by simp at hi), fun i j hi => (by simp at hi), .cons (by show fHeard.scope.kind ≠ .module; rw [XF.ok.kind]; decide) rfl hns hLB hfr, fun env he L hL i hi => (by simp at hi), r.gens, r.os, ?_⟩
      exact Nat.le_trans Fh.above (Nat.le_of_lt (Nat.lt_trans Fh.ns.lt hns.lt))
    have fr2 : Fr Γ.B s.heap.objs.size h₁ (fun y => ([(("text" : Str), Value.str x tx)]).reverse.lookup y) := ⟨hns, fun b o e => hk₁ b o (Fh.keep b o e), Nat.le_trans Fh.above (Nat.le_of_lt Fh.ns.lt)⟩
    have key := x_heard (Γ := Γ1) (st := [F.env L]) (s1 := { s with heap := h₁, toks := s.toks + ([(("text" : Str), Value.str x tx)]).length, drawn := s.drawn }) O1 X XX AA rfl r2 fr2 rfl (h Γ1 _ _ O1 X AA) hbd
    refine wpAny_mono key (fun f s' hpat => ?_) fun _ _ f => f.elim
    obtain ⟨a, e, d⟩ := hpat
    subst e
    -- back in the law's frame
    have kp : ∀ b o, s.heap.get? b = some o → ∃ sl, s'.heap.get? b = some { o with slots := sl } ∧ (b ≠ L → sl = o.slots) := by
      intro b o hb
      obtain ⟨sl, a1, a2⟩ := d.keep b o (hk₁ b o hb) (fun q => by rw [q, hLn] at hb; cases hb)
      refine ⟨sl, a1, fun hbL => a2 fun env he hf => ?_⟩
      rw [List.mem_singleton] at he; subst he
      cases hf; exact hbL rfl
    have ks : ∀ b o, s.heap.get? b = some o → b ≠ L → s'.heap.get? b = some o := by
      intro b o hb hbL
      obtain ⟨sl, a1, a2⟩ := kp b o hb
      rw [a2 hbL] at a1; exact a1
    have tup : ∀ a items, IsTup s.heap a items → IsTup s'.heap a items := fun a items ht => isTup_slots ht fun o ho => by obtain ⟨sl, a1, _⟩ := kp a o ho; exact ⟨sl, a1⟩
    have G : Gr σ.length R s.heap σ.length R s'.heap := ⟨Nat.le_refl _, fun _ _ => rfl, fun _ _ => rfl, tup⟩
    have ns' : s'.heap.Ns L m := ns_slots Fh.ns fun o ho => by obtain ⟨sl, a1, _⟩ := kp L o ho; exact ⟨sl, a1⟩
    have fr' : Fr Γ.B L s'.heap m := ⟨ns', fun b o e => ks b o (Fh.keep b o e) (fun q => by rw [q, get_none_of O.bh hB] at e; cases e), Fh.above⟩
    have rel' : Rel Γ [F.env L] σ R s' := by
      refine ⟨fun b o e => ks b o (r.keep b o e) (fun q => by rw [q, hB] at e; cases e), fun i ao e => ?_, r.fresh, r.inj, ?_, r.off, d.gens.trans r.gens, d.os.trans r.os, ?_⟩
      · have hi := lt_of_get e
        exact (r.obj i ao e).gr G hi (fun o ho => ks _ o ho (r.off _ (.head _) L rfl i hi)) fun C hC => ks _ _ hC (fun q => ns_notInst Fh.ns (q ▸ hC))
      · obtain ⟨k1, ⟨b, o, hf, e0, ho', hd'⟩, k2⟩ := r.frs
        obtain ⟨sl, a1, _⟩ := kp b o ho'
        exact ⟨k1, ⟨b, _, hf, e0, a1, hd'⟩, trivial⟩
      · exact Nat.le_trans Fh.above (Nat.le_of_lt ns'.lt)
    have ext' : Ext (some L) σ.length R s.heap σ.length R s'.heap := by
      refine ⟨Nat.le_refl _, fun _ _ => rfl, fun _ _ => rfl, fun b o e _ hX => ks b o e (fun q => hX (congrArg some q)), tup, fun i a b => absurd b (Nat.not_lt.mpr a), fun i hi => ?_, fun L' q => by cases q; exact ns_live ns'⟩
      obtain ⟨o, ho', _⟩ := r.mObj hi
      rw [ks _ o ho' (r.off _ (.head _) L rfl i hi)]; rfl
    have P : Post Γ [] F L m σ R s σ R s' := ⟨rel', fr', ext'⟩
    rcases d.what with ⟨W, t, u, ht, hu, hQ⟩ | ⟨k, t, u, ht, hE⟩
    · exact ⟨_, σ, R, P, .tup' (vs := [.str "node" t, u]) ht (.cons (.str _ _) (.cons (hu _ _) .nil)), hq1 W hQ⟩
    · exact ⟨_, σ, R, P, .tup' (vs := [.str "spot" t, .int k u]) ht (.cons (.str _ _) (.cons (.int _ _) .nil)), hq2 k hE⟩
end
end
section
theorem pick_to {α : Type} (l : List α) (k : Nat) : pick l none (some (k : Int)) = l.take k := by
  unfold pick
  have e : sliceBounds none (some (k : Int)) none l.length = (((0 : Nat) : Int), ((min k l.length : Nat) : Int), 1) := by
    unfold sliceBounds
    simp
    (first | lia | omega)
  rw [e]
  show List.filterMap _ (sliceRange ((0 : Nat) : Int) ((min k l.length : Nat) : Int) 1) = _
  rw [sliceRange_one, range_pick, List.drop_zero, Nat.sub_zero, List.take_eq_take_iff]
  (exact ar261)
theorem Keeps.rfl' {s : Shared} {tk : Tok} : Keeps s { s with toks := tk } := ⟨s.heap, tk, rfl, fun _ _ e => e⟩
theorem paired_ints {f : Int → Int} {h : Heap} {r : Nat → Addr} {n : Nat} {l1 l2 : List Value} (x : Paired (fun v y => ∃ z t, y = .int z t) l1 l2) : ∃ zs : List Int, zs.length = l1.length ∧ VRs h r n l2 (zs.map V.int) := by
  induction x with
  | nil => exact ⟨[], rfl, .nil⟩
  | cons e _ ih =>
    obtain ⟨z, t, rfl⟩ := e
    obtain ⟨zs, e1, e2⟩ := ih
    exact ⟨z :: zs, congrArg (· + 1) e1, .cons (.int _ _) e2⟩
section
variable {Γ : Cx} {A : Around} {st : List Env} {F : Fn} {L : Addr} {ℓ : List (Option V)} {σ : List AObj} {E : Int → Prop}
theorem We.cells {Q : V → List AObj → Prop} {a : Addr} {vs : List Value} {ns : List Int} {q1 q2 q3 q4 q5 q6 q7 q8 q9 q10 pos : Pos} {u u2 : Nat} {scope : Scope} (O : Γ.Ok) (OF : FnOk F) (hh : A.handled = none) (g : Glb Γ.K "abs" (.blt "abs"))
    (ha : At F.scope.names ℓ "script" (.glob a)) (hl : Γ.B.IsList a vs.toArray) (hi : IntsAre vs ns) (hlen : ns.length ≤ 63) (hq : ∀ zs : List Int, zs.length ≤ 60 → Q (.obj σ.length) (σ ++ [.list (zs.map V.int)]))
    (hfree : ∀ z ∈ scope.names, z.2 ≠ .free) (hcell : ∀ z ∈ scope.names, z.2 ≠ .cell) (hkind : scope.kind = .function)
    (hnames : ∀ z ∈ scope.names, z.2 = .local → scope.names.lookup z.1 = some .local) (hx : scope.names.lookup ("cell" : Str) = some .local) (hab : scope.names.lookup ("abs" : Str) = some .globalImplicit) :
    We Γ A st F L (.ListComp (.BinOp (.Call (.Name "abs" q1) [.Name "cell" q2] [] q3) .Mod (.Constant (.int 1000003) u q4) q5) [⟨.Name "cell" q6, .Subscript (.Name "script" q7) (.Slice none (some (.Constant (.int 60) u2 q8)) none q9) q10, [], 0⟩] scope pos) ℓ σ Q E := by
  refine .mk fun s R m r l => ?_
  have e1 : nsIn Γ.K mainGlobals "abs" = some none ∧ bootBuiltins "abs" = some (.builtin "abs") := by cases g with | blt h hb hn => exact ⟨h, hb⟩ | cst h hc => cases hc
  have hN : We Γ A st F L (.Name "script" q7) ℓ σ (fun W σ1 => W = .glob a ∧ σ1 = σ) E := We.name OF ha ⟨rfl, rfl⟩
  have hp1 : Wpart Γ A st F L none ℓ σ (fun i σ1 => i = none ∧ σ1 = σ) E := Wpart.none ⟨rfl, rfl⟩
  have hp2 : Wpart Γ A st F L (some (.Constant (.int 60) u2 q8)) ℓ σ (fun j σ1 => j = some 60 ∧ σ1 = σ) E := Wpart.some (We.cint ⟨60, rfl, rfl, rfl⟩)
  refine ListComp_rowsP hfree hcell hkind hnames hx ?_
  refine Subscript_ (hN.use r l fun vo s1 W σ1 R1 P1 hvo hW l1 => ?_)
  obtain ⟨rfl, rfl⟩ := hW
  (obtain rfl := VR.inv hvo)
  refine wpAny_Slice (Wpart.use hp1 P1.rel l1 fun vi s2 i σ2 R2 P2 hvi h2 l2 => ?_)
  obtain ⟨rfl, rfl⟩ := h2
  refine Wpart.use hp2 P2.rel l2 fun vj s3 j σ3 R3 P3 hvj h3 l3 => wpAny_pure ?_
  obtain ⟨rfl, rfl⟩ := h3
  have P := P1.trans (P2.trans P3)
  have hvl : vs.length = ns.length := hi.length
  have hl3 : s3.heap.IsList a vs.toArray := hl.at fun o e => P.fr.keep _ o e
  refine slice_list P.fr (allNews_ok _ _ _) hl3 hvi hvj (fun h' F' N' => ?_) (by with_unfolding_all rfl) (by intro r; rfl) (by simp; rw [sizeLine_eq]; (exact ar324 hlen hvl))
  rw [slicePick_pick, show pick vs none (some 60) = vs.take 60 from pick_to vs 60] at N'
  have hnew := N' _ (.head _)
  have hle : (vs.take 60).length ≤ 60 := by simp; (exact ar183)
  have P4 := P.step (tk := s3.toks) F' (fun p hp => N' p (.tail _ hp)) l.hB
  generalize s3.heap.objs.size + 1 = la at hnew ⊢
  have hls : h'.IsList la (vs.take 60).toArray := ⟨_, hnew.1, rfl, _, rfl⟩
  have hlt : la < h'.objs.size := Heap.lt_size hnew.1
  have old : ∀ b o, h'.get? b = some o → b ∉ [h'.objs.size] := fun b o e hb => absurd (Heap.lt_size e) ((List.mem_singleton.mp hb) ▸ Nat.lt_irrefl _)
  refine wpAny_pyIter_list hls ⟨fun _ => true, fun v y => ∃ z t, y = .int z t, h'.objs.size, [h'.objs.size, la], [h'.objs.size], (vs.take 60).toArray.size, _, _, rfl, Walks.list hh _ la (Nat.ne_of_lt hlt) (vs.take 60).toArray, (by rw [List.size_toArray, sizeLine_eq]; (exact Nat.le_trans (by assumption) (by decide))),
    ⟨⟨_, Heap.get?_push_size _ rfl, rfl, rfl⟩, hls.at fun o e => Heap.get?_push_of_some _ e⟩, ?_, ⟨?_, ?_⟩, ?_⟩
  · intro b hb
    show b < (h'.push _).objs.size
    rw [Heap.size_push]
    rcases List.mem_cons.mp hb with rfl | hb
    · exact Nat.lt_succ_self _
    · rw [List.mem_singleton.mp hb]; exact Nat.lt_succ_of_lt hlt
  · intro C i v s₃ m₃ E' hP hn hm _ _
    exact wpAny_tests_nil ⟨rfl, Keeps.rfl'⟩
  · intro C i v s₃ m₃ E' hP _ hn hm hk _
    obtain ⟨z, t, rfl⟩ : ∃ z t, v = .int z t := by
      have hm1 : v ∈ vs := List.mem_of_mem_take (List.mem_of_getElem? (i := i) (by simpa using hP))
      have : ∀ {vs : List Value} {ns : List Int}, IntsAre vs ns → ∀ v ∈ vs, ∃ z t, v = .int z t := by
        intro vs ns h
        induction h with
        | nil => intro v hv; cases hv
        | cons _ _ _ ih =>
          intro v hv
          rcases List.mem_cons.mp hv with rfl | hv
          · exact ⟨_, _, rfl⟩
          · exact ih v hv
      exact this hi v hm1
    have hB : ∀ b o, Γ.B.get? b = some o → s₃.heap.get? b = some o := fun b o e => hk b o (old b o (F'.keep b o e)) (Heap.get?_push_of_some _ (F'.keep b o e))
    show wpAny _ _ (do let a ← eval _ (compEnv scope C (F.env L)); let b ← holding [a] (eval _ (compEnv scope C (F.env L))); standAt _; operate [a, b] (binaryOp .Mod a b)) _ _ _
    refine wpAny_bind (ev_call1 (P := fun _ => True) (Name_function_global hkind hab (loadGlobal_builtin (env := compEnv scope C (F.env L)) (O.top.g.keeps hB) (mg_none_of O.kin O.top.g e1.1) (O.top.b.keeps hB) ((O.top.builtins "abs" (by decide)).trans e1.2)
      ⟨fun h' _ => ⟨.machine, .inr (.inl rfl), Looks.of_pure rfl⟩, wpAny_Name (wpAny_loadName_local hkind hx hn hm ⟨trivial, call_abs_int fun u tk => ?_⟩) (by decide)⟩) (by decide)))
    refine wpAny_bind (wpAny_holding (wpAny_Constant_int (wpAny_bind (wpAny_standAt (wpAny_operate' (PyProof.Rows.mod_int (by decide) ⟨⟨_, _, rfl⟩, Keeps.rfl'⟩))))))
  · intro D h2 tk ys vs' hD hlD hplD hlen' hP hF hk
    have kp : ∀ b o, h'.get? b = some o → h2.get? b = some o := fun b o e => hk b o (old b o e) (Heap.get?_push_of_some _ e)
    have hD' : h'.get? D = none := by
      cases e : h'.get? D with
      | none => rfl
      | some o => have := Heap.get?_push_of_some { cls := .type "list_iterator", data := .fields #[.ref la, .int 0 0] } e; rw [show (h'.push { cls := .type "list_iterator", data := .fields #[.ref la, .int 0 0] }).get? D = none from hD] at this; cases this
    have F2 : Fr Γ.B L h2 m := ⟨F'.ns.keeps kp, fun b o e => kp b o (F'.keep b o e), F'.above⟩
    obtain ⟨ep, hpl⟩ := hplD
    have N2 : News Γ.B L h2 (allNews Γ.B h' L) := fun p hp => by
      obtain ⟨x1, x2, x3⟩ := allNews_ok Γ.B h' L p hp
      exact ⟨kp _ _ x1, x2, x3⟩
    obtain ⟨zs, z1, z2⟩ := paired_ints (f := fun x => x) (h := h') (r := R3.r) (n := σ3.length) hF
    have P5 := P4.newList (tk := tk) (a := D) (vs := ys.toList) (Vs := zs.map V.int) (ep := ep) F2 N2 l.hB hD' (by simpa using hpl) z2
    refine ⟨_, _, _, P5, Post.vrNew, hq zs ?_⟩
    rw [z1, List.filter_eq_self.mpr (fun _ _ => rfl), hlen']
    simp; (exact ar183)
end
end
section
section
variable {Γ : Cx} {A : Around} {st : List Env} {F : Fn} {L : Addr} {ℓ : List (Option V)} {σ : List AObj} {E : Int → Prop}
theorem We.dict4 {Q : V → List AObj → Prop} {k1 k2 k3 k4 : Str} {e1 e2 e3 e4 : Expr} {u1 u2 u3 u4 : Nat} {p1 p2 p3 p4 pos : Pos} (O : Γ.Ok) (hd : [k1, k2, k3, k4].Nodup)
    (h : We Γ A st F L e1 ℓ (σ ++ [.dict []]) (fun W1 σ1 => We Γ A st F L e2 ℓ σ1 (fun W2 σ2 => We Γ A st F L e3 ℓ σ2 (fun W3 σ3 => We Γ A st F L e4 ℓ σ3 (fun W4 σ4 => σ4[σ.length]? = some (.dict []) ∧ Q (.obj σ.length) (σ4.set σ.length (.dict [(k1, W1), (k2, W2), (k3, W3), (k4, W4)]))) E) E) E) E) :
    We Γ A st F L (.Dict [some (.Constant (.str k1) u1 p1), some (.Constant (.str k2) u2 p2), some (.Constant (.str k3) u3 p3), some (.Constant (.str k4) u4 p4)] [e1, e2, e3, e4] pos) ℓ σ Q E := by
  refine .mk fun s R m r l => ?_
  refine wpAny_Dict_walk (knd := strKind Γ.prog Γ.w) rfl rfl (by simp) (by simp) ?_
  have hnew := get_size_none s.heap
  have k0 : KeepsL (some L) s.heap (s.heap.push { cls := .type "dict", data := .dict #[] }) := fun b o e _ => Heap.get?_push_of_some _ e
  have hD0 : (s.heap.push { cls := .type "dict", data := .dict #[] }).DictOf (strKind Γ.prog Γ.w) s.heap.objs.size [] := Heap.DictOf.new s.heap
  have hlive : ((s.heap.push { cls := .type "dict", data := .dict #[] }).get? s.heap.objs.size).isSome = true := by rw [Heap.get?_push_size _ rfl]; rfl
  have P0 := (Post.refl r l).enter (tk := s.toks) (a := s.heap.objs.size) (b := s.heap.objs.size) (ao := .dict []) (l.fr.push { cls := .type "dict", data := .dict #[] }) k0 l.hB hnew hlive
    (.dict (kvs := []) (by rw [Mp.set_r, Mp.set_m]) (by rw [Mp.set_m]; exact hD0) .nil)
  have l0 := l.post P0
  have len0 : (σ ++ [AObj.dict []]).length = σ.length + 1 := by simp
  have hr0 : (R.set σ.length s.heap.objs.size s.heap.objs.size).r σ.length = s.heap.objs.size := Mp.set_r ..
  have hm0 : (R.set σ.length s.heap.objs.size s.heap.objs.size).m σ.length = s.heap.objs.size := Mp.set_m ..
  generalize R.set σ.length s.heap.objs.size s.heap.objs.size = R0 at P0 l0 hr0 hm0
  refine evalPairs_cons (wpAny_Constant_str (wpAny_bind (We.use h (P0.rel.tok _) (l0.post ((Post.refl P0.rel l0).tok _)) fun v1 s1 W1 σ1 R1 P1 hv1 h1 l1 => wpAny_bind (wpAny_standAt (wpAny_pure ?_)))))
  refine evalPairs_cons (wpAny_Constant_str (wpAny_bind (We.use h1 (P1.rel.tok _) (l1.post ((Post.refl P1.rel l1).tok _)) fun v2 s2 W2 σ2 R2 P2 hv2 h2 l2 => wpAny_bind (wpAny_standAt (wpAny_pure ?_)))))
  refine evalPairs_cons (wpAny_Constant_str (wpAny_bind (We.use h2 (P2.rel.tok _) (l2.post ((Post.refl P2.rel l2).tok _)) fun v3 s3 W3 σ3 R3 P3 hv3 h3 l3 => wpAny_bind (wpAny_standAt (wpAny_pure ?_)))))
  refine evalPairs_cons (wpAny_Constant_str (wpAny_bind (We.use h3 (P3.rel.tok _) (l3.post ((Post.refl P3.rel l3).tok _)) fun v4 s4 W4 σ4 R4 P4 hv4 h4 l4 => wpAny_bind (wpAny_standAt (wpAny_pure (evalPairs_nil ?_))))))
  obtain ⟨hj, hq⟩ := h4
  have x12 : Ext (some L) σ1.length R1 s1.heap σ2.length R2 s2.heap := P2.ext
  have x23 : Ext (some L) σ2.length R2 s2.heap σ3.length R3 s3.heap := P3.ext
  have x34 : Ext (some L) σ3.length R3 s3.heap σ4.length R4 s4.heap := P4.ext
  have x01 : Ext (some L) (σ ++ [AObj.dict []]).length R0 (s.heap.push { cls := .type "dict", data := .dict #[] }) σ1.length R1 s1.heap := P1.ext
  have x04 := ((x01.trans x12).trans x23).trans x34
  have hj' : σ.length < σ4.length := lt_of_get hj
  have hr4 : R4.r σ.length = s.heap.objs.size := (x04.r σ.length (by rw [len0]; (exact Nat.le_refl _))).trans hr0
  have hm4 : R4.m σ.length = s.heap.objs.size := (x04.m σ.length (by rw [len0]; (exact Nat.le_refl _))).trans hm0
  obtain ⟨kvs, er, hdo, hkr⟩ := P4.rel.dict hj
  cases hkr
  rw [hm4] at hdo
  refine ⟨[(k1, v1), (k2, v2), (k3, v3), (k4, v4)], ⟨(strKind_is Γ.prog Γ.w k1 _), rfl, (strKind_is Γ.prog Γ.w k2 _), rfl, (strKind_is Γ.prog Γ.w k3 _), rfl, (strKind_is Γ.prog Γ.w k4 _), rfl, trivial⟩, hdo, fun h' hd' hs' => ?_⟩
  have em : merged ([] : List (Str × Value)) [(k1, v1), (k2, v2), (k3, v3), (k4, v4)] = [(k1, v1), (k2, v2), (k3, v3), (k4, v4)] := by
    simp only [List.nodup_cons, List.mem_cons, List.not_mem_nil, or_false, not_or] at hd
    obtain ⟨⟨a1, a2, a3⟩, ⟨a4, a5⟩, a6, -⟩ := hd
    simp [merged, stored, a1, a2, a3, a4, a5, a6]
  rw [em] at hd'
  have P04 : Post Γ st F L m σ R s σ4 R4 s4 := by
    have q1 : Post Γ st F L m (σ ++ [AObj.dict []]) R0 { s with heap := s.heap.push { cls := .type "dict", data := .dict #[] }, toks := s.toks } σ4 R4 s4 := ⟨P4.rel, P4.fr, x04⟩
    exact P0.trans q1
  have hd1 := hd'
  obtain ⟨od, es, ep, h1', h2', h3', _⟩ := hd1
  refine ⟨.obj σ.length, _, R4, P04.turn' (tk := s4.toks + 4) (ao := .dict [(k1, W1), (k2, W2), (k3, W3), (k4, W4)]) O l.hB hj' (by rw [hm4]; exact hs') (by rw [hm4]; exact h1') (.inr h2'.1) (fun vs q => by rw [h3'] at q; cases q) (fun G => ?_), ?_, hq⟩
  · refine .dict er (by rw [hm4]; exact hd') ?_
    exact .cons ((((hv1.ext x12).ext x23).ext x34).gr G) (.cons (((hv2.ext x23).ext x34).gr G) (.cons ((hv3.ext x34).gr G) (.cons (hv4.gr G) .nil)))
  · have := VR.obj (h := h') (r := R4.r) (n := (σ4.set σ.length (AObj.dict [(k1, W1), (k2, W2), (k3, W3), (k4, W4)])).length) σ.length (by simpa using hj')
    rw [hr4] at this
    exact this
end
end
section
open Builtin Builtin.Str
theorem slice_dropLast {u : List Nat} : Txt.slice (mkS u) none (some (-1)) = mkS u.dropLast := by
  have e : strSliceIndices none (some (-1)) 1 u.length = (List.range (u.length - 1 - 0)).map (0 + ·) := by
    rw [← sliceRange_one 0 (u.length - 1)]
    unfold strSliceIndices
    have h : max 0 (min (-1 + (u.length : Int)) (u.length : Int)) = ((u.length - 1 : Nat) : Int) := by (exact ar3)
    simp [h]
  unfold Txt.slice
  rw [mkS_len u, e]
  cases u with
  | nil => rfl
  | cons c r =>
    rw [if_neg (by simp)]
    have hp := range_pick (c :: r) 0 ((c :: r).length - 1 - 0)
    have hf : (fun x : Nat => (mkS (c :: r)).cps[x]?) = fun x : Nat => (c :: r)[x]? := by funext x; show (c :: r).toArray[x]? = _; simp
    rw [hf, hp, List.drop_zero, Nat.sub_zero, List.dropLast_eq_take]
theorem nil_add (a : PySem.Str) : ("" : PySem.Str) ++ a = a := by cases a; show (⟨#[] ++ _⟩ : PySem.Str) = _; simp
theorem mkS_list (u : List Nat) : (mkS u).cps.toList = u := by show u.toArray.toList = u; simp
theorem strNode_spot (a : Int) (ps : List (PySem.Str × Pt)) (l : PySem.Str) : ∃ x r, strNode a ps l = .tup (x :: .int a :: r) := by
  have hf : ∀ (ps : List (PySem.Str × Pt)) (acc : V), ∃ x r, strFold a acc ps l = .tup (x :: .int a :: r) := by
    intro ps
    induction ps with
    | nil => intro acc; rw [strFold]; exact ⟨_, _, rfl⟩
    | cons x r ih => intro acc; obtain ⟨s, p⟩ := x; rw [strFold]; exact ih _
  cases ps with
  | nil => rw [strNode]; exact ⟨_, _, rfl⟩
  | cons x r => obtain ⟨s, p⟩ := x; rw [strNode]; exact hf _ _
section
variable {g w : List Nat} {ps : List (PySem.Str × Pt)} {l : PySem.Str}
theorem root_rd (hg : Gap g) (h : RdB 5 (0 + g.length + 1) [] w ps l) (h3 : ps.length ≤ 3) : RdP 6 0 (g ++ 34 :: (w ++ [34])) (.str ((0 + g.length : Nat) : Int) ps l) := .str hg h h3
theorem tok_root {v : List Nat} {e : Int} {ts2 : List Tk} (hg : Gap g) (h : RdB 5 (0 + g.length + 1) [] w ps l) (h3 : ps.length ≤ 3) (he : e = ((g ++ 34 :: (w ++ [34]) ++ v).length : Nat)) (hv : GH v) (ht : TokR (TokLv 6) [] e 0 v ts2) :
    ∃ ts, PT (.str ((0 + g.length : Nat) : Int) ps l) ts ∧ TokLv 7 [] e 0 (g ++ 34 :: (w ++ [34]) ++ v) (ts ++ ts2) := by
  exact (root_rd hg h h3).tok (k := 6) (post := []) (e := e) (d := 0) (Nat.le_refl _) (by decide) (by decide) (by unfold atW; rw [he]; simp) hv ht
theorem open_root (hg : Gap g) (h : RdB 5 (0 + g.length + 1) [] w ps l) : ∃ tps, Skp [] (g ++ 34 :: w) (34 :: w) ∧ BodyR (TokLv 6) [] ((g ++ 34 :: w).length : Nat) 0 [] w tps l none := by
  obtain ⟨tps, t1, t2⟩ := h.tok (k := 6) (post := []) (z := []) (e := ((g ++ 34 :: w).length : Nat)) (d := 0) (o := none) (by decide) (by decide) (by decide) (by unfold atW; simp; (exact ar396)) (fun fs => .stop)
  rw [List.append_nil] at t2
  exact ⟨tps, hg.skp (Stp.skp (c := 34) (by unfold Stp; decide)), t2⟩
theorem tok_extra {g2 : List Nat} {e : Int} (hg2 : Gap g2) : TokR (TokLv 6) [] e 0 (g2 ++ [34, 41, 34]) [.str [] (mkS [41]) (atW e [34, 41, 34]), .fin e] :=
  ⟨hg2.skp (Stp.skp (c := 34) (by unfold Stp; decide)), .str (w := [41, 34]) (.ch (by decide) (by decide) (by decide) (.fin (fs := [] ++ [41]))) .nil .fin⟩
theorem tok_empty {g1 g2 : List Nat} {e : Int} (hg1 : Gap g1) (hg2 : Gap g2) : TokLv 7 [] e 0 (g1 ++ 34 :: 92 :: 40 :: (g2 ++ 41 :: [34])) [.str [(mkS [], [.fin (atW e (41 :: [34]))])] (mkS []) (atW e (34 :: 92 :: 40 :: (g2 ++ 41 :: [34]))), .fin e] := by
  refine ⟨hg1.skp (Stp.skp (c := 34) (by unfold Stp; decide)), .str (w := 92 :: 40 :: (g2 ++ 41 :: [34])) (w1 := []) (.inner (by decide) ?_ ?_ (.fin (fs := []))) .nil .fin⟩
  · exact hg2.inn (Stp.skp (c := 41) (by unfold Stp; decide)) .fin
  · exact gap_fin (k := 5) hg2
end
end
section
open Builtin Builtin.Str
noncomputable abbrev fLaw (fa : Addr) (cd : Value) : Fn := ⟨"law", defScope (topS 34), fa, cd⟩
theorem lawOk (fa : Addr) (cd : Value) : FnOk (fLaw fa cd) := ⟨rfl, by show ((defScope (topS 34)).names.map (·.1)).Nodup; decide +kernel, by show ((defScope (topS 34)).names.map (·.1)).contains _ = false; decide +kernel⟩
section
variable {Γ : Cx} {A : Around} {st : List Env} {F : Fn} {L : Addr} {ℓ : List (Option V)} {σ : List AObj} {E : Int → Prop}
theorem Wt.neD {l r : Expr} {pos} {Q : Bool → List AObj → Prop} (h : We Γ A st F L l ℓ σ (fun a σ1 => We Γ A st F L r ℓ σ1 (fun b σ2 => ∃ c, EqD A a b c ∧ Q (!c) σ2) E) E) (hm : behindInMarks .NotEq r = false := by with_unfolding_all rfl) : Wt Γ A st F L (.Compare l [.NotEq] [r] pos) ℓ σ Q E := .mk fun s R m rl lc => by
  refine wpAny_isTrue_Compare1 (h.use rl lc fun va s1 a σ1 R1 P1 hva h1 l1 => h1.use P1.rel l1 fun vb s2 b σ2 R2 P2 hvb h2 l2 => ?_) hm
  obtain ⟨c, ⟨da, db, e1, e2, e3, e4, e5, e6⟩, h2⟩ := h2
  obtain ⟨as, ra⟩ := toD_reads a (hva.ext P2.ext) e1
  obtain ⟨bs, rb⟩ := toD_reads b hvb e2
  refine SeqAt.compareNe_reads ra rb e3 e4 e5 ?_
  rw [e6]
  exact wpAny_truthy_bool ⟨_, _, P1.trans P2, h2⟩
theorem eqD_same {b : Nat} {W : V} {n : Nat} (hA : AOk A st (b + n)) (hd : dat W = true) (hs : sok W = true) (hh : hgt W ≤ n) : EqD A W W true := by
  obtain ⟨d, e1, e2, e3⟩ := dat_toD W hd hs
  refine ⟨d, d, e1, e1, e2, e2, ?_, SeqAt.eqv_refl d e2⟩
  have := hA.units
  rw [Nat.min_self]; (exact ar88 hh e3 this)
theorem tagD {t : PySem.Str} {W : V} (hd : dat W = true) : dat (.tup [.str t, W]) = true := by simp [dat, dats, hd]
theorem tagS {t : PySem.Str} {W : V} (ht : PyData.strOk t = true) (hd : sok W = true) : sok (.tup [.str t, W]) = true := by simp [sok, soks, hd, ht]
theorem tagH {t : PySem.Str} {W : V} : hgt (.tup [.str t, W]) = 1 + hgt W := by simp [hgt, hgts]
end
theorem ok_tags : PyData.strOk "node" = true ∧ PyData.strOk "spot" = true := by decide +kernel
section
variable {Γ : Cx} {A : Around} {L : Addr} {fa : Addr} {cd : Value} {E : Int → Prop}
set_option maxHeartbeats 8000000 in
theorem x_law {a : Addr} {vs : List Value} {ns : List Int} {Fn0 : Fn} {body : List Stmt} (eF : Fn0 = fLaw fa cd) (eb : body = bT 34) (O : Γ.Ok) (X : KF Γ.K Γ.w.params Γ.prog) (XX : KX Γ.K) (hA : AOk A [Fn0.env L] 300) (hl : Γ.B.IsList a vs.toArray) (hi : IntsAre vs ns) (hlen : ns.length ≤ 63) :
    Wx Γ A [] Fn0 L body (some (.glob a) :: List.replicate 7 none) [] (fun f _ _ => f = .ret (.bool true)) E := by
  subst eF; subst eb
  have OF := lawOk fa cd
  refine Wx.cons (Ws.assign OF (We.dict4 O (by decide) (We.cells O OF hA.handled X.babs .head hl hi hlen (fun zs hzs => We.cint (We.cint (We.cstr ⟨?_, _, .tail .head, ?_⟩)))
    (by decide) (by decide) rfl (by decide) rfl rfl)))
  · rfl
  have hF0 : Feed ((([] ++ [AObj.dict []]) ++ [AObj.list (zs.map V.int)]).set ([] : List AObj).length (.dict [("cells", .obj ([] ++ [AObj.dict []]).length), ("place", .int 0), ("left", .int 4), ("text", .str "")])) 0 1 0 4 "" :=
    ⟨rfl, zs, rfl, by (exact Nat.le_trans (by assumption) (by decide))⟩
  generalize (([] ++ [AObj.dict []]) ++ [AObj.list (zs.map V.int)]).set ([] : List AObj).length (.dict [("cells", .obj ([] ++ [AObj.dict []]).length), ("place", .int 0), ("left", .int 4), ("text", .str "")]) = σ0 at hF0 ⊢
  -- the string that is due
  have t5 : tl 5 = 102400 := by decide
  refine Wx.cons (Ws.assign OF (We.call O (We.gname O OF (by repeat constructor) X.glawstring ⟨X.kLstring, Wes.cons (We.name OF (by repeat constructor) (Wes.cons (We.cint (Wes.nil (Wf.of_Wc O ((all_law 5 (by decide)).2 Γ A _ σ0 _ _ 0 1 0 4 "" O X (hA.le (by decide)) hF0 (by exact ar327 t5) (by show 0 + tl 5 ≤ _; (exact ar328 t5)) fun σ1 pl1 lf1 g w ps l hp1 hg hF1 hR h3 hT hpl1 => ⟨_, .tail (.tail .head), ?_⟩))))))⟩)))
  have hR' : RdB 5 (0 + g.length + 1) [] w ps l := hR
  have hbd := (root_rd hg hR' h3).bd
  have hnode : node (.str ((0 + g.length : Nat) : Int) ps l) = strNode ((0 + g.length : Nat) : Int) ps l := by rw [node]
  have hspl : (("" : PySem.Str).length + g.length : Nat) = 0 + g.length := rfl
  rw [hspl]
  have hTl : (g ++ 34 :: (w ++ [34])).length ≤ 102400 := by rw [← t5]; exact hT
  have hgl : g.length ≤ 102400 := by have := hTl; simp at this; (exact ar274 this)
  obtain ⟨dx, dr, hdue⟩ := strNode_spot ((0 + g.length : Nat) : Int) ps l
  -- text
  refine Wx.cons (Ws.assign OF (f_text O OF (by repeat constructor) hF1 ⟨_, .tail (.tail (.tail .head)), ?_⟩))
  rw [nil_add]
  have hgap34 : (g ++ 34 :: (w ++ [34])).dropLast = g ++ 34 :: w := by
    have : g ++ 34 :: (w ++ [34]) = (g ++ 34 :: w) ++ [34] := by simp
    rw [this, List.dropLast_concat]
  have hnd : dat (strNode ((0 + g.length : Nat) : Int) ps l) = true := hnode ▸ hbd.dat
  have hns : sok (strNode ((0 + g.length : Nat) : Int) ps l) = true := hnode ▸ hbd.sok
  have hnh : hgt (strNode ((0 + g.length : Nat) : Int) ps l) ≤ 65 := hnode ▸ hbd.hgt
  -- heard whole
  refine Wx.cons (Ws.ifF (Wt.orF2 (Wt.neD (We.call O (We.gname O OF (by repeat constructor) X.glawheard ⟨X.kHeard, Wes.cons (We.name OF (by repeat constructor) (Wes.nil (Wf.heard (n := 250) (Q0 := fun W => W = strNode ((0 + g.length : Nat) : Int) ps l) (E0 := fun _ => False) O X XX (hA.le (by decide)) (fun Γ' A' st' O' X' hA' => ?_) (fun W hW => ?_) (fun k hk => hk.elim))))⟩)))))
  · obtain ⟨ts, a1, a2⟩ := tok_root (v := []) (e := ((g ++ 34 :: (w ++ [34]) ++ []).length : Nat)) (ts2 := [.fin ((g ++ 34 :: (w ++ [34]) ++ []).length : Nat)]) hg hR' h3 rfl .nil tok_fin
    rw [List.append_nil] at a2
    have hln : ((mkS (g ++ 34 :: (w ++ [34]))).length : Int) = ((g ++ 34 :: (w ++ [34])).length : Nat) := by rw [mkS_len]
    refine c_exprOfOk (k := 7) (n := 247) (p := .str ((0 + g.length : Nat) : Int) ps l) (tp := ts) O' X' hA' (by decide) (by have := hbd.frm; (exact ar211 this)) (by rw [mkS_len]; (exact Nat.le_trans (by assumption) (by decide))) (by rw [hln, mkS_list]; exact a2) a1 (hbd.fits (by decide)) (hbd.fitN (by decide)).1 (hbd.fitN (by decide)).2 (by have := hbd.dep; (exact Nat.le_trans (by assumption) (by decide))) fun σ' _ => ⟨hbd.dat, hnode⟩
  subst hW
  refine We.tuple (by decide) (Wes.cons (We.cstr (Wes.cons (We.name OF (by repeat constructor) (Wes.nil ⟨by simp, true, eqD_same (b := 200) (n := 100) hA (tagD hnd) (tagS ok_tags.1 hns) (by rw [tagH]; (exact ar236 hnh)), rfl, ?_⟩)))))
  -- heard without its last sign
  refine Wt.neD (We.call O (We.gname O OF (by repeat constructor) X.glawheard ⟨X.kHeard, Wes.cons (We.slice (We.name OF (by repeat constructor) (Wpart.none (Wpart.some (We.neg (We.cint ⟨1, rfl, ⟨_, rfl, .str (by rw [mkS_len]; unfold sizeLim; (exact Nat.le_trans (by assumption) (by decide))) ?_⟩⟩))))))⟩))
  rw [slice_dropLast, hgap34]
  refine Wes.nil (Wf.heard (n := 250) (Q0 := fun _ => False) (E0 := fun k => k = ((0 + g.length : Nat) : Int)) O X XX (hA.le (by decide)) (fun Γ' A' st' O' X' hA' => ?_) (fun W hW => hW.elim) (fun k hk => ?_))
  · obtain ⟨tps, a1, a2⟩ := open_root hg hR'
    have hln : ((mkS (g ++ 34 :: w)).length : Int) = ((g ++ 34 :: w).length : Nat) := by rw [mkS_len]
    have hll : (g ++ 34 :: w).length ≤ 102400 := by rw [← hgap34]; simp at hTl ⊢; (exact Nat.le_of_lt (by assumption))
    refine c_exprOfOpen (k := 6) (n := 247) (w1 := w) O' X' hA' (by decide) (by rw [mkS_len]; (exact Nat.le_trans (by assumption) (by decide))) (by rw [mkS_list]; exact a1) (by rw [hln]; exact a2) ?_
    rw [hln]; unfold atW; simp
  subst hk
  refine We.tuple (by decide) (Wes.cons (We.cstr (Wes.cons (We.item O (We.name OF (by repeat constructor) (We.cint ?_))))))
  rw [hdue]
  refine .tup (by decide) (by decide) rfl (Wes.nil ⟨by simp, true, eqD_same (b := 200) (n := 100) hA (tagD rfl) (tagS ok_tags.2 rfl) (by rw [tagH]; simp [hgt]), rfl, Wx.nil ?_⟩)
  rw [← hdue]
  -- a second string behind it
  have hF1' : Feed σ1 0 1 pl1 lf1 ("" ++ mkS (g ++ 34 :: (w ++ [34]))) := hF1
  have hf1 : 0 < σ1.length := lt_of_some hF1.fd
  refine Wx.cons (Ws.assign OF (We.call O (We.gname O OF (by repeat constructor) X.glawput ⟨X.kPut, Wes.cons (We.name OF (by repeat constructor) (Wes.cons (We.cstr (Wes.nil (Wf.of_Wc O (c_putU (b := 290) O X (hA.le (by decide)) hF1' (by (exact Nat.le_trans (by assumption) (by decide))) (by show 0 + _ + 3 ≤ _; (exact ar239 t5 hT)) fun g2 hg2 hgl2 => ⟨_, .tail (.tail (.tail (.tail .head))), ?_⟩))))))⟩)))
  have e3 : g ++ 34 :: (w ++ [34]) ++ (g2 ++ ("\")\"" : PySem.Str).cps.toList) = g ++ 34 :: (w ++ [34]) ++ (g2 ++ [34, 41, 34]) := rfl
  rw [e3]
  have hF2 := hF1'.set (pl' := pl1 + 1) (lf' := lf1) (t' := "" ++ mkS (g ++ 34 :: (w ++ [34]) ++ (g2 ++ [34, 41, 34])))
  generalize σ1.set 0 (.dict (feedFs 1 (pl1 + 1) lf1 ("" ++ mkS (g ++ 34 :: (w ++ [34]) ++ (g2 ++ [34, 41, 34]))))) = σ2 at hF2 ⊢
  refine Wx.cons (Ws.ifF (Wt.neD (We.call O (We.gname O OF (by repeat constructor) X.glawheard ⟨X.kHeard, Wes.cons (f_text O OF (by repeat constructor) hF2 ?_)⟩))))
  rw [nil_add]
  refine Wes.nil (Wf.heard (n := 250) (Q0 := fun _ => False) (E0 := fun k => k = ((("" : PySem.Str).length + (g ++ 34 :: (w ++ [34])).length + g2.length : Nat) : Int)) O X XX (hA.le (by decide)) (fun Γ' A' st' O' X' hA' => ?_) (fun W hW => hW.elim) (fun k hk => ?_))
  · obtain ⟨ts, a1, a2⟩ := tok_root (v := g2 ++ [34, 41, 34]) (e := ((g ++ 34 :: (w ++ [34]) ++ (g2 ++ [34, 41, 34])).length : Nat)) hg hR' h3 rfl hg2.gh (tok_extra hg2)
    have hln : ((mkS (g ++ 34 :: (w ++ [34]) ++ (g2 ++ [34, 41, 34]))).length : Int) = ((g ++ 34 :: (w ++ [34]) ++ (g2 ++ [34, 41, 34])).length : Nat) := by rw [mkS_len]
    have hll : (g ++ 34 :: (w ++ [34]) ++ (g2 ++ [34, 41, 34])).length = (g ++ 34 :: (w ++ [34])).length + g2.length + 3 := by simp; (exact ar356)
    refine c_exprOfEnd (k := 7) (n := 247) (p := .str ((0 + g.length : Nat) : Int) ps l) (tp := ts) (nt := .str [] (mkS [41]) (atW ((g ++ 34 :: (w ++ [34]) ++ (g2 ++ [34, 41, 34])).length : Nat) [34, 41, 34])) (post := [.fin ((g ++ 34 :: (w ++ [34]) ++ (g2 ++ [34, 41, 34])).length : Nat)]) O' X' hA' (by decide) (by have := hbd.frm; (exact ar211 this)) (by rw [mkS_len, hll]; (exact ar172 t5 hT hgl2)) (by rw [hln, mkS_list]; exact a2) (by simp) a1 (hbd.fits (by decide)) (hbd.fitN (by decide)).2 (by have := hbd.dep; (exact Nat.le_trans (by assumption) (by decide))) ⟨rfl, rfl, trivial⟩ rfl rfl ?_
    show atW _ _ = _
    rw [hll]; unfold atW
    show (((g ++ 34 :: (w ++ [34])).length + g2.length + 3 : Nat) : Int) - ((3 : Nat) : Int) = ((0 + (g ++ 34 :: (w ++ [34])).length + g2.length : Nat) : Int)
    push_cast; (exact ar355)
  subst hk
  refine We.tuple (by decide) (Wes.cons (We.cstr (Wes.cons (We.name OF (by repeat constructor) (Wes.nil ⟨by simp, true, eqD_same (b := 200) (n := 100) hA (tagD rfl) (tagS ok_tags.2 rfl) (by rw [tagH]; simp [hgt]), rfl, Wx.nil ?_⟩)))))
  -- an inner part that is empty
  refine Wx.cons (fs_text O OF (by repeat constructor) (We.cstr ⟨_, _, _, _, _, rfl, hF2, ?_⟩))
  have hF3 : Feed (σ2.set 0 (.dict (feedFs 1 (pl1 + 1) lf1 ""))) 0 1 (pl1 + 1) lf1 ("" ++ mkS []) := hF2.set
  generalize σ2.set 0 (.dict (feedFs 1 (pl1 + 1) lf1 "")) = σ3 at hF3 ⊢
  refine Wx.cons (Ws.expr OF (We.call O (We.gname O OF (by repeat constructor) X.glawput ⟨X.kPut, Wes.cons (We.name OF (by repeat constructor) (Wes.cons (We.cstr (Wes.nil (Wf.of_Wc O (c_putU (b := 290) O X (hA.le (by decide)) hF3 (by exact ar267 t5 hpl1) (by decide) fun g3 hg3 hgl3 => ?_))))))⟩)))
  have e4 : [] ++ (g3 ++ ("\"\\(" : PySem.Str).cps.toList) = g3 ++ [34, 92, 40] := rfl
  rw [e4]
  have hF4 := hF3.set (pl' := pl1 + 1 + 1) (lf' := lf1) (t' := "" ++ mkS (g3 ++ [34, 92, 40]))
  generalize σ3.set 0 (.dict (feedFs 1 (pl1 + 1 + 1) lf1 ("" ++ mkS (g3 ++ [34, 92, 40])))) = σ4 at hF4 ⊢
  have hl4 : (g3 ++ [34, 92, 40]).length = g3.length + 3 := by simp
  refine Wx.cons (Ws.assign OF (We.call O (We.gname O OF (by repeat constructor) X.glawput ⟨X.kPut, Wes.cons (We.name OF (by repeat constructor) (Wes.cons (We.cstr (Wes.nil (Wf.of_Wc O (c_putU (b := 290) O X (hA.le (by decide)) hF4 (by exact ar234 t5 hpl1) (by rw [hl4]; show 0 + _ + 1 ≤ _; (exact ar306 hgl3)) fun g4 hg4 hgl4 => ⟨_, .tail (.tail (.tail (.tail .head))), ?_⟩))))))⟩)))
  have e5 : g3 ++ [34, 92, 40] ++ (g4 ++ (")" : PySem.Str).cps.toList) = g3 ++ [34, 92, 40] ++ (g4 ++ [41]) := rfl
  rw [e5]
  have hF5 := hF4.set (pl' := pl1 + 1 + 1 + 1) (lf' := lf1) (t' := "" ++ mkS (g3 ++ [34, 92, 40] ++ (g4 ++ [41])))
  generalize σ4.set 0 (.dict (feedFs 1 (pl1 + 1 + 1 + 1) lf1 ("" ++ mkS (g3 ++ [34, 92, 40] ++ (g4 ++ [41]))))) = σ5 at hF5 ⊢
  have hl5 : (g3 ++ [34, 92, 40] ++ (g4 ++ [41])).length = g3.length + g4.length + 4 := by simp; (exact ar380)
  refine Wx.cons (Ws.ret (We.eqD (We.call O (We.gname O OF (by repeat constructor) X.glawheard ⟨X.kHeard, Wes.cons (We.bin (f_text O OF (by repeat constructor) hF5 (We.cstr (.addS (by rw [len_tail, hl5]; show 0 + _ + 1 ≤ _; unfold sizeLim; (exact ar227 hgl3 hgl4)) ?_))))⟩))))
  have e6 : ("" : PySem.Str) ++ mkS (g3 ++ [34, 92, 40] ++ (g4 ++ [41])) ++ "\"" = mkS (g3 ++ 34 :: 92 :: 40 :: (g4 ++ 41 :: [34])) := by
    rw [show ("\"" : PySem.Str) = mkS [34] from rfl, mkS_tail, nil_add]; congr 1; simp
  rw [e6]
  refine Wes.nil (Wf.heard (n := 250) (Q0 := fun _ => False) (E0 := fun k => k = ((("" : PySem.Str).length + (g3 ++ [34, 92, 40]).length + g4.length : Nat) : Int)) O X XX (hA.le (by decide)) (fun Γ' A' st' O' X' hA' => ?_) (fun W hW => hW.elim) (fun k hk => ?_))
  · have hln : ((mkS (g3 ++ 34 :: 92 :: 40 :: (g4 ++ 41 :: [34]))).length : Int) = ((g3 ++ 34 :: 92 :: 40 :: (g4 ++ 41 :: [34])).length : Nat) := by rw [mkS_len]
    have hll : (g3 ++ 34 :: 92 :: 40 :: (g4 ++ 41 :: [34])).length = g3.length + g4.length + 5 := by simp; (exact ar377)
    refine c_exprOfEmpty (k := 7) (n := 247) O' X' hA' (by decide) (by decide) (by rw [mkS_len, hll]; (exact ar276 hgl3 hgl4)) (by rw [hln, mkS_list]; exact tok_empty hg3 hg4) (by simp) ?_
    rw [hll, hl4]; unfold atW
    show ((g3.length + g4.length + 5 : Nat) : Int) - ((2 : Nat) : Int) = ((0 + (g3.length + 3) + g4.length : Nat) : Int)
    push_cast; (exact ar342)
  subst hk
  exact We.tuple (by decide) (Wes.cons (We.cstr (Wes.cons (We.name OF (by repeat constructor) (Wes.nil ⟨by simp, true, eqD_same (b := 200) (n := 100) hA (tagD rfl) (tagS ok_tags.2 rfl) (by rw [tagH]; simp [hgt]), rfl⟩)))))
end
end
section
theorem law_names : (defScope (topS 34)).names[0]? = some (("script" : Str), NameKind.local) := by kernel_rfl
theorem law_fl {h : Heap} {r : Nat → Addr} {n : Nat} {f : Flow} {P : Flow → Prop} (x : FlR h r n f (.ret (.bool true))) (hp : P (.ret (.bool true))) : P f := by
  cases x with
  | ret hv => (obtain rfl := VR.inv hv); exact hp
theorem qf_ret {Γ : Cx} {st : List Env} {F : Fn} {L : Addr} {σ : List AObj} {R : Mp} {s s' : Shared} {f : Flow} {P : Flow → Prop} (h : QF Γ st F L σ R s (fun f _ _ => f = .ret (.bool true)) f s')
    (hp : ∀ m', Fr Γ.B L s'.heap m' → s'.os = Γ.os → s'.gens = Γ.gens → P (.ret (.bool true))) : P f := by
  obtain ⟨f', ℓ', σ', R', m', r', l', x', hf, he⟩ := h
  subst he
  exact law_fl hf (hp m' l'.fr r'.os r'.gens)
theorem ex_false {Γ : Cx} {st : List Env} {F : Fn} {L : Addr} {x : Value} {s' : Shared} {P : Prop} (h : EX Γ st F L (fun _ => False) x s') : P := by
  obtain ⟨k, _, h⟩ := h
  exact h.elim
noncomputable def cxOf (prog p : Program) (w : World) (K : Frag) (loose : List Str) (mg mb : Str → Option Value) (s₁ : Shared) : Cx := { prog, w, K, B := s₁.heap, H := s₁.heap, p, loose, mg, mb, gens := s₁.gens, os := s₁.os }
theorem law_run {prog p : Program} {w : World} {K : Frag} {loose : List Str} {mg mb : Str → Option Value} {s₁ s : Shared} {Fn0 : Fn} {a : Addr} {A : Around} {m : Str → Option Value} {body : List Stmt} {j : Nat}
    {Q : Flow → Shared → Prop} {E : Value → Shared → Prop} (OF : FnOk Fn0) (hn0 : Fn0.scope.names[0]? = some (("script" : Str), NameKind.local))
    (hx : Wx (cxOf prog p w K loose mg mb s₁) A [] Fn0 s₁.heap.objs.size body (some (.glob a) :: List.replicate j none) [] (fun f _ _ => f = .ret (.bool true)) (fun _ => False))
    (F : Fr s₁.heap s₁.heap.objs.size s.heap m) (hm : m "script" = some (.ref a)) (hg : s.gens = s₁.gens) (ho : s.os = s₁.os)
    (hq : ∀ s' m', Fr s₁.heap s₁.heap.objs.size s'.heap m' → s'.os = s₁.os → s'.gens = s₁.gens → Q (.ret (.bool true)) s') :
    wpAny (model prog w) A (execs body (Fn0.env s₁.heap.objs.size)) Q E s := by
  have hn : s₁.heap.get? s₁.heap.objs.size = none := get_size_none _
  have R0 : Rel (cxOf prog p w K loose mg mb s₁) [Fn0.env s₁.heap.objs.size] [] ⟨fun _ => 0, fun _ => 0⟩ s :=
    ⟨F.keep, fun i ao e => by simp at e, fun i hi => by simp at hi, fun i j hi => by simp at hi, .cons (by show Fn0.scope.kind ≠ .module; rw [OF.kind]; decide) rfl F.ns hn trivial, fun _ _ _ _ i hi => by simp at hi, hg, ho, Nat.le_of_lt F.ns.lt⟩
  have L0 : Loc (cxOf prog p w K loose mg mb s₁) Fn0 s₁.heap.objs.size (some (.glob a) :: List.replicate j none) 0 ⟨fun _ => 0, fun _ => 0⟩ m s.heap := by
    refine ⟨F, hn, fun k x kd W e1 e2 => ?_⟩
    cases k with
    | zero =>
      rw [hn0] at e1; cases e1
      simp at e2; subst e2
      exact ⟨_, hm, .glob a⟩
    | succ k =>
      rw [List.getElem?_cons_succ, List.getElem?_replicate] at e2
      split at e2 <;> cases e2
  refine wpAny_mono (hx.1 s ⟨fun _ => 0, fun _ => 0⟩ m R0 L0) (fun f s' h => ?_) fun e s' h => ex_false h
  exact qf_ret (P := fun f => Q f s') h fun m' h1 h2 h3 => hq s' m' h1 h2 h3
theorem law_end {prog p : Program} {w : World} {K : Frag} {loose : List Str} {mean : ExcName → Option Value} {mg mb : Str → Option Value} {s₁ s : Shared} {fa a : Addr} {cd : Value} {vs : List Value} {ns : List Int} {A : Around} {m : Str → Option Value} {q : Str} {sc : Scope} {body : List Stmt}
    {Q : Flow → Shared → Prop} {E : Value → Shared → Prop} (eq : q = "law") (es : sc = defScope (topS 34)) (eb : body = bT 34) (X : KF K w.params prog) (XX : KX K) (kin : K.In s₁.heap) (T : Top p loose mean mg mb s₁.heap)
    (hf : A.frames = some [envOf q sc s₁.heap.objs.size fa cd]) (hh : A.handled = none) (hd : A.depth + 300 < recursionLimit) (hu : A.units + 10 * 300 < cLine)
    (hl : s₁.heap.IsList a vs.toArray) (hi : IntsAre vs ns) (hlen : ns.length ≤ 63) (F : Fr s₁.heap s₁.heap.objs.size s.heap m) (hm : m "script" = some (.ref a)) (hg : s.gens = s₁.gens) (ho : s.os = s₁.os)
    (hq : ∀ s' m', Fr s₁.heap s₁.heap.objs.size s'.heap m' → s'.os = s₁.os → s'.gens = s₁.gens → Q (.ret (.bool true)) s') :
    wpAny (model prog w) A (execs body (envOf q sc s₁.heap.objs.size fa cd)) Q E s := by
  have eF : (⟨q, sc, fa, cd⟩ : Fn) = fLaw fa cd := by rw [eq, es]
  have O : (cxOf prog p w K loose mg mb s₁).Ok := ⟨kin, fun _ _ e => e, T.nolimit, topRead_of T, ⟨_, T⟩⟩
  have OF : FnOk ⟨q, sc, fa, cd⟩ := by rw [eF]; exact lawOk fa cd
  have n0 : (⟨q, sc, fa, cd⟩ : Fn).scope.names[0]? = some (("script" : Str), NameKind.local) := by rw [eF]; exact law_names
  exact law_run (Fn0 := ⟨q, sc, fa, cd⟩) (j := 7) OF n0 (x_law (Γ := cxOf prog p w K loose mg mb s₁) (fa := fa) (cd := cd) eF eb O X XX ⟨hf, hh, hd, hu⟩ hl hi hlen) F hm hg ho hq
end
end
section
open PySem PySem.W PyProof.Rows PySem.Calls PySem.Spec
noncomputable def oAt (K : Frag) (a : Addr) : Obj := match K.lookup a with
  | some o => o
  | none => ⟨.none, none, .plain, #[]⟩
noncomputable def fdOf (o : Obj) : FuncData := match o.data with
  | .func f => f
  | _ => default
noncomputable def vAt (K : Frag) (a : Addr) (x : Str) : Value := match nsIn K a x with
  | some (some v) => v
  | _ => .none
noncomputable def seqOf (o : Obj) : Array Value := match o.data with
  | .seq vs _ => vs
  | _ => #[]
noncomputable def epOf (o : Obj) : Nat := match o.data with
  | .seq _ n => n
  | .dict _ n => n
  | _ => 0
noncomputable def dictOf (o : Obj) : Array DictEntry := match o.data with
  | .dict es _ => es
  | _ => #[]
noncomputable abbrev fnAs (K : Frag) (F : Fn) (body : List Stmt) : FuncData := fnOf (fdOf (oAt K F.f)).name F.q (fdOf (oAt K F.f)).params body F.scope (fdOf (oAt K F.f)).defaults (fdOf (oAt K F.f)).kwdefaults (fdOf (oAt K F.f)).doc (fdOf (oAt K F.f)).pyModule (fdOf (oAt K F.f)).annotations F.cd (fdOf (oAt K F.f)).closureTuple
theorem len1 {α : Type} {l : List α} (h : l.length = 1) : ∃ a, l = [a] := by
  match l, h with
  | [a], _ => exact ⟨a, rfl⟩
theorem len2 {α : Type} {l : List α} (h : l.length = 2) : ∃ a b, l = [a, b] := by
  match l, h with
  | [a, b], _ => exact ⟨a, b, rfl⟩
theorem len3 {α : Type} {l : List α} (h : l.length = 3) : ∃ a b c, l = [a, b, c] := by
  match l, h with
  | [a, b, c], _ => exact ⟨a, b, c, rfl⟩
theorem len4 {α : Type} {l : List α} (h : l.length = 4) : ∃ a b c d, l = [a, b, c, d] := by
  match l, h with
  | [a, b, c, d], _ => exact ⟨a, b, c, d, rfl⟩
theorem len5 {α : Type} {l : List α} (h : l.length = 5) : ∃ a b c d e, l = [a, b, c, d, e] := by
  match l, h with
  | [a, b, c, d, e], _ => exact ⟨a, b, c, d, e, rfl⟩
theorem fnAt0 {K : Frag} {F : Fn} {ps : List Str} {body : List Stmt} (hb : ∀ (s : Shared), ∀ vs : List Value, vs.length = ps.length → BindsTo s (fnAs K F body) ⟨vs, []⟩ (ps.zip vs))
    (h : K.lookup F.f = some ⟨(oAt K F.f).cls, (oAt K F.f).dict, .func (fnAs K F body), (oAt K F.f).slots⟩) (code : codeIn K F.cd F.q = true)
    (hk : F.scope.kind = .function) (hn : decide ((F.scope.names.map (·.1)).Nodup) = true) (hd : (F.scope.names.map (·.1)).contains ("__debug__" : Str) = false)
    (cell : decide (∀ x ∈ F.scope.names, x.2 ≠ .cell) = true) (co : F.scope.isCoroutine = false) (gen : F.scope.isGenerator = false) (first : F.scope.names.take ps.length = ps.map (·, NameKind.local)) : FnAt K F ps body :=
  ⟨⟨_, _, _, _, _, _, _, _, _, _, _, h, fun s _ vs hl => by rw [List.append_nil]; exact hb s vs (by simpa using hl)⟩, fun _ _ _ => .nil, code, ⟨hk, of_decide_eq_true hn, hd⟩, of_decide_eq_true cell, co, gen, first⟩
theorem bind1 {s : Shared} {fd : FuncData} {p0 : Str} (h : ∀ a, bindArgs fd ⟨[a], []⟩ = pure [(p0, a)]) (vs : List Value) (hl : vs.length = [p0].length) : BindsTo s fd ⟨vs, []⟩ ([p0].zip vs) := by
  obtain ⟨a, rfl⟩ := len1 hl
  exact BindsTo.of_eq (h a)
theorem bind2 {s : Shared} {fd : FuncData} {p0 p1 : Str} (h : ∀ a b, bindArgs fd ⟨[a, b], []⟩ = pure [(p0, a), (p1, b)]) (vs : List Value) (hl : vs.length = [p0, p1].length) : BindsTo s fd ⟨vs, []⟩ ([p0, p1].zip vs) := by
  obtain ⟨a, b, rfl⟩ := len2 hl
  exact BindsTo.of_eq (h a b)
theorem bind3 {s : Shared} {fd : FuncData} {p0 p1 p2 : Str} (h : ∀ a b c, bindArgs fd ⟨[a, b, c], []⟩ = pure [(p0, a), (p1, b), (p2, c)]) (vs : List Value) (hl : vs.length = [p0, p1, p2].length) : BindsTo s fd ⟨vs, []⟩ ([p0, p1, p2].zip vs) := by
  obtain ⟨a, b, c, rfl⟩ := len3 hl
  exact BindsTo.of_eq (h a b c)
noncomputable def toV? : Value → Option V
  | .none => some .none
  | .int i _ => some (.int i)
  | .str x _ => some (.str x)
  | _ => none
theorem toV_cr {K : Frag} {v : Value} {W : V} (h : toV? v = some W) : CR K v W := by
  cases v with
  | none => cases h; exact .none
  | int i t => cases h; exact .int i t
  | str x t => cases h; exact .str x t
  | _ => exact nomatch h
theorem CR.atoms {K : Frag} {a : Addr} {Ws : List V} (h : K.lookup a = some ⟨.type "tuple", (oAt K a).dict, .seq (seqOf (oAt K a)) (epOf (oAt K a)), (oAt K a).slots⟩) (hv : (seqOf (oAt K a)).toList.map toV? = Ws.map some) : CR K (.ref a) (.tup Ws) := by
  refine .tup h (by have := congrArg List.length hv; rwa [List.length_map, List.length_map] at this) fun k v W e1 e2 => toV_cr ?_
  have := congrArg (·[k]?) hv
  simp only [List.getElem?_map, e1, e2, Option.map_some] at this
  exact Option.some.inj this
inductive CRs (K : Frag) : List Value → List V → Prop
  | nil : CRs K [] []
  | cons {v W vs Ws} (h : CR K v W) (r : CRs K vs Ws) : CRs K (v :: vs) (W :: Ws)
theorem CRs.len {K vs Ws} (x : CRs K vs Ws) : vs.length = Ws.length := by
  induction x with
  | nil => rfl
  | cons _ _ ih => exact congrArg (· + 1) ih
theorem CRs.get {K vs Ws} (x : CRs K vs Ws) : ∀ (k : Nat) v W, vs[k]? = some v → Ws[k]? = some W → CR K v W := by
  induction x with
  | nil => intro k v W e; exact nomatch e
  | cons h _ ih =>
    intro k v W e1 e2
    cases k with
    | zero => cases e1; cases e2; exact h
    | succ k => exact ih k v W e1 e2
theorem CR.tuples {K : Frag} {a : Addr} {vs : List Value} {Ws : List V} (h : K.lookup a = some ⟨.type "tuple", (oAt K a).dict, .seq (seqOf (oAt K a)) (epOf (oAt K a)), (oAt K a).slots⟩) (hs : (seqOf (oAt K a)).toList = vs) (r : CRs K vs Ws) : CR K (.ref a) (.tup Ws) := by
  subst hs
  exact .tup h r.len r.get
theorem Glb.atom {K : Frag} {x : Str} {W : V} (h : nsIn K mainGlobals x = some (some (vAt K mainGlobals x))) (hc : toV? (vAt K mainGlobals x) = some W) : Glb K x W := .cst h (toV_cr hc)
theorem bind5 {s : Shared} {fd : FuncData} {T : Addr} {o : Obj} {n : Nat} {z : Value} {n0 n1 n2 n3 n4 : Option Expr} {p0 p1 p2 p3 p4 : Pos} {ds} {fd' : FuncData} (hfd : fd = { fd' with params := ⟨[], [⟨"self", n0, p0⟩, ⟨"text", n1, p1⟩, ⟨"spot", n2, p2⟩, ⟨"end", n3, p3⟩, ⟨"depth", n4, p4⟩], none, [], [], none, ds⟩, defaults := .ref T }) (ho : s.heap.get? T = some o) (hs : o.data = .seq #[z] n)
    (va vb vc vd ve : Value) : BindsTo s fd ⟨[va, vb, vc, vd, ve], []⟩ [("self", va), ("text", vb), ("spot", vc), ("end", vd), ("depth", ve)] := by
  rw [hfd]
  exact BindsTo.of_defaults rfl ho hs rfl (by kernel_rfl)
theorem bind4 {s : Shared} {fd : FuncData} {T : Addr} {o : Obj} {n : Nat} {z : Value} {n0 n1 n2 n3 n4 : Option Expr} {p0 p1 p2 p3 p4 : Pos} {ds} {fd' : FuncData} (hfd : fd = { fd' with params := ⟨[], [⟨"self", n0, p0⟩, ⟨"text", n1, p1⟩, ⟨"spot", n2, p2⟩, ⟨"end", n3, p3⟩, ⟨"depth", n4, p4⟩], none, [], [], none, ds⟩, defaults := .ref T }) (ho : s.heap.get? T = some o) (hs : o.data = .seq #[z] n)
    (va vb vc vd : Value) : BindsTo s fd ⟨[va, vb, vc, vd], []⟩ [("self", va), ("text", vb), ("spot", vc), ("end", vd), ("depth", z)] := by
  rw [hfd]
  exact BindsTo.of_defaults rfl ho hs rfl (by kernel_rfl)
noncomputable def refOf : Value → Addr
  | .ref a => a
  | _ => 0
noncomputable def argN (fd : FuncData) (k : Nat) : Arg := nth ⟨"", none, ⟨0, 0, 0, 0⟩⟩ fd.params.args k
noncomputable def keysOf : List DictEntry → List (Str × Tok)
  | [] => []
  | e :: r => (match e.key with
    | .str x t => (x, t)
    | _ => ("", 0)) :: keysOf r
noncomputable def rebuild (P : Params) : List DictEntry → List DictEntry
  | [] => []
  | e :: r => (match e.key with
    | .str x t => ⟨PyData.keyHash P x, .str x t, e.val⟩
    | _ => ⟨PyData.keyHash P "", .str "" 0, e.val⟩) :: rebuild P r
theorem keysLit_rebuild {P : Params} : ∀ l : List DictEntry, KeysLit P (rebuild P l)
  | [] => trivial
  | e :: r => by
    refine ⟨?_, keysLit_rebuild r⟩
    split
    · exact ⟨_, _, rfl, rfl⟩
    · exact ⟨_, _, rfl, rfl⟩
theorem keysLit_of {P : Params} {l : List DictEntry} (h : l = rebuild P l) : KeysLit P l := h.symm ▸ keysLit_rebuild l
noncomputable def stOf (d : FuncData) : List Stmt := match d.body with
  | .stmts b => b
  | _ => []
noncomputable def clOf (d : FuncData) : Addr := match d.closure with
  | [(_, a)] => a
  | _ => 0
noncomputable def cellOf (o : Obj) : Option Value := match o.data with
  | .cell v => v
  | _ => none
noncomputable def fldOf (o : Obj) : Array Value := match o.data with
  | .fields vs => vs
  | _ => #[]
noncomputable def clsOf (o : Obj) : ClassData := match o.data with
  | .cls c => c
  | _ => default
noncomputable def slN (o : Obj) (k : Nat) : Option Value := nth none o.slots.toList k
noncomputable def strTok : Option Value → Tok
  | some (.str _ t) => t
  | _ => 0
noncomputable def strStr : Option Value → Str
  | some (.str x _) => x
  | _ => ""
noncomputable abbrev ksAs (K : Frag) (f : Addr) (fld : Str) (p0 p1 ap wp cp ep sp tp vp asp : Pos) : FuncData := let d := fdOf (oAt K f)
  ksFn d.name d.qualname d.params (initBody fld p0 p1 ap wp cp ep sp tp vp asp) d.scope d.defaults d.kwdefaults d.doc d.pyModule d.annotations (.ref (refOf d.code)) d.closureTuple (clOf d)
theorem evInit (p0 p1 ap wp cp : Pos) (h : (ap.endLine == cp.line) = true) : ∃ pl : Env → Sem Bool, ∀ env, eval (.Call (.Attribute (.Call (.Name "super" p0) [] [] p1) "__init__" ap) [.Name "what" wp] [] cp) env = (do
      let ov ← attributeBase (.Call (.Name "super" p0) [] [] p1) "__init__" env (eval (.Call (.Name "super" p0) [] [] p1) env)
      standAt ap.atName
      let (f, first) ← holding [ov] (getMethod ov "__init__" (pl env))
      callWith cp f first (backTo cp (starEach [.Name "what" wp] env)) []) := by
  refine ⟨fun env => do return (← importBound (.Call (.Name "super" p0) [] [] p1) env).getD true, fun env => ?_⟩
  have e : ∀ few o, methodCallPos few o env ap cp = pure cp := fun few o => by
    unfold methodCallPos; rw [h, Bool.or_true]; rfl
  show (do
      let ov ← attributeBase (.Call (.Name "super" p0) [] [] p1) "__init__" env (eval (.Call (.Name "super" p0) [] [] p1) env)
      standAt ap.atName
      methodCall (.Call (.Name "super" p0) [] [] p1) "__init__" ap cp env ov 1 (backTo cp (starEach [.Name "what" wp] env)) []) = _
  unfold methodCall
  simp only [e]
  rfl
theorem supInit_of {K : Frag} {prog : Program} {f D : Addr} {ps : List Str} {fld : Str} (p0 p1 ap wp cp ep sp tp vp asp : Pos)
    (h : K.lookup f = some ⟨(oAt K f).cls, (oAt K f).dict, .func (ksAs K f fld p0 p1 ap wp cp ep sp tp vp asp), (oAt K f).slots⟩)
    (hb : ∀ (s : Shared), ∀ vs : List Value, vs.length = ps.length → BindsTo s (ksAs K f fld p0 p1 ap wp cp ep sp tp vp asp) ⟨vs, []⟩ (ps.zip vs))
    (code : codeIn K (.ref (refOf (fdOf (oAt K f)).code)) (fdOf (oAt K f)).qualname = true)
    (kd : (fdOf (oAt K f)).scope.kind = .function) (cell : decide (∀ x ∈ (fdOf (oAt K f)).scope.names, x.2 ≠ .cell) = true) (co : (fdOf (oAt K f)).scope.isCoroutine = false) (gen : (fdOf (oAt K f)).scope.isGenerator = false)
    (loc : ps.all (fun y => (fdOf (oAt K f)).scope.names.lookup y == some .local) = true) (gs : (fdOf (oAt K f)).scope.names.lookup ("super" : Str) = some .globalImplicit) (gc : (fdOf (oAt K f)).scope.names.lookup ("__class__" : Str) = some .free)
    (hh : ((fdOf (oAt K f)).params.posonlyargs ++ (fdOf (oAt K f)).params.args).head? = some ⟨"self", (argN (fdOf (oAt K f)) 0).annotation, (argN (fdOf (oAt K f)) 0).pos⟩)
    (hcd : K.lookup (refOf (fdOf (oAt K f)).code) = some ⟨(oAt K (refOf (fdOf (oAt K f)).code)).cls, (oAt K (refOf (fdOf (oAt K f)).code)).dict, .fields (fldOf (oAt K (refOf (fdOf (oAt K f)).code))), (oAt K (refOf (fdOf (oAt K f)).code)).slots⟩)
    (hfl : (fldOf (oAt K (refOf (fdOf (oAt K f)).code)))[2]? = some (.str (strStr (fldOf (oAt K (refOf (fdOf (oAt K f)).code)))[2]?) (strTok (fldOf (oAt K (refOf (fdOf (oAt K f)).code)))[2]?)))
    (hfp : ((prog.main.file : Str) == strStr (fldOf (oAt K (refOf (fdOf (oAt K f)).code)))[2]?) = true)
    (hcl : K.lookup (clOf (fdOf (oAt K f))) = some ⟨(oAt K (clOf (fdOf (oAt K f)))).cls, (oAt K (clOf (fdOf (oAt K f)))).dict, .cell (some (.ref D)), (oAt K (clOf (fdOf (oAt K f)))).slots⟩)
    (hs : ps.contains ("self" : Str) = true) (hw : ps.contains ("what" : Str) = true) (hf : ps.contains fld = true) (hdb : (fld == ("__debug__" : Str)) = false) (hnd : decide ps.Nodup = true) (hcls : clsIn K D = some (clsOf (oAt K D))) (hpos : (ap.endLine == cp.line) = true) : SupInit K prog f D ps fld := by
  obtain ⟨pl, hpl⟩ := evInit p0 p1 ap wp cp hpos
  exact ⟨⟨_, _, _, _, _, _, _, _, _, _, _, _, _, _, _, _, _, _, _, _, _, _, _, _, _, h, fun s _ => hb s, code, kd, of_decide_eq_true cell, co, gen, fun y hy => eq_of_beq (List.all_eq_true.mp loc y hy), gs, gc, _, hh, rfl, _, _, _, _, _, _, hcd, hfl, hfp, _, _, _, hcl, pl, hpl⟩,
    List.elem_iff.mp hs, List.elem_iff.mp hw, List.elem_iff.mp hf, hdb, of_decide_eq_true hnd, ⟨_, hcls⟩⟩
section
variable (P : Params)
theorem kfn_isTooHigh : FnAt (KK P) fIsTooHigh ["node"] (bT 19) := fnAt0 (fun s => bind1 (fun a => by kernel_rfl)) (by kernel_rfl) (by kernel_rfl) (by kernel_rfl) (by kernel_rfl) (by kernel_rfl) (by kernel_rfl) (by kernel_rfl) (by kernel_rfl) (by kernel_rfl)
theorem kfn_sign : FnAt (KK P) fSign ["self"] (bM 20 1) := fnAt0 (fun s => bind1 (fun a => by kernel_rfl)) (by kernel_rfl) (by kernel_rfl) (by kernel_rfl) (by kernel_rfl) (by kernel_rfl) (by kernel_rfl) (by kernel_rfl) (by kernel_rfl) (by kernel_rfl)
theorem kfn_skip : FnAt (KK P) fSkip ["self"] (bM 20 2) := fnAt0 (fun s => bind1 (fun a => by kernel_rfl)) (by kernel_rfl) (by kernel_rfl) (by kernel_rfl) (by kernel_rfl) (by kernel_rfl) (by kernel_rfl) (by kernel_rfl) (by kernel_rfl) (by kernel_rfl)
theorem kfn_runOf : FnAt (KK P) fRunOf ["self", "signs"] (bM 20 3) := fnAt0 (fun s => bind2 (fun a b => by kernel_rfl)) (by kernel_rfl) (by kernel_rfl) (by kernel_rfl) (by kernel_rfl) (by kernel_rfl) (by kernel_rfl) (by kernel_rfl) (by kernel_rfl) (by kernel_rfl)
theorem kfn_number : FnAt (KK P) fNumber ["self"] (bM 20 4) := fnAt0 (fun s => bind1 (fun a => by kernel_rfl)) (by kernel_rfl) (by kernel_rfl) (by kernel_rfl) (by kernel_rfl) (by kernel_rfl) (by kernel_rfl) (by kernel_rfl) (by kernel_rfl) (by kernel_rfl)
theorem kfn_word : FnAt (KK P) fWord ["self"] (bM 20 5) := fnAt0 (fun s => bind1 (fun a => by kernel_rfl)) (by kernel_rfl) (by kernel_rfl) (by kernel_rfl) (by kernel_rfl) (by kernel_rfl) (by kernel_rfl) (by kernel_rfl) (by kernel_rfl) (by kernel_rfl)
theorem kfn_innerEnd : FnAt (KK P) fInnerEnd ["self", "begin"] (bM 20 6) := fnAt0 (fun s => bind2 (fun a b => by kernel_rfl)) (by kernel_rfl) (by kernel_rfl) (by kernel_rfl) (by kernel_rfl) (by kernel_rfl) (by kernel_rfl) (by kernel_rfl) (by kernel_rfl) (by kernel_rfl)
theorem kfn_string : FnAt (KK P) fString ["self"] (bM 20 7) := fnAt0 (fun s => bind1 (fun a => by kernel_rfl)) (by kernel_rfl) (by kernel_rfl) (by kernel_rfl) (by kernel_rfl) (by kernel_rfl) (by kernel_rfl) (by kernel_rfl) (by kernel_rfl) (by kernel_rfl)
theorem kfn_mark : FnAt (KK P) fMark ["self"] (bM 20 8) := fnAt0 (fun s => bind1 (fun a => by kernel_rfl)) (by kernel_rfl) (by kernel_rfl) (by kernel_rfl) (by kernel_rfl) (by kernel_rfl) (by kernel_rfl) (by kernel_rfl) (by kernel_rfl) (by kernel_rfl)
theorem kfn_tokens : FnAt (KK P) fTokens ["self"] (bM 20 9) := fnAt0 (fun s => bind1 (fun a => by kernel_rfl)) (by kernel_rfl) (by kernel_rfl) (by kernel_rfl) (by kernel_rfl) (by kernel_rfl) (by kernel_rfl) (by kernel_rfl) (by kernel_rfl) (by kernel_rfl)
theorem kfn_tInit : FnAt (KK P) fTInit ["self", "tokens"] (bM 21 0) := fnAt0 (fun s => bind2 (fun a b => by kernel_rfl)) (by kernel_rfl) (by kernel_rfl) (by kernel_rfl) (by kernel_rfl) (by kernel_rfl) (by kernel_rfl) (by kernel_rfl) (by kernel_rfl) (by kernel_rfl)
theorem kfn_kind : FnAt (KK P) fKind ["self"] (bM 21 1) := fnAt0 (fun s => bind1 (fun a => by kernel_rfl)) (by kernel_rfl) (by kernel_rfl) (by kernel_rfl) (by kernel_rfl) (by kernel_rfl) (by kernel_rfl) (by kernel_rfl) (by kernel_rfl) (by kernel_rfl)
theorem kfn_spot : FnAt (KK P) fSpot ["self"] (bM 21 2) := fnAt0 (fun s => bind1 (fun a => by kernel_rfl)) (by kernel_rfl) (by kernel_rfl) (by kernel_rfl) (by kernel_rfl) (by kernel_rfl) (by kernel_rfl) (by kernel_rfl) (by kernel_rfl) (by kernel_rfl)
theorem kfn_take : FnAt (KK P) fTake ["self"] (bM 21 3) := fnAt0 (fun s => bind1 (fun a => by kernel_rfl)) (by kernel_rfl) (by kernel_rfl) (by kernel_rfl) (by kernel_rfl) (by kernel_rfl) (by kernel_rfl) (by kernel_rfl) (by kernel_rfl) (by kernel_rfl)
theorem kfn_isNext : FnAt (KK P) fIsNext ["self", "value"] (bM 21 4) := fnAt0 (fun s => bind2 (fun a b => by kernel_rfl)) (by kernel_rfl) (by kernel_rfl) (by kernel_rfl) (by kernel_rfl) (by kernel_rfl) (by kernel_rfl) (by kernel_rfl) (by kernel_rfl) (by kernel_rfl)
theorem kfn_took : FnAt (KK P) fTook ["self", "value"] (bM 21 5) := fnAt0 (fun s => bind2 (fun a b => by kernel_rfl)) (by kernel_rfl) (by kernel_rfl) (by kernel_rfl) (by kernel_rfl) (by kernel_rfl) (by kernel_rfl) (by kernel_rfl) (by kernel_rfl) (by kernel_rfl)
theorem kfn_want : FnAt (KK P) fWant ["self", "value"] (bM 21 6) := fnAt0 (fun s => bind2 (fun a b => by kernel_rfl)) (by kernel_rfl) (by kernel_rfl) (by kernel_rfl) (by kernel_rfl) (by kernel_rfl) (by kernel_rfl) (by kernel_rfl) (by kernel_rfl) (by kernel_rfl)
theorem kfn_level : FnAt (KK P) fLevel ["self"] (bM 22 0) := fnAt0 (fun s => bind1 (fun a => by kernel_rfl)) (by kernel_rfl) (by kernel_rfl) (by kernel_rfl) (by kernel_rfl) (by kernel_rfl) (by kernel_rfl) (by kernel_rfl) (by kernel_rfl) (by kernel_rfl)
theorem kfn_expr : FnAt (KK P) fExpr ["self"] (bM 22 1) := fnAt0 (fun s => bind1 (fun a => by kernel_rfl)) (by kernel_rfl) (by kernel_rfl) (by kernel_rfl) (by kernel_rfl) (by kernel_rfl) (by kernel_rfl) (by kernel_rfl) (by kernel_rfl) (by kernel_rfl)
theorem kfn_putTogether : FnAt (KK P) fPutTogether ["self", "parts", "one"] (bM 22 2) := fnAt0 (fun s => bind3 (fun a b c => by kernel_rfl)) (by kernel_rfl) (by kernel_rfl) (by kernel_rfl) (by kernel_rfl) (by kernel_rfl) (by kernel_rfl) (by kernel_rfl) (by kernel_rfl) (by kernel_rfl)
theorem kfn_operand : FnAt (KK P) fOperand ["self"] (bM 22 3) := fnAt0 (fun s => bind1 (fun a => by kernel_rfl)) (by kernel_rfl) (by kernel_rfl) (by kernel_rfl) (by kernel_rfl) (by kernel_rfl) (by kernel_rfl) (by kernel_rfl) (by kernel_rfl) (by kernel_rfl)
theorem kfn_exprs : FnAt (KK P) fExprs ["self", "close"] (bM 22 4) := fnAt0 (fun s => bind2 (fun a b => by kernel_rfl)) (by kernel_rfl) (by kernel_rfl) (by kernel_rfl) (by kernel_rfl) (by kernel_rfl) (by kernel_rfl) (by kernel_rfl) (by kernel_rfl) (by kernel_rfl)
theorem kfn_atom : FnAt (KK P) fAtom ["self"] (bM 22 5) := fnAt0 (fun s => bind1 (fun a => by kernel_rfl)) (by kernel_rfl) (by kernel_rfl) (by kernel_rfl) (by kernel_rfl) (by kernel_rfl) (by kernel_rfl) (by kernel_rfl) (by kernel_rfl) (by kernel_rfl)
theorem kfn_stringNode : FnAt (KK P) fStringNode ["self", "spot", "pieces"] (bM 22 6) := fnAt0 (fun s => bind3 (fun a b c => by kernel_rfl)) (by kernel_rfl) (by kernel_rfl) (by kernel_rfl) (by kernel_rfl) (by kernel_rfl) (by kernel_rfl) (by kernel_rfl) (by kernel_rfl) (by kernel_rfl)
theorem kfn_whole : FnAt (KK P) fWhole ["self"] (bM 22 7) := fnAt0 (fun s => bind1 (fun a => by kernel_rfl)) (by kernel_rfl) (by kernel_rfl) (by kernel_rfl) (by kernel_rfl) (by kernel_rfl) (by kernel_rfl) (by kernel_rfl) (by kernel_rfl) (by kernel_rfl)
theorem kfn_named : FnAt (KK P) fNamed ["self", "spot", "name"] (bM 22 8) := fnAt0 (fun s => bind3 (fun a b c => by kernel_rfl)) (by kernel_rfl) (by kernel_rfl) (by kernel_rfl) (by kernel_rfl) (by kernel_rfl) (by kernel_rfl) (by kernel_rfl) (by kernel_rfl) (by kernel_rfl)
theorem kfn_beginsGenerator : FnAt (KK P) fBeginsGenerator ["self"] (bM 22 10) := fnAt0 (fun s => bind1 (fun a => by kernel_rfl)) (by kernel_rfl) (by kernel_rfl) (by kernel_rfl) (by kernel_rfl) (by kernel_rfl) (by kernel_rfl) (by kernel_rfl) (by kernel_rfl) (by kernel_rfl)
theorem kfn_exprOf : FnAt (KK P) fExprOf ["text"] (bT 23) := fnAt0 (fun s => bind1 (fun a => by kernel_rfl)) (by kernel_rfl) (by kernel_rfl) (by kernel_rfl) (by kernel_rfl) (by kernel_rfl) (by kernel_rfl) (by kernel_rfl) (by kernel_rfl) (by kernel_rfl)
theorem kfn_dip : FnAt (KK P) fDip ["feed", "many"] (bT 29) := fnAt0 (fun s => bind2 (fun a b => by kernel_rfl)) (by kernel_rfl) (by kernel_rfl) (by kernel_rfl) (by kernel_rfl) (by kernel_rfl) (by kernel_rfl) (by kernel_rfl) (by kernel_rfl) (by kernel_rfl)
theorem kfn_put : FnAt (KK P) fPut ["feed", "piece"] (bT 30) := fnAt0 (fun s => bind2 (fun a b => by kernel_rfl)) (by kernel_rfl) (by kernel_rfl) (by kernel_rfl) (by kernel_rfl) (by kernel_rfl) (by kernel_rfl) (by kernel_rfl) (by kernel_rfl) (by kernel_rfl)
theorem kfn_part : FnAt (KK P) fPart ["feed", "floors"] (bT 31) := fnAt0 (fun s => bind2 (fun a b => by kernel_rfl)) (by kernel_rfl) (by kernel_rfl) (by kernel_rfl) (by kernel_rfl) (by kernel_rfl) (by kernel_rfl) (by kernel_rfl) (by kernel_rfl) (by kernel_rfl)
theorem kfn_lstring : FnAt (KK P) fLstring ["feed", "floors"] (bT 32) := fnAt0 (fun s => bind2 (fun a b => by kernel_rfl)) (by kernel_rfl) (by kernel_rfl) (by kernel_rfl) (by kernel_rfl) (by kernel_rfl) (by kernel_rfl) (by kernel_rfl) (by kernel_rfl) (by kernel_rfl)
theorem kfn_heard : FnAt (KK P) fHeard ["text"] (bT 33) := fnAt0 (fun s => bind1 (fun a => by kernel_rfl)) (by kernel_rfl) (by kernel_rfl) (by kernel_rfl) (by kernel_rfl) (by kernel_rfl) (by kernel_rfl) (by kernel_rfl) (by kernel_rfl) (by kernel_rfl)
noncomputable abbrev fdI (P : Params) : FuncData := fnAs (KK P) fSInit (bM 20 0)
theorem fdI_eq : fdI P = { fdI P with params := ⟨[], [⟨"self", (argN (fdI P) 0).annotation, (argN (fdI P) 0).pos⟩, ⟨"text", (argN (fdI P) 1).annotation, (argN (fdI P) 1).pos⟩, ⟨"spot", (argN (fdI P) 2).annotation, (argN (fdI P) 2).pos⟩, ⟨"end", (argN (fdI P) 3).annotation, (argN (fdI P) 3).pos⟩, ⟨"depth", (argN (fdI P) 4).annotation, (argN (fdI P) 4).pos⟩], none, [], [], none, (fdI P).params.defaults⟩, defaults := .ref 103 } := by kernel_rfl
theorem fdI_T : (KK P).lookup 103 = some ⟨(oAt (KK P) 103).cls, (oAt (KK P) 103).dict, .seq #[.int 0 493] (epOf (oAt (KK P) 103)), (oAt (KK P) 103).slots⟩ := by kernel_rfl
theorem fdI_at : (KK P).lookup fSInit.f = some ⟨(oAt (KK P) fSInit.f).cls, (oAt (KK P) fSInit.f).dict, .func (fdI P), (oAt (KK P) fSInit.f).slots⟩ := by kernel_rfl
theorem kfn_sInit : FnAt (KK P) fSInit ["self", "text", "spot", "end", "depth"] (bM 20 0) :=
  have h1 : codeIn (KK P) fSInit.cd fSInit.q = true := by kernel_rfl
  have h2 : fSInit.scope.kind = .function := by kernel_rfl
  have h3 : decide ((fSInit.scope.names.map (·.1)).Nodup) = true := by kernel_rfl
  have h4 : (fSInit.scope.names.map (·.1)).contains ("__debug__" : Str) = false := by kernel_rfl
  have h5 : decide (∀ x ∈ fSInit.scope.names, x.2 ≠ .cell) = true := by kernel_rfl
  have h6 : fSInit.scope.isCoroutine = false := by kernel_rfl
  have h7 : fSInit.scope.isGenerator = false := by kernel_rfl
  have h8 : fSInit.scope.names.take 5 = (["self", "text", "spot", "end", "depth"] : List Str).map (·, NameKind.local) := by kernel_rfl
  ⟨⟨_, _, _, _, _, _, _, _, _, _, _, fdI_at P, fun s X vs hl => by
    rw [List.append_nil]
    obtain ⟨a, b, c, d, e, rfl⟩ := len5 (by simpa using hl)
    exact bind5 (fdI_eq P) (X _ _ (fdI_T P)) rfl a b c d e⟩, fun _ _ _ => .nil, h1, ⟨h2, of_decide_eq_true h3, h4⟩, of_decide_eq_true h5, h6, h7, h8⟩
theorem kfn_sInit3 : FnAt (KK P) fSInit ["self", "text", "spot", "end", "depth"] (bM 20 0) [.int 0 493] [.int 0] :=
  ⟨⟨_, _, _, _, _, _, _, _, _, _, _, fdI_at P, fun s X vs hl => by
    obtain ⟨a, b, c, d, rfl⟩ := len4 (by simpa using hl)
    exact bind4 (fdI_eq P) (X _ _ (fdI_T P)) rfl a b c d⟩, fun _ _ _ => .cons (.int _ _) .nil, (kfn_sInit P).code, (kfn_sInit P).ok, (kfn_sInit P).cell, (kfn_sInit P).co, (kfn_sInit P).gen, (kfn_sInit P).first⟩
theorem kfn : KFn (KK P) :=
  ⟨kfn_isTooHigh P, kfn_sInit P, kfn_sign P, kfn_skip P, kfn_runOf P, kfn_number P, kfn_word P, kfn_innerEnd P, kfn_string P, kfn_mark P, kfn_tokens P, kfn_tInit P, kfn_kind P, kfn_spot P, kfn_take P, kfn_isNext P, kfn_took P, kfn_want P, kfn_level P, kfn_expr P, kfn_putTogether P, kfn_operand P, kfn_exprs P, kfn_atom P, kfn_stringNode P, kfn_whole P, kfn_named P, kfn_beginsGenerator P, kfn_exprOf P, kfn_dip P, kfn_put P, kfn_part P, kfn_lstring P, kfn_heard P, kfn_sInit3 P⟩
theorem supSpot : SupInit (KK P) PySem.Challenge.rw_pq0377_01.row.prog 59 69 ["self", "what", "spot"] "spot" :=
  supInit_of ⟨13,8,13,13⟩ ⟨13,8,13,15⟩ ⟨13,8,13,24⟩ ⟨13,25,13,29⟩ ⟨13,8,13,30⟩ ⟨13,8,13,30⟩ ⟨14,8,14,12⟩ ⟨14,8,14,17⟩ ⟨14,20,14,24⟩ ⟨14,8,14,24⟩ (by kernel_rfl) (fun s => bind3 (fun a b c => by kernel_rfl)) (by kernel_rfl) (by kernel_rfl) (by kernel_rfl) (by kernel_rfl) (by kernel_rfl) (by kernel_rfl) (by kernel_rfl) (by kernel_rfl) (by kernel_rfl) (by kernel_rfl) (by kernel_rfl) (by kernel_rfl) (by kernel_rfl) (by kernel_rfl) (by kernel_rfl) (by kernel_rfl) (by kernel_rfl) (by kernel_rfl) (by kernel_rfl) (by kernel_rfl)
theorem supFd : SupInit (KK P) PySem.Challenge.rw_pq0377_01.row.prog 30 40 ["self", "what"] "what" :=
  supInit_of ⟨5,8,5,13⟩ ⟨5,8,5,15⟩ ⟨5,8,5,24⟩ ⟨5,25,5,29⟩ ⟨5,8,5,30⟩ ⟨5,8,5,30⟩ ⟨6,8,6,12⟩ ⟨6,8,6,17⟩ ⟨6,20,6,24⟩ ⟨6,8,6,24⟩ (by kernel_rfl) (fun s => bind2 (fun a b => by kernel_rfl)) (by kernel_rfl) (by kernel_rfl) (by kernel_rfl) (by kernel_rfl) (by kernel_rfl) (by kernel_rfl) (by kernel_rfl) (by kernel_rfl) (by kernel_rfl) (by kernel_rfl) (by kernel_rfl) (by kernel_rfl) (by kernel_rfl) (by kernel_rfl) (by kernel_rfl) (by kernel_rfl) (by kernel_rfl) (by kernel_rfl) (by kernel_rfl) (by kernel_rfl)
theorem tfMro : (clsOf (oAt (KK P) 81)).mro = .ref 81 :: .ref 69 :: .ref 40 :: [.type "Exception", .type "BaseException", .type "object"] := by kernel_rfl
theorem tfCls : (KK P).lookup 81 = some ⟨.type "type", (oAt (KK P) 81).dict, .cls (clsOf (oAt (KK P) 81)), (oAt (KK P) 81).slots⟩ := by kernel_rfl
theorem tfIn : TFIn (KK P) cTF :=
  have h1 : (clsOf (oAt (KK P) 81)).mro.contains (.type "object") = true := by kernel_rfl
  have h2 : (clsOf (oAt (KK P) 81)).mro.isEmpty = false := by kernel_rfl
  have h3 : (clsOf (oAt (KK P) 81)).hasDict = true := by kernel_rfl
  ⟨⟨_, _, _, tfCls P, fun self => by rw [tfMro, refuseLoop_ref, refuseLoop_ref, refuseLoop_ref]; exact F.store_Exception.passes self, h1, h2, h3⟩, by kernel_rfl, by kernel_rfl, by kernel_rfl⟩
theorem tfObj : (KK P).lookup cTF = some (excClassObj (clsOf (oAt (KK P) 81)).name (clsOf (oAt (KK P) 81)).qualname cTF (clsOf (oAt (KK P) 81)).ns (clsOf (oAt (KK P) 81)).bases (clsOf (oAt (KK P) 81)).mro.tail (clsOf (oAt (KK P) 81)).hasDict
    (clsOf (oAt (KK P) 81)).slotNames (clsOf (oAt (KK P) 81)).subclasses (clsOf (oAt (KK P) 81)).abstract (clsOf (oAt (KK P) 81)).collection (oAt (KK P) 81).dict (slN (oAt (KK P) 81) 0) (slN (oAt (KK P) 81) 1) (slN (oAt (KK P) 81) 2) (slN (oAt (KK P) 81) 3) (slN (oAt (KK P) 81) 5) "Exception.__new__") := by kernel_rfl
theorem kexc : ExcK (KK P) PySem.Challenge.rw_pq0377_01.row.prog cTF 69 40 59 30 :=
  have h1 : (clsOf (oAt (KK P) 81)).mro.tail.contains (.type "Exception") = true := by kernel_rfl
  have h2 : (clsOf (oAt (KK P) 81)).mro.tail.contains (.type "AttributeError") = false := by kernel_rfl
  have h3 : (clsOf (oAt (KK P) 81)).mro.tail.contains (.type "NameError") = false := by kernel_rfl
  have h4 : (clsOf (oAt (KK P) 81)).mro.tail.contains (.type "BaseException") = true := by kernel_rfl
  ⟨⟨by kernel_rfl, by kernel_rfl, by kernel_rfl⟩, tfIn P, supSpot P, supFd P, by kernel_rfl, by kernel_rfl, by kernel_rfl, by kernel_rfl, by kernel_rfl, by kernel_rfl, by kernel_rfl, by kernel_rfl, by kernel_rfl, by kernel_rfl, ⟨_, _, _, _, _, _, _, _, _, _, _, _, _, _, _, _, tfObj P, h1, h2, h3, h4⟩⟩
theorem kat_sText : DataAttr (KK P) cScan "text" := ⟨by kernel_rfl, by kernel_rfl, by kernel_rfl⟩
theorem kat_ssText : SetAttr (KK P) cScan "text" := ⟨by kernel_rfl, by kernel_rfl, by kernel_rfl, by kernel_rfl⟩
theorem kat_sSpot : DataAttr (KK P) cScan "spot" := ⟨by kernel_rfl, by kernel_rfl, by kernel_rfl⟩
theorem kat_ssSpot : SetAttr (KK P) cScan "spot" := ⟨by kernel_rfl, by kernel_rfl, by kernel_rfl, by kernel_rfl⟩
theorem kat_sEnd : DataAttr (KK P) cScan "end" := ⟨by kernel_rfl, by kernel_rfl, by kernel_rfl⟩
theorem kat_ssEnd : SetAttr (KK P) cScan "end" := ⟨by kernel_rfl, by kernel_rfl, by kernel_rfl, by kernel_rfl⟩
theorem kat_sDepth : DataAttr (KK P) cScan "depth" := ⟨by kernel_rfl, by kernel_rfl, by kernel_rfl⟩
theorem kat_ssDepth : SetAttr (KK P) cScan "depth" := ⟨by kernel_rfl, by kernel_rfl, by kernel_rfl, by kernel_rfl⟩
theorem kat_pTokens : DataAttr (KK P) cPars "tokens" := ⟨by kernel_rfl, by kernel_rfl, by kernel_rfl⟩
theorem kat_spTokens : SetAttr (KK P) cPars "tokens" := ⟨by kernel_rfl, by kernel_rfl, by kernel_rfl, by kernel_rfl⟩
theorem kat_pPlace : DataAttr (KK P) cPars "place" := ⟨by kernel_rfl, by kernel_rfl, by kernel_rfl⟩
theorem kat_spPlace : SetAttr (KK P) cPars "place" := ⟨by kernel_rfl, by kernel_rfl, by kernel_rfl, by kernel_rfl⟩
theorem kat_pDepth : DataAttr (KK P) cPars "depth" := ⟨by kernel_rfl, by kernel_rfl, by kernel_rfl⟩
theorem kat_spDepth : SetAttr (KK P) cPars "depth" := ⟨by kernel_rfl, by kernel_rfl, by kernel_rfl, by kernel_rfl⟩
theorem kat_mSign : MethAt (KK P) cScan "sign" 117 := ⟨by kernel_rfl, by kernel_rfl, by kernel_rfl⟩
theorem kat_mSkip : MethAt (KK P) cScan "skip" 124 := ⟨by kernel_rfl, by kernel_rfl, by kernel_rfl⟩
theorem kat_mRunOf : MethAt (KK P) cScan "run_of" 131 := ⟨by kernel_rfl, by kernel_rfl, by kernel_rfl⟩
theorem kat_mNumber : MethAt (KK P) cScan "number" 138 := ⟨by kernel_rfl, by kernel_rfl, by kernel_rfl⟩
theorem kat_mWord : MethAt (KK P) cScan "word" 145 := ⟨by kernel_rfl, by kernel_rfl, by kernel_rfl⟩
theorem kat_mInnerEnd : MethAt (KK P) cScan "inner_end" 152 := ⟨by kernel_rfl, by kernel_rfl, by kernel_rfl⟩
theorem kat_mString : MethAt (KK P) cScan "string" 159 := ⟨by kernel_rfl, by kernel_rfl, by kernel_rfl⟩
theorem kat_mMark : MethAt (KK P) cScan "mark" 166 := ⟨by kernel_rfl, by kernel_rfl, by kernel_rfl⟩
theorem kat_mTokens : MethAt (KK P) cScan "tokens" 173 := ⟨by kernel_rfl, by kernel_rfl, by kernel_rfl⟩
theorem kat_mKind : MethAt (KK P) cPars "kind" 201 := ⟨by kernel_rfl, by kernel_rfl, by kernel_rfl⟩
theorem kat_mSpot : MethAt (KK P) cPars "spot" 208 := ⟨by kernel_rfl, by kernel_rfl, by kernel_rfl⟩
theorem kat_mTake : MethAt (KK P) cPars "take" 215 := ⟨by kernel_rfl, by kernel_rfl, by kernel_rfl⟩
theorem kat_mIsNext : MethAt (KK P) cPars "is_next" 222 := ⟨by kernel_rfl, by kernel_rfl, by kernel_rfl⟩
theorem kat_mTook : MethAt (KK P) cPars "took" 229 := ⟨by kernel_rfl, by kernel_rfl, by kernel_rfl⟩
theorem kat_mWant : MethAt (KK P) cPars "want" 236 := ⟨by kernel_rfl, by kernel_rfl, by kernel_rfl⟩
theorem kat_mLevel : MethAt (KK P) cPars "level" 264 := ⟨by kernel_rfl, by kernel_rfl, by kernel_rfl⟩
theorem kat_mExpr : MethAt (KK P) cPars "expr" 271 := ⟨by kernel_rfl, by kernel_rfl, by kernel_rfl⟩
theorem kat_mPutTogether : MethAt (KK P) cPars "put_together" 278 := ⟨by kernel_rfl, by kernel_rfl, by kernel_rfl⟩
theorem kat_mOperand : MethAt (KK P) cPars "operand" 285 := ⟨by kernel_rfl, by kernel_rfl, by kernel_rfl⟩
theorem kat_mExprs : MethAt (KK P) cPars "exprs" 292 := ⟨by kernel_rfl, by kernel_rfl, by kernel_rfl⟩
theorem kat_mAtom : MethAt (KK P) cPars "atom" 299 := ⟨by kernel_rfl, by kernel_rfl, by kernel_rfl⟩
theorem kat_mStringNode : MethAt (KK P) cPars "string_node" 306 := ⟨by kernel_rfl, by kernel_rfl, by kernel_rfl⟩
theorem kat_mWhole : MethAt (KK P) cPars "whole" 313 := ⟨by kernel_rfl, by kernel_rfl, by kernel_rfl⟩
theorem kat_mNamed : MethAt (KK P) cPars "named" 320 := ⟨by kernel_rfl, by kernel_rfl, by kernel_rfl⟩
theorem kat_mBeginsGenerator : MethAt (KK P) cPars "begins_generator" 334 := ⟨by kernel_rfl, by kernel_rfl, by kernel_rfl⟩
theorem kat_clScan : ClsAt (KK P) cScan 110 := ⟨by kernel_rfl, by kernel_rfl, by kernel_rfl⟩
theorem kat_clPars : ClsAt (KK P) cPars 194 := ⟨by kernel_rfl, by kernel_rfl, by kernel_rfl⟩
theorem kat_exc : ExcK (KK P) PySem.Challenge.rw_pq0377_01.row.prog cTF 69 40 59 30 := kexc P
theorem kat_kIsTooHigh : keepIn (KK P) (.ref 95) = true := by kernel_rfl
theorem kat_kSInit : keepIn (KK P) (.ref 110) = true := by kernel_rfl
theorem kat_kSign : keepIn (KK P) (.ref 117) = true := by kernel_rfl
theorem kat_kSkip : keepIn (KK P) (.ref 124) = true := by kernel_rfl
theorem kat_kRunOf : keepIn (KK P) (.ref 131) = true := by kernel_rfl
theorem kat_kNumber : keepIn (KK P) (.ref 138) = true := by kernel_rfl
theorem kat_kWord : keepIn (KK P) (.ref 145) = true := by kernel_rfl
theorem kat_kInnerEnd : keepIn (KK P) (.ref 152) = true := by kernel_rfl
theorem kat_kString : keepIn (KK P) (.ref 159) = true := by kernel_rfl
theorem kat_kMark : keepIn (KK P) (.ref 166) = true := by kernel_rfl
theorem kat_kTokens : keepIn (KK P) (.ref 173) = true := by kernel_rfl
theorem kat_kTInit : keepIn (KK P) (.ref 194) = true := by kernel_rfl
theorem kat_kKind : keepIn (KK P) (.ref 201) = true := by kernel_rfl
theorem kat_kSpot : keepIn (KK P) (.ref 208) = true := by kernel_rfl
theorem kat_kTake : keepIn (KK P) (.ref 215) = true := by kernel_rfl
theorem kat_kIsNext : keepIn (KK P) (.ref 222) = true := by kernel_rfl
theorem kat_kTook : keepIn (KK P) (.ref 229) = true := by kernel_rfl
theorem kat_kWant : keepIn (KK P) (.ref 236) = true := by kernel_rfl
theorem kat_kLevel : keepIn (KK P) (.ref 264) = true := by kernel_rfl
theorem kat_kExpr : keepIn (KK P) (.ref 271) = true := by kernel_rfl
theorem kat_kPutTogether : keepIn (KK P) (.ref 278) = true := by kernel_rfl
theorem kat_kOperand : keepIn (KK P) (.ref 285) = true := by kernel_rfl
theorem kat_kExprs : keepIn (KK P) (.ref 292) = true := by kernel_rfl
theorem kat_kAtom : keepIn (KK P) (.ref 299) = true := by kernel_rfl
theorem kat_kStringNode : keepIn (KK P) (.ref 306) = true := by kernel_rfl
theorem kat_kWhole : keepIn (KK P) (.ref 313) = true := by kernel_rfl
theorem kat_kNamed : keepIn (KK P) (.ref 320) = true := by kernel_rfl
theorem kat_kBeginsGenerator : keepIn (KK P) (.ref 334) = true := by kernel_rfl
theorem kat_kExprOf : keepIn (KK P) (.ref 409) = true := by kernel_rfl
theorem kat_kDip : keepIn (KK P) (.ref 424) = true := by kernel_rfl
theorem kat_kPut : keepIn (KK P) (.ref 431) = true := by kernel_rfl
theorem kat_kPart : keepIn (KK P) (.ref 438) = true := by kernel_rfl
theorem kat_kLstring : keepIn (KK P) (.ref 445) = true := by kernel_rfl
theorem kat_kHeard : keepIn (KK P) (.ref 452) = true := by kernel_rfl
theorem kat_kScan : keepIn (KK P) (.ref cScan) = true := by kernel_rfl
theorem kat_kPars : keepIn (KK P) (.ref cPars) = true := by kernel_rfl
theorem kat_kTF : keepIn (KK P) (.ref cTF) = true := by kernel_rfl
theorem kat : KAt (KK P) PySem.Challenge.rw_pq0377_01.row.prog :=
  ⟨kat_sText P, kat_ssText P, kat_sSpot P, kat_ssSpot P, kat_sEnd P, kat_ssEnd P, kat_sDepth P, kat_ssDepth P, kat_pTokens P, kat_spTokens P, kat_pPlace P, kat_spPlace P, kat_pDepth P, kat_spDepth P, kat_mSign P, kat_mSkip P, kat_mRunOf P, kat_mNumber P, kat_mWord P, kat_mInnerEnd P, kat_mString P, kat_mMark P, kat_mTokens P, kat_mKind P, kat_mSpot P, kat_mTake P, kat_mIsNext P, kat_mTook P, kat_mWant P, kat_mLevel P, kat_mExpr P, kat_mPutTogether P, kat_mOperand P, kat_mExprs P, kat_mAtom P, kat_mStringNode P, kat_mWhole P, kat_mNamed P, kat_mBeginsGenerator P, kat_clScan P, kat_clPars P, kat_exc P, kat_kIsTooHigh P, kat_kSInit P, kat_kSign P, kat_kSkip P, kat_kRunOf P, kat_kNumber P, kat_kWord P, kat_kInnerEnd P, kat_kString P, kat_kMark P, kat_kTokens P, kat_kTInit P, kat_kKind P, kat_kSpot P, kat_kTake P, kat_kIsNext P, kat_kTook P, kat_kWant P, kat_kLevel P, kat_kExpr P, kat_kPutTogether P, kat_kOperand P, kat_kExprs P, kat_kAtom P, kat_kStringNode P, kat_kWhole P, kat_kNamed P, kat_kBeginsGenerator P, kat_kExprOf P, kat_kDip P, kat_kPut P, kat_kPart P, kat_kLstring P, kat_kHeard P, kat_kScan P, kat_kPars P, kat_kTF P⟩
theorem kgl_BLANKS : Glb (KK P) "BLANKS" (.str " \t\r\n") := .atom (by kernel_rfl) (by kernel_rfl)
theorem kgl_FIGURES : Glb (KK P) "FIGURES" (.str "0123456789") := .atom (by kernel_rfl) (by kernel_rfl)
theorem kgl_LETTERS : Glb (KK P) "LETTERS" (.str "abcdefghijklmnopqrstuvwxyzABCDEFGHIJKLMNOPQRSTUVWXYZ") := .atom (by kernel_rfl) (by kernel_rfl)
theorem kgl_MOST_FIGURES : Glb (KK P) "MOST_FIGURES" (.int 60) := .atom (by kernel_rfl) (by kernel_rfl)
theorem kgl_MOST_DEPTH : Glb (KK P) "MOST_DEPTH" (.int 40) := .atom (by kernel_rfl) (by kernel_rfl)
theorem kgl_MOST_HEIGHT : Glb (KK P) "MOST_HEIGHT" (.int 200) := .atom (by kernel_rfl) (by kernel_rfl)
theorem kgl_MOST_STRINGS : Glb (KK P) "MOST_STRINGS" (.int 4) := .atom (by kernel_rfl) (by kernel_rfl)
theorem kgl_RIGHT_LEVEL : Glb (KK P) "RIGHT_LEVEL" (.int 12) := .atom (by kernel_rfl) (by kernel_rfl)
theorem kgl_SIGNS : Glb (KK P) "SIGNS" (.tup (signsL.map .str)) := .cst (v := .ref (refOf (vAt (KK P) mainGlobals "SIGNS"))) (by kernel_rfl) (CR.atoms (by kernel_rfl) (by kernel_rfl))
theorem kgl_WORDS : Glb (KK P) "WORDS" (.tup (wordsL.map .str)) := .cst (v := .ref (refOf (vAt (KK P) mainGlobals "WORDS"))) (by kernel_rfl) (CR.atoms (by kernel_rfl) (by kernel_rfl))
theorem kgl_SINGLE_LEVELS : Glb (KK P) "SINGLE_LEVELS" (.tup [.int 5, .int 6, .int 8]) := .cst (v := .ref (refOf (vAt (KK P) mainGlobals "SINGLE_LEVELS"))) (by kernel_rfl) (CR.atoms (by kernel_rfl) (by kernel_rfl))
theorem kgl_gaps : Glb (KK P) "_law_gaps" (.tup (gapsL.map .str)) := .cst (v := .ref (refOf (vAt (KK P) mainGlobals "_law_gaps"))) (by kernel_rfl) (CR.atoms (by kernel_rfl) (by kernel_rfl))
theorem kgl_lone : Glb (KK P) "_law_lone" (.tup (loneL.map .str)) := .cst (v := .ref (refOf (vAt (KK P) mainGlobals "_law_lone"))) (by kernel_rfl) (CR.atoms (by kernel_rfl) (by kernel_rfl))
theorem kgl_words : Glb (KK P) "_law_words" (.tup (lwordsL.map .str)) := .cst (v := .ref (refOf (vAt (KK P) mainGlobals "_law_words"))) (by kernel_rfl) (CR.atoms (by kernel_rfl) (by kernel_rfl))
theorem kgl_escs : Glb (KK P) "_law_escapes" (.tup [.tup [.str "\\\"", .str "\""], .tup [.str "\\\\", .str "\\"], .tup [.str "\\n", .str "\n"], .tup [.str "\\t", .str "\t"]]) :=
  .cst (v := .ref (refOf (vAt (KK P) mainGlobals "_law_escapes"))) (by kernel_rfl) (CR.tuples (vs := [.ref (refOf (nth .none (seqOf (oAt (KK P) (refOf (vAt (KK P) mainGlobals "_law_escapes")))).toList 0)), .ref (refOf (nth .none (seqOf (oAt (KK P) (refOf (vAt (KK P) mainGlobals "_law_escapes")))).toList 1)), .ref (refOf (nth .none (seqOf (oAt (KK P) (refOf (vAt (KK P) mainGlobals "_law_escapes")))).toList 2)), .ref (refOf (nth .none (seqOf (oAt (KK P) (refOf (vAt (KK P) mainGlobals "_law_escapes")))).toList 3))]) (by kernel_rfl) (by kernel_rfl) (.cons (CR.atoms (by kernel_rfl) (by kernel_rfl)) (.cons (CR.atoms (by kernel_rfl) (by kernel_rfl)) (.cons (CR.atoms (by kernel_rfl) (by kernel_rfl)) (.cons (CR.atoms (by kernel_rfl) (by kernel_rfl)) .nil)))))
theorem kgl_gLEVELS : Glb (KK P) "LEVELS" (.glob 86) := .glob (by kernel_rfl)
theorem kgl_gESCAPES : Glb (KK P) "ESCAPES" (.glob 90) := .glob (by kernel_rfl)
theorem kgl_gScanner : Glb (KK P) "Scanner" (.glob 176) := .glob (by kernel_rfl)
theorem kgl_gTextFault : Glb (KK P) "TextFault" (.glob 81) := .glob (by kernel_rfl)
theorem kgl_gExprParser : Glb (KK P) "ExprParser" (.glob 400) := .glob (by kernel_rfl)
theorem kgl_gistoohigh : Glb (KK P) "is_too_high" (.glob 95) := .glob (by kernel_rfl)
theorem kgl_gexprof : Glb (KK P) "expr_of" (.glob 409) := .glob (by kernel_rfl)
theorem kgl_glawdip : Glb (KK P) "_law_dip" (.glob 424) := .glob (by kernel_rfl)
theorem kgl_glawput : Glb (KK P) "_law_put" (.glob 431) := .glob (by kernel_rfl)
theorem kgl_glawpart : Glb (KK P) "_law_part" (.glob 438) := .glob (by kernel_rfl)
theorem kgl_glawstring : Glb (KK P) "_law_string" (.glob 445) := .glob (by kernel_rfl)
theorem kgl_glawheard : Glb (KK P) "_law_heard" (.glob 452) := .glob (by kernel_rfl)
theorem kgl_blen : Glb (KK P) "len" (.blt "len") := .blt (by kernel_rfl) (by kernel_rfl) (by decide +kernel)
theorem kgl_bisinstance : Glb (KK P) "isinstance" (.blt "isinstance") := .blt (by kernel_rfl) (by kernel_rfl) (by decide +kernel)
theorem kgl_babs : Glb (KK P) "abs" (.blt "abs") := .blt (by kernel_rfl) (by kernel_rfl) (by decide +kernel)
theorem kgl_tint : Glb (KK P) "int" (.typ "int") := .typ (by kernel_rfl) (by kernel_rfl) (by decide +kernel)
theorem kgl_tstr : Glb (KK P) "str" (.typ "str") := .typ (by kernel_rfl) (by kernel_rfl) (by decide +kernel)
theorem kgl_ttuple : Glb (KK P) "tuple" (.typ "tuple") := .typ (by kernel_rfl) (by kernel_rfl) (by decide +kernel)
theorem kgl_trange : Glb (KK P) "range" (.typ "range") := .typ (by kernel_rfl) (by kernel_rfl) (by decide +kernel)
theorem kgl_esc : ∃ es n, (KK P).lookup 90 = some ⟨.type "dict", none, .dict es n, #[]⟩ ∧ KeysLit P es.toList :=
  ⟨dictOf (oAt (KK P) 90), epOf (oAt (KK P) 90), by kernel_rfl, keysLit_of (by kernel_rfl)⟩
theorem kgl_lev : ∃ es n, (KK P).lookup 86 = some ⟨.type "dict", none, .dict es n, #[]⟩ ∧ KeysLit P es.toList :=
  ⟨dictOf (oAt (KK P) 86), epOf (oAt (KK P) 86), by kernel_rfl, keysLit_of (by kernel_rfl)⟩
theorem kgl_escN : ∃ v, nsIn (KK P) 90 "n" = some (some v) ∧ CR (KK P) v (.str "\n") := ⟨vAt (KK P) 90 "n", by kernel_rfl, toV_cr (by kernel_rfl)⟩
theorem kgl_escT : ∃ v, nsIn (KK P) 90 "t" = some (some v) ∧ CR (KK P) v (.str "\t") := ⟨vAt (KK P) 90 "t", by kernel_rfl, toV_cr (by kernel_rfl)⟩
theorem kgl_escQ : ∃ v, nsIn (KK P) 90 "\"" = some (some v) ∧ CR (KK P) v (.str "\"") := ⟨vAt (KK P) 90 "\"", by kernel_rfl, toV_cr (by kernel_rfl)⟩
theorem kgl_escB : ∃ v, nsIn (KK P) 90 "\\" = some (some v) ∧ CR (KK P) v (.str "\\") := ⟨vAt (KK P) 90 "\\", by kernel_rfl, toV_cr (by kernel_rfl)⟩
theorem kgl_levP : ∃ v, nsIn (KK P) 86 "+" = some (some v) ∧ CR (KK P) v (.int 9) := ⟨vAt (KK P) 86 "+", by kernel_rfl, toV_cr (by kernel_rfl)⟩
theorem kgl_levC : ∃ v, nsIn (KK P) 86 "++" = some (some v) ∧ CR (KK P) v (.int 12) := ⟨vAt (KK P) 86 "++", by kernel_rfl, toV_cr (by kernel_rfl)⟩
theorem kgl_levO : nsIn (KK P) 86 "(" = some none := by kernel_rfl
theorem kgl_levX : nsIn (KK P) 86 ")" = some none := by kernel_rfl
theorem kgl : KGl (KK P) P :=
  ⟨kgl_BLANKS P, kgl_FIGURES P, kgl_LETTERS P, kgl_MOST_FIGURES P, kgl_MOST_DEPTH P, kgl_MOST_HEIGHT P, kgl_MOST_STRINGS P, kgl_RIGHT_LEVEL P, kgl_SIGNS P, kgl_WORDS P, kgl_SINGLE_LEVELS P, kgl_gaps P, kgl_lone P, kgl_words P, kgl_escs P, kgl_gLEVELS P, kgl_gESCAPES P, kgl_gScanner P, kgl_gTextFault P, kgl_gExprParser P, kgl_gistoohigh P, kgl_gexprof P, kgl_glawdip P, kgl_glawput P, kgl_glawpart P, kgl_glawstring P, kgl_glawheard P, kgl_blen P, kgl_bisinstance P, kgl_babs P, kgl_tint P, kgl_tstr P, kgl_ttuple P, kgl_trange P, kgl_esc P, kgl_lev P, kgl_escN P, kgl_escT P, kgl_escQ P, kgl_escB P, kgl_levP P, kgl_levC P, kgl_levO P, kgl_levX P⟩
theorem kf : KF (KK P) P PySem.Challenge.rw_pq0377_01.row.prog := ⟨kfn P, kat P, kgl P⟩
theorem kx : KX (KK P) := ⟨by kernel_rfl, by kernel_rfl, by kernel_rfl, by kernel_rfl, by kernel_rfl⟩
end
end
end Mine
open PySem PySem.W PyProof.Rows PySem.Calls PySem.Spec
namespace Mine
noncomputable def lawArgs (z : Value) : List (Str × Value) := [("script", z)]
theorem law_binds (kV doc pm cd z : Value) : bindArgs { docDef "law" (defParamsP (topP 34)) (defBodyP (topP 34)) (defScopeP (topP 34)) pm cd doc with defaults := .none, kwdefaults := kV } ⟨[z], []⟩ = pure (lawArgs z) := by kernel_rfl
theorem law_locs (z : Value) : ∀ x ∈ lawArgs z, (defScopeP (topP 34)).names.lookup x.1 = some .local := by
  intro x hx
  have h : x = (("script" : Str), z) := by simpa [lawArgs] using hx
  subst h
  show (defScopeP (topP 34)).names.lookup ("script" : Str) = some .local
  kernel_rfl
theorem law_cell : ∀ x ∈ (defScopeP (topP 34)).names, x.2 ≠ .cell := of_decide_eq_true (by kernel_rfl)
end Mine
set_option maxHeartbeats 0 in
theorem PySem.Challenge.cw_pq0377_01_holds : PySem.Challenge.rw_pq0377_01.Holds :=
  Mine.hd (by
  intro w s₀ s₁ mg mb G Y fa o pm cd doc dV kV ho hd hcd hD hmg hg0 args vals as hpre hlay hrd hwl hlo
  have kin := kIn_of Y
  refine Ground.open G ?_
  intro T B D TE TW
  wrow_args hpre hlay hrd hwl hlo
  have hdv : dV = .none := hD.none (by kernel_rfl)
  subst hdv
  rename Heap.IsList _ _ _ => hl
  rename IntsAre _ _ => hi
  rename ¬ _ < _ => hlen
  refine enter_call ?_
  refine call_fullW (by decide) ho hd (Top.nolimit T) hcd (BindsTo.of_eq (Mine.law_binds _ _ _ _ _)) (Mine.law_locs _) (fun h₁ F => ?_) (by kernel_rfl) (by kernel_rfl) (by kernel_rfl) Mine.law_cell
  refine Mine.law_end (by kernel_rfl) (by kernel_rfl) (by kernel_rfl) (Mine.kf _) (Mine.kx _) kin T rfl rfl (by show 1 + 300 + 1 + 300 < 1000; decide) (by show 4 + 3 + 10 * 300 < 9900; decide) hl hi (by omega) F (by kernel_rfl) rfl rfl fun s' m' F' ho hg => ?_
  refine GoodW.toG ?_
  show GoodW _ _ _ _ _ (.ok (.ret (.bool true))) _
  exact goodW_bool F' (hg.trans hg0) (raisesW_false (by wrow_none_raised)) (by wrow_post) ho)

import PyProof.Rows.All
import Wide.All
import OpenK.AllK
import Wide.FinOn
import PySem.Challenge.RW_pq0371_01
open PySem PySem.W PyProof.Rows PySem.Calls PySem.Spec
set_option Elab.async false
set_option maxRecDepth 100000
set_option maxHeartbeats 8000000
namespace LawProof
/-- the given program's statements by their place, and what a def's statement holds -/
noncomputable def nthS : List Stmt → Nat → Stmt
  | [], _ => .Pass ⟨0, 0, 0, 0⟩
  | s :: _, 0 => s
  | _ :: r, n + 1 => nthS r n
noncomputable def inS : Stmt → List Stmt
  | .ClassDef _ _ _ b _ _ _ _ _ _ _ => b
  | _ => []
noncomputable def st (i : Nat) : Stmt := nthS PySem.Challenge.pw_pq0371_01.main.body i
noncomputable def st2 (i j : Nat) : Stmt := nthS (inS (st i)) j
noncomputable def fA : Stmt → Arguments
  | .FunctionDef _ a _ _ _ _ _ _ _ _ => a
  | _ => ⟨[], [], none, [], [], none, []⟩
noncomputable def fB : Stmt → List Stmt
  | .FunctionDef _ _ b _ _ _ _ _ _ _ => b
  | _ => []
noncomputable def fS : Stmt → Scope
  | .FunctionDef _ _ _ _ _ _ s _ _ _ => s
  | _ => ⟨.function, [], false, false, []⟩
noncomputable abbrev o2 (P : Params) : Obj := (Obj.mk Value.none none (Data.dict (List.toArray ((DictEntry.mk (PyData.keyHash P (Str.ofString "type.__subclasses__.Exception.0")) (Value.str (Str.ofString "type.__subclasses__.Exception.0") 223) (Value.int 40 0)) :: (DictEntry.mk (PyData.keyHash P (Str.ofString "type.__subclasses__.Exception.n")) (Value.str (Str.ofString "type.__subclasses__.Exception.n") 224) (Value.int 1 0)) :: [])) 2) (List.toArray ([])))
noncomputable abbrev o3 (P : Params) : Obj := (Obj.mk (Value.type "dict") none (Data.dict (List.toArray ((DictEntry.mk (PyData.keyHash P (Str.ofString "__name__")) (Value.str (Str.ofString "__name__") 165) (Value.str (Str.ofString "law_pq0371_01") 491)) :: (DictEntry.mk (PyData.keyHash P (Str.ofString "__doc__")) (Value.str (Str.ofString "__doc__") 166) Value.none) :: (DictEntry.mk (PyData.keyHash P (Str.ofString "__package__")) (Value.str (Str.ofString "__package__") 167) Value.none) :: (DictEntry.mk (PyData.keyHash P (Str.ofString "__loader__")) (Value.str (Str.ofString "__loader__") 168) (Value.builtin "__main__.__loader__#opaque")) :: (DictEntry.mk (PyData.keyHash P (Str.ofString "__spec__")) (Value.str (Str.ofString "__spec__") 169) Value.none) :: (DictEntry.mk (PyData.keyHash P (Str.ofString "__annotations__")) (Value.str (Str.ofString "__annotations__") 170) (Value.ref 6)) :: (DictEntry.mk (PyData.keyHash P (Str.ofString "__builtins__")) (Value.str (Str.ofString "__builtins__") 171) (Value.ref 4)) :: (DictEntry.mk (PyData.keyHash P (Str.ofString "__file__")) (Value.str (Str.ofString "__file__") 173) (Value.str (Str.ofString "/claim/cut.py") 172)) :: (DictEntry.mk (PyData.keyHash P (Str.ofString "__cached__")) (Value.str (Str.ofString "__cached__") 174) Value.none) :: (DictEntry.mk (PyData.keyHash P (Str.ofString "FdError")) (Value.str (Str.ofString "FdError") 226) (Value.ref 40)) :: (DictEntry.mk (PyData.keyHash P (Str.ofString "SpotFault")) (Value.str (Str.ofString "SpotFault") 261) (Value.ref 69)) :: (DictEntry.mk (PyData.keyHash P (Str.ofString "TextFault")) (Value.str (Str.ofString "TextFault") 277) (Value.ref 81)) :: (DictEntry.mk (PyData.keyHash P (Str.ofString "WORDS")) (Value.str (Str.ofString "WORDS") 317) (Value.ref 84)) :: (DictEntry.mk (PyData.keyHash P (Str.ofString "SIGNS")) (Value.str (Str.ofString "SIGNS") 349) (Value.ref 85)) :: (DictEntry.mk (PyData.keyHash P (Str.ofString "ESCAPES")) (Value.str (Str.ofString "ESCAPES") 362) (Value.ref 86)) :: (DictEntry.mk (PyData.keyHash P (Str.ofString "BLANKS")) (Value.str (Str.ofString "BLANKS") 364) (Value.str (Str.ofString " \t\x0d\n") 363)) :: (DictEntry.mk (PyData.keyHash P (Str.ofString "FIGURES")) (Value.str (Str.ofString "FIGURES") 366) (Value.str (Str.ofString "0123456789") 365)) :: (DictEntry.mk (PyData.keyHash P (Str.ofString "LETTERS")) (Value.str (Str.ofString "LETTERS") 368) (Value.str (Str.ofString "abcdefghijklmnopqrstuvwxyzABCDEFGHIJKLMNOPQRSTUVWXYZ") 367)) :: (DictEntry.mk (PyData.keyHash P (Str.ofString "MOST_FIGURES")) (Value.str (Str.ofString "MOST_FIGURES") 370) (Value.int 60 369)) :: (DictEntry.mk (PyData.keyHash P (Str.ofString "MOST_STRINGS")) (Value.str (Str.ofString "MOST_STRINGS") 372) (Value.int 4 371)) :: (DictEntry.mk (PyData.keyHash P (Str.ofString "Scanner")) (Value.str (Str.ofString "Scanner") 490) (Value.ref 167)) :: (DictEntry.mk (PyData.keyHash P (Str.ofString "_law_plain")) (Value.str (Str.ofString "_law_plain") 500) (Value.ref 172)) :: (DictEntry.mk (PyData.keyHash P (Str.ofString "_law_hidden")) (Value.str (Str.ofString "_law_hidden") 508) (Value.ref 173)) :: (DictEntry.mk (PyData.keyHash P (Str.ofString "_law_lone")) (Value.str (Str.ofString "_law_lone") 516) (Value.ref 174)) :: (DictEntry.mk (PyData.keyHash P (Str.ofString "_law_escaped")) (Value.str (Str.ofString "_law_escaped") 521) (Value.ref 175)) :: (DictEntry.mk (PyData.keyHash P (Str.ofString "_law_dip")) (Value.str (Str.ofString "_law_dip") 530) (Value.ref 182)) :: (DictEntry.mk (PyData.keyHash P (Str.ofString "_law_part")) (Value.str (Str.ofString "_law_part") 540) (Value.ref 189)) :: (DictEntry.mk (PyData.keyHash P (Str.ofString "_law_code")) (Value.str (Str.ofString "_law_code") 546) (Value.ref 194)) :: (DictEntry.mk (PyData.keyHash P (Str.ofString "_law_quoted")) (Value.str (Str.ofString "_law_quoted") 558) (Value.ref 201)) :: (DictEntry.mk (PyData.keyHash P (Str.ofString "law")) (Value.str (Str.ofString "law") 564) (Value.ref 206)) :: [])) 30) (List.toArray ([])))
noncomputable abbrev o15 (P : Params) : Obj := (Obj.mk (Value.type "tuple") none (Data.seq (List.toArray ((Value.type "Exception") :: [])) 0) (List.toArray ([])))
noncomputable abbrev o18 (P : Params) : Obj := (Obj.mk (Value.type "cell") none (Data.cell (some (Value.ref 40))) (List.toArray ([])))
noncomputable abbrev o23 (P : Params) : Obj := (Obj.mk (Value.type "tuple") none (Data.seq (List.toArray ((Value.ref 18) :: [])) 0) (List.toArray ([])))
noncomputable abbrev o29 (P : Params) : Obj := (Obj.mk (Value.type "code") none (Data.fields (List.toArray ((Value.str (Str.ofString "__init__") 201) :: (Value.str (Str.ofString "FdError.__init__") 202) :: (Value.str (Str.ofString "/claim/cut.py") 203) :: (Value.int 4 0) :: (Value.int 2 0) :: (Value.int 0 0) :: (Value.int 0 0) :: (Value.int 3 0) :: (Value.ref 24) :: (Value.bool Bool.true) :: (Value.int 181 0) :: (Value.ref 25) :: Value.none :: (Value.ref 26) :: (Value.ref 27) :: (Value.ref 28) :: (Value.int 207 0) :: (Value.int 4 0) :: (Value.str (Str.ofString "/claim/cut.py") 208) :: []))) (List.toArray ([])))
noncomputable abbrev o30 (P : Params) : Obj := (Obj.mk (Value.type "function") none (Data.func (FuncData.mk (Str.ofString "__init__") (Str.ofString "FdError.__init__") (fA (st2 1 0)) (FuncBody.stmts (fB (st2 1 0))) (fS (st2 1 0)) 3 (((Str.ofString "__class__"), 18) :: []) Value.none Value.none Value.none (Value.str (Str.ofString "fdsolve.errors") 187) none (Value.ref 29) (Value.ref 23) 0)) (List.toArray ([])))
noncomputable abbrev o39 (P : Params) : Obj := (Obj.mk (Value.type "dict") none (Data.dict (List.toArray ((DictEntry.mk (PyData.keyHash P (Str.ofString "__module__")) (Value.str (Str.ofString "__module__") 196) (Value.str (Str.ofString "fdsolve.errors") 187)) :: (DictEntry.mk (PyData.keyHash P (Str.ofString "__firstlineno__")) (Value.str (Str.ofString "__firstlineno__") 200) (Value.int 2 199)) :: (DictEntry.mk (PyData.keyHash P (Str.ofString "__init__")) (Value.str (Str.ofString "__init__") 209) (Value.ref 30)) :: (DictEntry.mk (PyData.keyHash P (Str.ofString "told")) (Value.str (Str.ofString "told") 216) (Value.ref 37)) :: (DictEntry.mk (PyData.keyHash P (Str.ofString "__static_attributes__")) (Value.str (Str.ofString "__static_attributes__") 218) (Value.ref 38)) :: (DictEntry.mk (PyData.keyHash P (Str.ofString "__weakref__")) (Value.str (Str.ofString "__weakref__") 221) (Value.ref 41)) :: (DictEntry.mk (PyData.keyHash P (Str.ofString "__doc__")) (Value.str (Str.ofString "__doc__") 222) Value.none) :: [])) 4) (List.toArray ([])))
noncomputable abbrev o40 (P : Params) : Obj := (Obj.mk (Value.type "type") none (Data.cls (ClassData.mk (Str.ofString "FdError") ((Value.type "Exception") :: []) ((Value.ref 40) :: (Value.type "Exception") :: (Value.type "BaseException") :: (Value.type "object") :: []) 39 (Str.ofString "FdError") Bool.true ([]) ((Value.ref 69) :: []) Bool.false none Bool.false)) (List.toArray ((some (Value.ref 15)) :: none :: (some (Value.str (Str.ofString "FdError") 189)) :: (some (Value.str (Str.ofString "FdError") 197)) :: (some (Value.builtin "Exception.__new__")) :: (some (Value.bool Bool.true)) :: [])))
noncomputable abbrev o44 (P : Params) : Obj := (Obj.mk (Value.type "tuple") none (Data.seq (List.toArray ((Value.ref 40) :: [])) 0) (List.toArray ([])))
noncomputable abbrev o47 (P : Params) : Obj := (Obj.mk (Value.type "cell") none (Data.cell (some (Value.ref 69))) (List.toArray ([])))
noncomputable abbrev o52 (P : Params) : Obj := (Obj.mk (Value.type "tuple") none (Data.seq (List.toArray ((Value.ref 47) :: [])) 0) (List.toArray ([])))
noncomputable abbrev o58 (P : Params) : Obj := (Obj.mk (Value.type "code") none (Data.fields (List.toArray ((Value.str (Str.ofString "__init__") 239) :: (Value.str (Str.ofString "SpotFault.__init__") 240) :: (Value.str (Str.ofString "/claim/cut.py") 241) :: (Value.int 12 0) :: (Value.int 3 0) :: (Value.int 0 0) :: (Value.int 0 0) :: (Value.int 3 0) :: (Value.ref 53) :: (Value.bool Bool.true) :: (Value.int 181 0) :: (Value.ref 54) :: Value.none :: (Value.ref 55) :: (Value.ref 56) :: (Value.ref 57) :: (Value.int 246 0) :: (Value.int 12 0) :: (Value.str (Str.ofString "/claim/cut.py") 247) :: []))) (List.toArray ([])))
noncomputable abbrev o59 (P : Params) : Obj := (Obj.mk (Value.type "function") none (Data.func (FuncData.mk (Str.ofString "__init__") (Str.ofString "SpotFault.__init__") (fA (st2 2 0)) (FuncBody.stmts (fB (st2 2 0))) (fS (st2 2 0)) 3 (((Str.ofString "__class__"), 47) :: []) Value.none Value.none Value.none (Value.str (Str.ofString "fdsolve.errors") 187) none (Value.ref 58) (Value.ref 52) 0)) (List.toArray ([])))
noncomputable abbrev o68 (P : Params) : Obj := (Obj.mk (Value.type "dict") none (Data.dict (List.toArray ((DictEntry.mk (PyData.keyHash P (Str.ofString "__module__")) (Value.str (Str.ofString "__module__") 234) (Value.str (Str.ofString "fdsolve.errors") 187)) :: (DictEntry.mk (PyData.keyHash P (Str.ofString "__firstlineno__")) (Value.str (Str.ofString "__firstlineno__") 238) (Value.int 10 237)) :: (DictEntry.mk (PyData.keyHash P (Str.ofString "__init__")) (Value.str (Str.ofString "__init__") 248) (Value.ref 59)) :: (DictEntry.mk (PyData.keyHash P (Str.ofString "told")) (Value.str (Str.ofString "told") 255) (Value.ref 66)) :: (DictEntry.mk (PyData.keyHash P (Str.ofString "__static_attributes__")) (Value.str (Str.ofString "__static_attributes__") 257) (Value.ref 67)) :: (DictEntry.mk (PyData.keyHash P (Str.ofString "__doc__")) (Value.str (Str.ofString "__doc__") 259) Value.none) :: [])) 3) (List.toArray ([])))
noncomputable abbrev o69 (P : Params) : Obj := (Obj.mk (Value.type "type") none (Data.cls (ClassData.mk (Str.ofString "SpotFault") ((Value.ref 40) :: []) ((Value.ref 69) :: (Value.ref 40) :: (Value.type "Exception") :: (Value.type "BaseException") :: (Value.type "object") :: []) 68 (Str.ofString "SpotFault") Bool.true ([]) ((Value.ref 81) :: []) Bool.false none Bool.false)) (List.toArray ((some (Value.ref 44)) :: none :: (some (Value.str (Str.ofString "SpotFault") 227)) :: (some (Value.str (Str.ofString "SpotFault") 235)) :: (some (Value.builtin "Exception.__new__")) :: (some (Value.bool Bool.true)) :: [])))
noncomputable abbrev o72 (P : Params) : Obj := (Obj.mk (Value.type "tuple") none (Data.seq (List.toArray ((Value.ref 69) :: [])) 0) (List.toArray ([])))
noncomputable abbrev o80 (P : Params) : Obj := (Obj.mk (Value.type "dict") none (Data.dict (List.toArray ((DictEntry.mk (PyData.keyHash P (Str.ofString "__module__")) (Value.str (Str.ofString "__module__") 269) (Value.str (Str.ofString "fdsolve.errors") 187)) :: (DictEntry.mk (PyData.keyHash P (Str.ofString "__firstlineno__")) (Value.str (Str.ofString "__firstlineno__") 273) (Value.int 18 272)) :: (DictEntry.mk (PyData.keyHash P (Str.ofString "__static_attributes__")) (Value.str (Str.ofString "__static_attributes__") 274) (Value.ref 79)) :: (DictEntry.mk (PyData.keyHash P (Str.ofString "__doc__")) (Value.str (Str.ofString "__doc__") 275) Value.none) :: [])) 2) (List.toArray ([])))
noncomputable abbrev o81 (P : Params) : Obj := (Obj.mk (Value.type "type") none (Data.cls (ClassData.mk (Str.ofString "TextFault") ((Value.ref 69) :: []) ((Value.ref 81) :: (Value.ref 69) :: (Value.ref 40) :: (Value.type "Exception") :: (Value.type "BaseException") :: (Value.type "object") :: []) 80 (Str.ofString "TextFault") Bool.true ([]) ([]) Bool.false none Bool.false)) (List.toArray ((some (Value.ref 72)) :: none :: (some (Value.str (Str.ofString "TextFault") 262)) :: (some (Value.str (Str.ofString "TextFault") 270)) :: (some (Value.builtin "Exception.__new__")) :: (some (Value.bool Bool.true)) :: [])))
noncomputable abbrev o94 (P : Params) : Obj := (Obj.mk (Value.type "tuple") none (Data.seq (List.toArray ((Value.int 0 385) :: [])) 0) (List.toArray ([])))
noncomputable abbrev o100 (P : Params) : Obj := (Obj.mk (Value.type "code") none (Data.fields (List.toArray ((Value.str (Str.ofString "__init__") 386) :: (Value.str (Str.ofString "Scanner.__init__") 387) :: (Value.str (Str.ofString "/claim/cut.py") 388) :: (Value.int 31 0) :: (Value.int 5 0) :: (Value.int 0 0) :: (Value.int 0 0) :: (Value.int 3 0) :: (Value.ref 95) :: (Value.bool Bool.true) :: (Value.int 181 0) :: (Value.ref 96) :: Value.none :: (Value.ref 97) :: (Value.ref 98) :: (Value.ref 99) :: (Value.int 394 0) :: (Value.int 31 0) :: (Value.str (Str.ofString "/claim/cut.py") 395) :: []))) (List.toArray ([])))
noncomputable abbrev o101 (P : Params) : Obj := (Obj.mk (Value.type "function") none (Data.func (FuncData.mk (Str.ofString "__init__") (Str.ofString "Scanner.__init__") (fA (st2 13 0)) (FuncBody.stmts (fB (st2 13 0))) (fS (st2 13 0)) 3 ([]) (Value.ref 94) Value.none Value.none (Value.str (Str.ofString "fdsolve.reader") 278) none (Value.ref 100) Value.none 0)) (List.toArray ([])))
noncomputable abbrev o107 (P : Params) : Obj := (Obj.mk (Value.type "code") none (Data.fields (List.toArray ((Value.str (Str.ofString "sign") 397) :: (Value.str (Str.ofString "Scanner.sign") 398) :: (Value.str (Str.ofString "/claim/cut.py") 399) :: (Value.int 37 0) :: (Value.int 1 0) :: (Value.int 0 0) :: (Value.int 0 0) :: (Value.int 3 0) :: (Value.ref 102) :: (Value.bool Bool.true) :: (Value.int 181 0) :: (Value.ref 103) :: Value.none :: (Value.ref 104) :: (Value.ref 105) :: (Value.ref 106) :: (Value.int 401 0) :: (Value.int 37 0) :: (Value.str (Str.ofString "/claim/cut.py") 402) :: []))) (List.toArray ([])))
noncomputable abbrev o108 (P : Params) : Obj := (Obj.mk (Value.type "function") none (Data.func (FuncData.mk (Str.ofString "sign") (Str.ofString "Scanner.sign") (fA (st2 13 1)) (FuncBody.stmts (fB (st2 13 1))) (fS (st2 1 1)) 3 ([]) Value.none Value.none Value.none (Value.str (Str.ofString "fdsolve.reader") 278) none (Value.ref 107) Value.none 0)) (List.toArray ([])))
noncomputable abbrev o114 (P : Params) : Obj := (Obj.mk (Value.type "code") none (Data.fields (List.toArray ((Value.str (Str.ofString "skip") 404) :: (Value.str (Str.ofString "Scanner.skip") 405) :: (Value.str (Str.ofString "/claim/cut.py") 406) :: (Value.int 40 0) :: (Value.int 1 0) :: (Value.int 0 0) :: (Value.int 0 0) :: (Value.int 3 0) :: (Value.ref 109) :: (Value.bool Bool.true) :: (Value.int 181 0) :: (Value.ref 110) :: Value.none :: (Value.ref 111) :: (Value.ref 112) :: (Value.ref 113) :: (Value.int 409 0) :: (Value.int 40 0) :: (Value.str (Str.ofString "/claim/cut.py") 410) :: []))) (List.toArray ([])))
noncomputable abbrev o115 (P : Params) : Obj := (Obj.mk (Value.type "function") none (Data.func (FuncData.mk (Str.ofString "skip") (Str.ofString "Scanner.skip") (fA (st2 13 2)) (FuncBody.stmts (fB (st2 13 2))) (fS (st2 13 2)) 3 ([]) Value.none Value.none Value.none (Value.str (Str.ofString "fdsolve.reader") 278) none (Value.ref 114) Value.none 0)) (List.toArray ([])))
noncomputable abbrev o142 (P : Params) : Obj := (Obj.mk (Value.type "code") none (Data.fields (List.toArray ((Value.str (Str.ofString "inner_end") 439) :: (Value.str (Str.ofString "Scanner.inner_end") 440) :: (Value.str (Str.ofString "/claim/cut.py") 441) :: (Value.int 75 0) :: (Value.int 2 0) :: (Value.int 0 0) :: (Value.int 0 0) :: (Value.int 3 0) :: (Value.ref 137) :: (Value.bool Bool.true) :: (Value.int 181 0) :: (Value.ref 138) :: Value.none :: (Value.ref 139) :: (Value.ref 140) :: (Value.ref 141) :: (Value.int 449 0) :: (Value.int 75 0) :: (Value.str (Str.ofString "/claim/cut.py") 450) :: []))) (List.toArray ([])))
noncomputable abbrev o143 (P : Params) : Obj := (Obj.mk (Value.type "function") none (Data.func (FuncData.mk (Str.ofString "inner_end") (Str.ofString "Scanner.inner_end") (fA (st2 13 6)) (FuncBody.stmts (fB (st2 13 6))) (fS (st2 13 6)) 3 ([]) Value.none Value.none Value.none (Value.str (Str.ofString "fdsolve.reader") 278) none (Value.ref 142) Value.none 0)) (List.toArray ([])))
noncomputable abbrev o166 (P : Params) : Obj := (Obj.mk (Value.type "dict") none (Data.dict (List.toArray ((DictEntry.mk (PyData.keyHash P (Str.ofString "__module__")) (Value.str (Str.ofString "__module__") 380) (Value.str (Str.ofString "fdsolve.reader") 278)) :: (DictEntry.mk (PyData.keyHash P (Str.ofString "__firstlineno__")) (Value.str (Str.ofString "__firstlineno__") 384) (Value.int 29 383)) :: (DictEntry.mk (PyData.keyHash P (Str.ofString "__init__")) (Value.str (Str.ofString "__init__") 396) (Value.ref 101)) :: (DictEntry.mk (PyData.keyHash P (Str.ofString "sign")) (Value.str (Str.ofString "sign") 403) (Value.ref 108)) :: (DictEntry.mk (PyData.keyHash P (Str.ofString "skip")) (Value.str (Str.ofString "skip") 411) (Value.ref 115)) :: (DictEntry.mk (PyData.keyHash P (Str.ofString "run_of")) (Value.str (Str.ofString "run_of") 420) (Value.ref 122)) :: (DictEntry.mk (PyData.keyHash P (Str.ofString "number")) (Value.str (Str.ofString "number") 429) (Value.ref 129)) :: (DictEntry.mk (PyData.keyHash P (Str.ofString "word")) (Value.str (Str.ofString "word") 438) (Value.ref 136)) :: (DictEntry.mk (PyData.keyHash P (Str.ofString "inner_end")) (Value.str (Str.ofString "inner_end") 451) (Value.ref 143)) :: (DictEntry.mk (PyData.keyHash P (Str.ofString "string")) (Value.str (Str.ofString "string") 462) (Value.ref 150)) :: (DictEntry.mk (PyData.keyHash P (Str.ofString "mark")) (Value.str (Str.ofString "mark") 470) (Value.ref 157)) :: (DictEntry.mk (PyData.keyHash P (Str.ofString "tokens")) (Value.str (Str.ofString "tokens") 478) (Value.ref 164)) :: (DictEntry.mk (PyData.keyHash P (Str.ofString "__static_attributes__")) (Value.str (Str.ofString "__static_attributes__") 483) (Value.ref 165)) :: (DictEntry.mk (PyData.keyHash P (Str.ofString "__dict__")) (Value.str (Str.ofString "__dict__") 485) (Value.ref 168)) :: (DictEntry.mk (PyData.keyHash P (Str.ofString "__weakref__")) (Value.str (Str.ofString "__weakref__") 487) (Value.ref 169)) :: (DictEntry.mk (PyData.keyHash P (Str.ofString "__doc__")) (Value.str (Str.ofString "__doc__") 488) Value.none) :: [])) 4) (List.toArray ([])))
noncomputable abbrev o167 (P : Params) : Obj := (Obj.mk (Value.type "type") none (Data.cls (ClassData.mk (Str.ofString "Scanner") ((Value.type "object") :: []) ((Value.ref 167) :: (Value.type "object") :: []) 166 (Str.ofString "Scanner") Bool.true ([]) ([]) Bool.false none Bool.false)) (List.toArray (none :: none :: (some (Value.str (Str.ofString "Scanner") 373)) :: (some (Value.str (Str.ofString "Scanner") 381)) :: (some (Value.builtin "object.__new__")) :: (some (Value.bool Bool.true)) :: [])))
noncomputable abbrev o172 (P : Params) : Obj := (Obj.mk (Value.type "tuple") none (Data.seq (List.toArray ((Value.str (Str.ofString "x") 493) :: (Value.str (Str.ofString " 12") 494) :: (Value.str (Str.ofString "+") 495) :: (Value.str (Str.ofString "/\\") 496) :: (Value.str (Str.ofString "\\/") 497) :: (Value.str (Str.ofString "]") 498) :: (Value.str (Str.ofString "\n") 499) :: [])) 0) (List.toArray ([])))
noncomputable abbrev o173 (P : Params) : Obj := (Obj.mk (Value.type "tuple") none (Data.seq (List.toArray ((Value.str (Str.ofString "a") 501) :: (Value.str (Str.ofString ")") 502) :: (Value.str (Str.ofString "(") 503) :: (Value.str (Str.ofString "\"") 504) :: (Value.str (Str.ofString "\\(") 505) :: (Value.str (Str.ofString "/") 506) :: (Value.str (Str.ofString "%") 507) :: [])) 0) (List.toArray ([])))
noncomputable abbrev o174 (P : Params) : Obj := (Obj.mk (Value.type "tuple") none (Data.seq (List.toArray ((Value.str (Str.ofString "a") 509) :: (Value.str (Str.ofString "(") 510) :: (Value.str (Str.ofString ")") 511) :: (Value.str (Str.ofString "%") 512) :: (Value.str (Str.ofString "/*") 513) :: (Value.str (Str.ofString "*/") 514) :: (Value.str (Str.ofString "'") 515) :: [])) 0) (List.toArray ([])))
noncomputable abbrev o175 (P : Params) : Obj := (Obj.mk (Value.type "tuple") none (Data.seq (List.toArray ((Value.str (Str.ofString "\\\"") 517) :: (Value.str (Str.ofString "\\\\") 518) :: (Value.str (Str.ofString "\\n") 519) :: (Value.str (Str.ofString "\\t") 520) :: [])) 0) (List.toArray ([])))
noncomputable abbrev o181 (P : Params) : Obj := (Obj.mk (Value.type "code") none (Data.fields (List.toArray ((Value.str (Str.ofString "_law_dip") 522) :: (Value.str (Str.ofString "_law_dip") 523) :: (Value.str (Str.ofString "/claim/cut.py") 524) :: (Value.int 149 0) :: (Value.int 2 0) :: (Value.int 0 0) :: (Value.int 0 0) :: (Value.int 3 0) :: (Value.ref 176) :: (Value.bool Bool.true) :: (Value.int 181 0) :: (Value.ref 177) :: Value.none :: (Value.ref 178) :: (Value.ref 179) :: (Value.ref 180) :: (Value.int 528 0) :: (Value.int 149 0) :: (Value.str (Str.ofString "/claim/cut.py") 529) :: []))) (List.toArray ([])))
noncomputable abbrev o182 (P : Params) : Obj := (Obj.mk (Value.type "function") none (Data.func (FuncData.mk (Str.ofString "_law_dip") (Str.ofString "_law_dip") (fA (st 19)) (FuncBody.stmts (fB (st 19))) (fS (st 19)) 3 ([]) Value.none Value.none Value.none (Value.str (Str.ofString "law_pq0371_01") 491) none (Value.ref 181) Value.none 0)) (List.toArray ([])))
noncomputable abbrev o188 (P : Params) : Obj := (Obj.mk (Value.type "code") none (Data.fields (List.toArray ((Value.str (Str.ofString "_law_part") 531) :: (Value.str (Str.ofString "_law_part") 532) :: (Value.str (Str.ofString "/claim/cut.py") 533) :: (Value.int 155 0) :: (Value.int 3 0) :: (Value.int 0 0) :: (Value.int 0 0) :: (Value.int 3 0) :: (Value.ref 183) :: (Value.bool Bool.true) :: (Value.int 181 0) :: (Value.ref 184) :: Value.none :: (Value.ref 185) :: (Value.ref 186) :: (Value.ref 187) :: (Value.int 538 0) :: (Value.int 155 0) :: (Value.str (Str.ofString "/claim/cut.py") 539) :: []))) (List.toArray ([])))
noncomputable abbrev o189 (P : Params) : Obj := (Obj.mk (Value.type "function") none (Data.func (FuncData.mk (Str.ofString "_law_part") (Str.ofString "_law_part") (fA (st 20)) (FuncBody.stmts (fB (st 20))) (fS (st 20)) 3 ([]) Value.none Value.none Value.none (Value.str (Str.ofString "law_pq0371_01") 491) none (Value.ref 188) Value.none 0)) (List.toArray ([])))
noncomputable abbrev o193 (P : Params) : Obj := (Obj.mk (Value.type "code") none (Data.fields (List.toArray ((Value.str (Str.ofString "_law_code") 541) :: (Value.str (Str.ofString "_law_code") 542) :: (Value.str (Str.ofString "/claim/cut.py") 543) :: (Value.int 160 0) :: (Value.int 3 0) :: (Value.int 0 0) :: (Value.int 0 0) :: (Value.int 3 0) :: (Value.ref 190) :: (Value.bool Bool.true) :: (Value.int 181 0) :: (Value.ref 191) :: Value.none :: Value.none :: Value.none :: (Value.ref 192) :: (Value.int 544 0) :: (Value.int 160 0) :: (Value.str (Str.ofString "/claim/cut.py") 545) :: []))) (List.toArray ([])))
noncomputable abbrev o194 (P : Params) : Obj := (Obj.mk (Value.type "function") none (Data.func (FuncData.mk (Str.ofString "_law_code") (Str.ofString "_law_code") (fA (st 21)) (FuncBody.stmts (fB (st 21))) (fS (st 21)) 3 ([]) Value.none Value.none Value.none (Value.str (Str.ofString "law_pq0371_01") 491) none (Value.ref 193) Value.none 0)) (List.toArray ([])))
noncomputable abbrev o200 (P : Params) : Obj := (Obj.mk (Value.type "code") none (Data.fields (List.toArray ((Value.str (Str.ofString "_law_quoted") 547) :: (Value.str (Str.ofString "_law_quoted") 548) :: (Value.str (Str.ofString "/claim/cut.py") 549) :: (Value.int 178 0) :: (Value.int 3 0) :: (Value.int 0 0) :: (Value.int 0 0) :: (Value.int 3 0) :: (Value.ref 195) :: (Value.bool Bool.true) :: (Value.int 181 0) :: (Value.ref 196) :: Value.none :: (Value.ref 197) :: (Value.ref 198) :: (Value.ref 199) :: (Value.int 556 0) :: (Value.int 178 0) :: (Value.str (Str.ofString "/claim/cut.py") 557) :: []))) (List.toArray ([])))
noncomputable abbrev o201 (P : Params) : Obj := (Obj.mk (Value.type "function") none (Data.func (FuncData.mk (Str.ofString "_law_quoted") (Str.ofString "_law_quoted") (fA (st 22)) (FuncBody.stmts (fB (st 22))) (fS (st 22)) 3 ([]) Value.none Value.none Value.none (Value.str (Str.ofString "law_pq0371_01") 491) none (Value.ref 200) Value.none 0)) (List.toArray ([])))
noncomputable abbrev o205 (P : Params) : Obj := (Obj.mk (Value.type "code") none (Data.fields (List.toArray ((Value.str (Str.ofString "law") 559) :: (Value.str (Str.ofString "law") 560) :: (Value.str (Str.ofString "/claim/cut.py") 561) :: (Value.int 189 0) :: (Value.int 1 0) :: (Value.int 0 0) :: (Value.int 0 0) :: (Value.int 3 0) :: (Value.ref 202) :: (Value.bool Bool.true) :: (Value.int 181 0) :: (Value.ref 203) :: Value.none :: Value.none :: Value.none :: (Value.ref 204) :: (Value.int 562 0) :: (Value.int 189 0) :: (Value.str (Str.ofString "/claim/cut.py") 563) :: []))) (List.toArray ([])))
noncomputable abbrev o206 (P : Params) : Obj := (Obj.mk (Value.type "function") none (Data.func (FuncData.mk (Str.ofString "law") (Str.ofString "law") (fA (st 23)) (FuncBody.stmts (fB (st 23))) (fS (st 23)) 3 ([]) Value.none Value.none Value.none (Value.str (Str.ofString "law_pq0371_01") 491) none (Value.ref 205) Value.none 0)) (List.toArray ([])))
noncomputable def KK : Params → Frag := fun P => (nat_lit 2, o2 P) :: (nat_lit 3, o3 P) :: (nat_lit 15, o15 P) :: (nat_lit 18, o18 P) :: (nat_lit 23, o23 P) :: (nat_lit 29, o29 P) :: (nat_lit 30, o30 P) :: (nat_lit 39, o39 P) :: (nat_lit 40, o40 P) :: (nat_lit 44, o44 P) :: (nat_lit 47, o47 P) :: (nat_lit 52, o52 P) :: (nat_lit 58, o58 P) :: (nat_lit 59, o59 P) :: (nat_lit 68, o68 P) :: (nat_lit 69, o69 P) :: (nat_lit 72, o72 P) :: (nat_lit 80, o80 P) :: (nat_lit 81, o81 P) :: (nat_lit 94, o94 P) :: (nat_lit 100, o100 P) :: (nat_lit 101, o101 P) :: (nat_lit 107, o107 P) :: (nat_lit 108, o108 P) :: (nat_lit 114, o114 P) :: (nat_lit 115, o115 P) :: (nat_lit 142, o142 P) :: (nat_lit 143, o143 P) :: (nat_lit 166, o166 P) :: (nat_lit 167, o167 P) :: (nat_lit 172, o172 P) :: (nat_lit 173, o173 P) :: (nat_lit 174, o174 P) :: (nat_lit 175, o175 P) :: (nat_lit 181, o181 P) :: (nat_lit 182, o182 P) :: (nat_lit 188, o188 P) :: (nat_lit 189, o189 P) :: (nat_lit 193, o193 P) :: (nat_lit 194, o194 P) :: (nat_lit 200, o200 P) :: (nat_lit 201, o201 P) :: (nat_lit 205, o205 P) :: (nat_lit 206, o206 P) :: []
theorem fill : (PySem.Challenge.rw_pq0371_01, LawProof.KK) = (PySem.Challenge.rw_pq0371_01, LawProof.KK) := by
  k_fill
  rfl
theorem calm {M : Model} {A : Around} {E : Value → Shared → Prop} {s : Shared} {env : Env} {Q : Flow → Shared → Prop} (h : Q .next s) : wpAny M A (execs [] env) Q E s := by
  w_top off
  walk1
  exact h
local macro_rules | `(tactic| k_all) => `(tactic| assumption)
local macro_rules | `(tactic| walk_at $s:str) => `(tactic| k_extra $s)

/-! the plain reading of the law's own builder: texts and a state, no heap -/
structure St where
  place : Int
  left : Int
  pairs : List (Int × Int)
  remarks : List (Int × Int)

noncomputable def dipV (cells : List Int) (pl many : Int) : Int :=
  if pl < cells.length then Int.fmod (cells.getD pl.toNat 0) many else Int.fmod (Int.fmod (3 * pl * pl + 5 * pl + 1) 97) many
noncomputable def St.next (st : St) : St := { st with place := st.place + 1 }

noncomputable def mPlain : List Str := ["x", " 12", "+", "/\\", "\\/", "]", "\n"]
noncomputable def mHidden : List Str := ["a", ")", "(", "\"", "\\(", "/", "%"]
noncomputable def mLone : List Str := ["a", "(", ")", "%", "/*", "*/", "'"]
noncomputable def mEscaped : List Str := ["\\\"", "\\\\", "\\n", "\\t"]
noncomputable def pick (l : List Str) (i : Int) : Str := l.getD i.toNat Str.empty

noncomputable abbrev Gen := Int → St → Str × St

noncomputable def signsF (cells : List Int) : Nat → St → List Str × St
  | 0, st => ([], st)
  | k + 1, st => (pick mHidden (dipV cells st.place 7) :: (signsF cells k st.next).1, (signsF cells k st.next).2)

noncomputable def laps (f : Str × St → Str × St) : Nat → Str × St → Str × St
  | 0, x => x
  | n + 1, x => laps f n (f x)

noncomputable def codeLap (cells : List Int) (quoted part : Gen) (deep : Bool) (begin_ : Int) (x : Str × St) : Str × St :=
  let spot := begin_ + x.1.length
  let way := dipV cells x.2.place (if deep = true ∧ 0 < x.2.left then 5 else 3)
  let st := x.2.next
  if way = 0 then (x.1 ++ pick mPlain (dipV cells st.place 7), st.next)
  else if way = 3 then
    let r := quoted (spot + 1) { st with left := st.left - 1 }
    (x.1 ++ "\"" ++ r.1 ++ "\"", r.2)
  else if way = 4 then
    let r := part (spot + 1) st
    (x.1 ++ "(" ++ r.1, r.2)
  else
    let r := signsF cells (dipV cells st.place 4).toNat st.next
    let signs := Str.join Str.empty r.1
    let text := x.1 ++ (if way = 1 then "%" ++ signs ++ "\n" else "/*" ++ signs ++ "*/")
    (text, if way = 2 then { r.2 with remarks := r.2.remarks ++ [(spot, begin_ + text.length)] } else r.2)

noncomputable def codeF (cells : List Int) (quoted part : Gen) (deep : Bool) : Gen := fun begin_ st =>
  laps (codeLap cells quoted part deep begin_) (dipV cells st.place 4).toNat (Str.empty, st.next)

noncomputable def quotLap (cells : List Int) (part : Gen) (deep : Bool) (begin_ : Int) (x : Str × St) : Str × St :=
  let way := dipV cells x.2.place (if deep = true ∧ 0 < x.2.left then 3 else 2)
  let st := x.2.next
  if way = 0 then (x.1 ++ pick mLone (dipV cells st.place 7), st.next)
  else if way = 1 then (x.1 ++ pick mEscaped (dipV cells st.place 4), st.next)
  else
    let r := part (begin_ + x.1.length + 2) st
    (x.1 ++ "\\(" ++ r.1, r.2)

noncomputable def quotF (cells : List Int) (part : Gen) (deep : Bool) : Gen := fun begin_ st =>
  laps (quotLap cells part deep begin_) (dipV cells st.place 4).toNat (Str.empty, st.next)

noncomputable def partF (code : Gen) : Gen := fun begin_ st =>
  let r := code begin_ { st with left := st.left - 1 }
  (r.1 ++ ")", { r.2 with pairs := r.2.pairs ++ [(begin_, begin_ + r.1.length)] })

noncomputable def noGen : Gen := fun _ st => (Str.empty, st)

/-- code and quoted at a depth -/
noncomputable def gen (cells : List Int) : Nat → Gen × Gen
  | 0 => (codeF cells noGen noGen false, quotF cells noGen false)
  | n + 1 => (codeF cells (gen cells n).2 (partF (gen cells n).1) true, quotF cells (partF (gen cells n).1) true)

/-! the plain reading of the scanner -/
inductive Told where
  | close (n : Nat)
  | fault (n : Nat)

noncomputable def ch (x : Str) (i : Nat) : Nat := x.cps.getD i 0

noncomputable def isBlank (c : Nat) : Bool := c == 32 || c == 9 || c == 13 || c == 10

noncomputable def lineEnd (x : Str) (e : Nat) : Nat → Nat → Nat
  | 0, s => s
  | k + 1, s => if s < e ∧ ch x s ≠ 10 then lineEnd x e k (s + 1) else s

noncomputable def starEnd (x : Str) (e : Nat) : Nat → Nat → Option Nat
  | 0, _ => none
  | k + 1, s => if s + 2 ≤ e then (if ch x s = 42 ∧ ch x (s + 1) = 47 then some s else starEnd x e k (s + 1)) else none

noncomputable def skipF (x : Str) (e : Nat) : Nat → Nat → Told
  | 0, s => .close s
  | k + 1, s =>
    if s < e then
      if isBlank (ch x s) = true then skipF x e k (s + 1)
      else if ch x s = 37 then skipF x e k (lineEnd x e (e - s) s)
      else if ch x s = 47 ∧ ch x (s + 1) = 42 then
        match starEnd x e (e - s) (s + 2) with
        | none => .fault s
        | some c => skipF x e k (c + 2)
      else .close s
    else .close s

/-- the scanner's loop; the stack's head is the last, true for a quote -/
noncomputable def innerF (x : Str) (e b : Nat) : Nat → Nat → List Bool → Told
  | 0, _, _ => .fault b
  | k + 1, s, w =>
    if s < e then
      if w.headD false = true then
        if ch x s = 92 then innerF x e b k (s + 2) (if ch x (s + 1) = 40 then false :: w else w)
        else innerF x e b k (s + 1) (if ch x s = 34 then w.tail else w)
      else if ch x s = 40 then innerF x e b k (s + 1) (false :: w)
      else if ch x s = 34 then innerF x e b k (s + 1) (true :: w)
      else if ch x s = 41 then (if w.tail = [] then .close s else innerF x e b k (s + 1) w.tail)
      else if ch x s = 37 ∨ (ch x s = 47 ∧ ch x (s + 1) = 42) then
        match skipF x e (e - s + 1) s with
        | .fault n => .fault n
        | .close n => innerF x e b k n w
      else innerF x e b k (s + 1) w
    else .fault b

noncomputable def innerEnd (x : Str) (e b : Nat) : Told := innerF x e b (e - b + 1) b [false]

/-! the law's own end -/
noncomputable def dueOf (st : St) (e : Int) (p : Int × Int) : Int × Int :=
  if p.2 < e then (0, p.2) else (1, (((st.remarks.filter fun r => decide (p.1 ≤ r.1 ∧ r.1 < e ∧ e < r.2)).map (·.1)) ++ [p.1]).getD 0 0)
noncomputable def toldOf : Told → Int × Int
  | .close n => (0, n)
  | .fault n => (1, n)
section
noncomputable abbrev PG : Program := PySem.Challenge.rw_pq0371_01.row.prog
noncomputable abbrev feedL (c pa ra : Addr) (pl lf : Int) (t1 t2 : Tok) : List (Str × Value) :=
  [("cells", .ref c), ("place", .int pl t1), ("left", .int lf t2), ("pairs", .ref pa), ("remarks", .ref ra)]

theorem dip_exp {w : World} {p : Program} {loose : List Str} {mean : ExcName → Option Value} {mg mb : Str → Option Value}
  {dp un : Nat} {gd : Option (List Code)} {cn : Str} {cs : Scope} {a : Addr} {ccd : Value} {cl : List (Str × Addr)} {outer : List Env} {A₀ : Around} {base h₀ : Heap} {L : Addr} {m : Str → Option Value} {s : Shared} {Q E : Value → Shared → Prop}
  {d c pa ra : Addr} {o : Obj} {rest : List (Addr × Obj)} {pl lf many : Int} {t1 t2 tm : Tok} {vs : List Value} {cells : List Int} {nc : Nat}
  (B : Below A₀ base outer h₀) (F : Fr h₀ L s.heap m) (X : (KK w.params).In h₀) (N : News h₀ L s.heap ((d, o) :: (c, listOf vs.toArray nc) :: rest)) (T : Top p loose mean mg mb h₀) (hk : cs.kind = .function)
  (hd : o.IsDictOf (strKind PG w) (feedL c pa ra pl lf t1 t2))
  (hap : ∀ q ∈ rest, q.1 ≠ d) (hcd : @Ne Nat c d) (hI : IntsAre vs cells) (hcl : cells.length ≤ 60)
  (h0 : 0 ≤ pl) (h1 : pl < 100000) (hm : 0 < many) (hm2 : many < 2 ^ 40) (hdp : dp + 1 < recursionLimit)
  (hret : ∀ v t h' tk' o' t1', v = dipV cells pl many → Fr h₀ L h' m → News h₀ L h' ((d, o') :: (c, listOf vs.toArray nc) :: rest) → o'.IsDictOf (strKind PG w) (feedL c pa ra (pl + 1) lf t1' t2) →
     Q (.int v t) { s with heap := h', toks := tk' }) :
  wpAny (model PG w) (ktrTop dp un gd cn cs L a ccd cl outer) (call (.ref 182) [.ref d, .int many tm]) Q E s := by
  refine wpAny_call ?_
  k_dflt ktr_enter
  k_with_none
  k_with "execs cons" => (first | (k_here; k_gentoks) | ((with_reducible refine wpAny_execs_cons ?_); (try dsimp only); (try k_fold)))
  k_with "setItem ref str" => (k_here; k_dflt (refine kda_set (knd := PySem.strKind _ _) (by k_asm) (by k_asm) (by k_updF) (by k_asm) (strKind_is _ _ _ _) (by kob_size) ?_); intro hq₉ oq₉ Fq₉ Nq₉ hdq₉; (try kob_lit); (try dsimp only at Nq₉))
  k_steps
  all_goals (refine hret _ _ _ _ _ _ ?_ (by k_asm) (by k_asm) (by k_asm); unfold dipV)
  · rw [if_pos (by omega)]
  · rw [if_neg (by omega)]

theorem dip_call {w : World} {p : Program} {loose : List Str} {mean : ExcName → Option Value} {mg mb : Str → Option Value}
  {dp un : Nat} {gd : Option (List Code)} {cn : Str} {cs : Scope} {a : Addr} {ccd : Value} {cl : List (Str × Addr)} {outer : List Env} {A₀ : Around} {base h₀ : Heap} {L : Addr} {m : Str → Option Value} {s : Shared} {Q E : Value → Shared → Prop}
  {d c pa ra : Addr} {o : Obj} {news : List (Addr × Obj)} {g : Obj → List (Addr × Obj)} {pl lf many : Int} {t1 t2 tm : Tok} {vs : List Value} {cells : List Int} {nc : Nat}
  (B : Below A₀ base outer h₀) (F : Fr h₀ L s.heap m) (X : (KK w.params).In h₀) (N : News h₀ L s.heap news) (T : Top p loose mean mg mb h₀) (hk : cs.kind = .function)
  (U : UpdF d o news g) (hd : o.IsDictOf (strKind PG w) (feedL c pa ra pl lf t1 t2)) (hc : (c, listOf vs.toArray nc) ∈ news)
  (hcd : @Ne Nat c d) (hI : IntsAre vs cells) (hcl : cells.length ≤ 60)
  (h0 : 0 ≤ pl) (h1 : pl < 100000) (hm : 0 < many) (hm2 : many < 2 ^ 40) (hdp : dp + 1 < recursionLimit)
  (hret : ∀ t h' tk' o' t1', 0 ≤ dipV cells pl many → dipV cells pl many < many → Fr h₀ L h' m → News h₀ L h' (g o') → o'.IsDictOf (strKind PG w) (feedL c pa ra (pl + 1) lf t1' t2) →
     Q (.int (dipV cells pl many) t) { s with heap := h', toks := tk' }) :
  wpAny (model PG w) (ktrTop dp un gd cn cs L a ccd cl outer) (call (.ref 182) [.ref d, .int many tm]) Q E s := by
  obtain ⟨pre, post, rfl, hg, ha, hb⟩ := U.split
  have hc' : (c, listOf vs.toArray nc) ∈ pre ++ post := by
    rcases List.mem_append.mp hc with q | q
    · exact List.mem_append_left _ q
    · rcases List.mem_cons.mp q with q | q
      · exact absurd (congrArg Prod.fst q) hcd
      · exact List.mem_append_right _ q
  have lo : 0 ≤ dipV cells pl many := by unfold dipV; split <;> exact Int.fmod_nonneg_of_pos _ hm
  have hi : dipV cells pl many < many := by unfold dipV; split <;> exact Int.fmod_lt_of_pos _ hm
  refine dip_exp (nc := nc) (rest := pre ++ post) B F X (fun q hq => N q ?_) T hk hd (fun q hq => ?_) hcd hI hcl h0 h1 hm hm2 hdp (fun v t h' tk' o' t1' e F' N' hd' => ?_)
  · rcases List.mem_cons.mp hq with rfl | hq
    · exact List.mem_append_right _ (.head _)
    · rcases List.mem_cons.mp hq with rfl | hq
      · exact hc
      · rcases List.mem_append.mp hq with q | q
        · exact List.mem_append_left _ q
        · exact List.mem_append_right _ (.tail _ q)
  · exact (List.mem_append.mp hq).elim (ha q) (hb q)
  · subst e
    refine hret t h' tk' o' t1' lo hi F' (fun q hq => N' q ?_) hd'
    rw [hg] at hq
    rcases List.mem_append.mp hq with q | q
    · exact .tail _ (.tail _ (List.mem_append_left _ q))
    · rcases List.mem_cons.mp q with rfl | q
      · exact .head _
      · exact .tail _ (.tail _ (List.mem_append_right _ q))
end
theorem calm1 {M : Model} {A : Around} {E : Value → Shared → Prop} {s : Shared} {env : Env} {Q : Flow → Shared → Prop} (h : Q .next s) : wpAny M A (execs [] env) Q E s := by
  k_with_none
  w_top off
  walk1
  exact h
noncomputable abbrev tup2 (v1 v2 : Value) : Obj := { cls := .type "tuple", data := .seq [v1, v2].toArray }
noncomputable def PairsIn (news : List (Addr × Obj)) : List Value → List (Int × Int) → Prop
  | [], [] => True
  | v :: vs, p :: ps => (∃ (a : Addr) (ta tb : Tok), v = .ref a ∧ (a, tup2 (.int p.1 ta) (.int p.2 tb)) ∈ news) ∧ PairsIn news vs ps
  | _, _ => False
theorem PairsIn.mono {n1 n2 : List (Addr × Obj)} (h : ∀ q ∈ n1, q ∈ n2) : ∀ {vs : List Value} {ps : List (Int × Int)}, PairsIn n1 vs ps → PairsIn n2 vs ps
  | [], [], _ => trivial
  | _ :: _, _ :: _, ⟨⟨a, ta, tb, e, m⟩, r⟩ => ⟨⟨a, ta, tb, e, h _ m⟩, r.mono h⟩
  | [], _ :: _, x => x.elim
  | _ :: _, [], x => x.elim
theorem PairsIn.len {n1 : List (Addr × Obj)} : ∀ {vs : List Value} {ps : List (Int × Int)}, PairsIn n1 vs ps → vs.length = ps.length
  | [], [], _ => rfl
  | _ :: _, _ :: _, ⟨_, r⟩ => congrArg (· + 1) r.len
  | [], _ :: _, x => x.elim
  | _ :: _, [], x => x.elim
theorem PairsIn.snoc {n1 : List (Addr × Obj)} {a : Addr} {x y : Int} {ta tb : Tok} (m : (a, tup2 (.int x ta) (.int y tb)) ∈ n1) : ∀ {vs : List Value} {ps : List (Int × Int)}, PairsIn n1 vs ps → PairsIn n1 (vs ++ [.ref a]) (ps ++ [(x, y)])
  | [], [], _ => ⟨⟨a, ta, tb, rfl, m⟩, trivial⟩
  | _ :: _, _ :: _, ⟨q, r⟩ => ⟨q, r.snoc m⟩
  | [], _ :: _, x => x.elim
  | _ :: _, [], x => x.elim

noncomputable def cost : Nat → Nat
  | 0 => 31
  | n + 1 => 34 + 3 * cost n

noncomputable abbrev led4 (d : Addr) (o : Obj) (pa : Addr) (pv : List Value) (np : Nat) (ra : Addr) (rv : List Value) (nr : Nat) (c : Addr) (vs : List Value) (nc : Nat) (rest : List (Addr × Obj)) : List (Addr × Obj) :=
  (d, o) :: (pa, listOf pv.toArray np) :: (ra, listOf rv.toArray nr) :: (c, listOf vs.toArray nc) :: rest

/-- what a call makes lies above all that the ledger held -/
noncomputable def FreshTl (tl : List (Addr × Obj)) (d pa ra c : Addr) (rest : List (Addr × Obj)) : Prop :=
  ∀ q ∈ tl, @LT.lt Nat _ d q.1 ∧ @LT.lt Nat _ pa q.1 ∧ @LT.lt Nat _ ra q.1 ∧ @LT.lt Nat _ c q.1 ∧ ∀ r ∈ rest, @LT.lt Nat _ r.1 q.1

theorem off_tl {tl rest : List (Addr × Obj)} {b : Addr} (h : ∀ q ∈ tl, @LT.lt Nat _ b q.1) (r : ∀ q ∈ rest, q.1 ≠ b) : ∀ q ∈ tl ++ rest, q.1 ≠ b := fun q hq e => by
  rcases List.mem_append.mp hq with x | x
  · exact Nat.lt_irrefl _ (e ▸ h q x)
  · exact r q x e
theorem rest_lt {D : Addr} {l : List (Addr × Obj)} (h : AllLt D l) : ∀ q ∈ l, @LT.lt Nat _ q.1 D := by
  induction l with
  | nil => exact fun q hq => nomatch hq
  | cons p r ih =>
    intro q hq
    rcases List.mem_cons.mp hq with rfl | hq
    · exact h.1
    · exact ih h.2 q hq
theorem allLt_in {D : Addr} {l : List (Addr × Obj)} (h : ∀ q ∈ l, @LT.lt Nat _ q.1 D) : AllLt D l := by
  induction l with
  | nil => trivial
  | cons p r ih => exact ⟨h p (.head _), ih fun q hq => h q (.tail _ hq)⟩
theorem FreshTl.nil {d pa ra c : Addr} {rest : List (Addr × Obj)} : FreshTl [] d pa ra c rest := fun _ hq => nomatch hq
/-- two calls one behind the other -/
theorem FreshTl.app {t1 t2 : List (Addr × Obj)} {d pa ra c : Addr} {rest more : List (Addr × Obj)} (h1 : FreshTl t1 d pa ra c rest) (h2 : FreshTl t2 d pa ra c more) (hm : ∀ q ∈ rest, q ∈ more) : FreshTl (t2 ++ t1) d pa ra c rest := fun q hq => by
  rcases List.mem_append.mp hq with x | x
  · obtain ⟨a, b, c, d, e⟩ := h2 q x
    exact ⟨a, b, c, d, fun r hr => e r (hm r hr)⟩
  · exact h1 q x
theorem FreshTl.cons {t1 : List (Addr × Obj)} {D d pa ra c : Addr} {o : Obj} {rest more : List (Addr × Obj)} (h1 : FreshTl t1 d pa ra c rest) (l : @LT.lt Nat _ d D ∧ @LT.lt Nat _ pa D ∧ @LT.lt Nat _ ra D ∧ @LT.lt Nat _ c D ∧ AllLt D more) (hm : ∀ q ∈ rest, q ∈ more) : FreshTl ((D, o) :: t1) d pa ra c rest := fun q hq => by
  rcases List.mem_cons.mp hq with rfl | x
  · exact ⟨l.1, l.2.1, l.2.2.1, l.2.2.2.1, fun r hr => rest_lt l.2.2.2.2 r (hm r hr)⟩
  · exact h1 q x
theorem news_sub {h₀ h : Heap} {L : Addr} {n1 n2 : List (Addr × Obj)} (N : News h₀ L h n1) (hs : ∀ q ∈ n2, q ∈ n1) : News h₀ L h n2 := fun q hq => N q (hs q hq)

section
variable (w : World) (cells : List Int) (f : Addr) (n : Nat) (k u : Nat) (G : Gen)
/-- what a builder's call hands on -/
noncomputable abbrev GenRet (h₀ : Heap) (L : Addr) (m : Str → Option Value) (s : Shared) (Q : Value → Shared → Prop) (d c pa ra : Addr) (rest bs : List (Addr × Obj)) (pl lf b : Int) (ps rs : List (Int × Int)) (vs : List Value) (nc : Nat) : Prop :=
    (∀ (x : Str) (pl' lf' : Int) (ps' rs' : List (Int × Int)) (pv' rv' : List Value) (np' nr' : Nat) (tl : List (Addr × Obj)) (t : Tok) (h' : Heap) (tk' : Nat) (o' : Obj) (t1' t2' : Tok),
      G b ⟨pl, lf, ps, rs⟩ = (x, ⟨pl', lf', ps', rs'⟩) → x.length ≤ k → pl ≤ pl' → pl' ≤ pl + k → ps'.length ≤ ps.length + k → rs'.length ≤ rs.length + k →
      Fr h₀ L h' m → News h₀ L h' (led4 d o' pa pv' np' ra rv' nr' c vs nc (tl ++ rest)) → o'.IsDictOf (strKind PG w) (feedL c pa ra pl' lf' t1' t2') →
      PairsIn (tl ++ bs) pv' ps' → PairsIn (tl ++ bs) rv' rs' → FreshTl tl d pa ra c rest →
      Q (.str x t) { s with heap := h', toks := tk' })

/-- the call of one of the law's builders at a depth: it hands back the plain reading's text and leaves the plain reading's state -/
noncomputable def GenSpec : Prop :=
  ∀ (p : Program) (loose : List Str) (mean : ExcName → Option Value) (mg mb : Str → Option Value) (dp un : Nat) (gd : Option (List Code)) (cn : Str) (cs : Scope) (a : Addr) (ccd : Value) (cl : List (Str × Addr)) (outer : List Env)
    (A₀ : Around) (base h₀ : Heap) (L : Addr) (m : Str → Option Value) (s : Shared) (Q E : Value → Shared → Prop)
    (d c pa ra : Addr) (o : Obj) (rest bs : List (Addr × Obj)) (pl lf b : Int) (ps rs : List (Int × Int)) (pv rv vs : List Value) (np nr nc : Nat) (t1 t2 tb tf : Tok),
    Below A₀ base outer h₀ → Fr h₀ L s.heap m → (KK w.params).In h₀ → News h₀ L s.heap (led4 d o pa pv np ra rv nr c vs nc rest) → Top p loose mean mg mb h₀ → cs.kind = .function →
    o.IsDictOf (strKind PG w) (feedL c pa ra pl lf t1 t2) → @Ne Nat pa d → @Ne Nat ra d → @Ne Nat c d → @Ne Nat ra pa → @Ne Nat c pa → @Ne Nat c ra →
    (∀ q ∈ rest, q.1 ≠ d) → (∀ q ∈ rest, q.1 ≠ pa) → (∀ q ∈ rest, q.1 ≠ ra) →
    IntsAre vs cells → cells.length ≤ 60 → PairsIn bs pv ps → PairsIn bs rv rs →
    0 ≤ pl → pl + k ≤ 90000 → ps.length + k ≤ 90000 → rs.length + k ≤ 90000 → 0 ≤ b → b + k ≤ 90000 → dp + u < recursionLimit →
    GenRet w k G h₀ L m s Q d c pa ra rest bs pl lf b ps rs vs nc →
    wpAny (model PG w) (ktrTop dp un gd cn cs L a ccd cl outer) (call (.ref f) [.ref d, .int b tb, .int n tf]) Q E s
end
section
variable {w : World} {cells : List Int} {f : Addr} {n : Nat} {k u : Nat} {G : Gen}
theorem gen_use (hG : GenSpec w cells f n k u G) {p : Program} {loose : List Str} {mean : ExcName → Option Value} {mg mb : Str → Option Value} {dp un : Nat} {gd : Option (List Code)} {cn : Str} {cs : Scope} {a : Addr} {ccd : Value} {cl : List (Str × Addr)} {outer : List Env}
    {A₀ : Around} {base h₀ : Heap} {L : Addr} {m : Str → Option Value} {s : Shared} {Q E : Value → Shared → Prop}
    {d c pa ra : Addr} {o : Obj} {rest bs : List (Addr × Obj)} {pl lf b nn : Int} {ps rs : List (Int × Int)} {pv rv vs : List Value} {np nr nc : Nat} {t1 t2 tb tf : Tok}
    (B : Below A₀ base outer h₀) (F : Fr h₀ L s.heap m) (X : (KK w.params).In h₀) (N : News h₀ L s.heap (led4 d o pa pv np ra rv nr c vs nc rest)) (T : Top p loose mean mg mb h₀) (hk : cs.kind = .function)
    (hd : o.IsDictOf (strKind PG w) (feedL c pa ra pl lf t1 t2)) (n1 : @Ne Nat pa d) (n2 : @Ne Nat ra d) (n3 : @Ne Nat c d) (n4 : @Ne Nat ra pa) (n5 : @Ne Nat c pa) (n6 : @Ne Nat c ra)
    (r1 : ∀ q ∈ rest, q.1 ≠ d) (r2 : ∀ q ∈ rest, q.1 ≠ pa) (r3 : ∀ q ∈ rest, q.1 ≠ ra)
    (hI : IntsAre vs cells) (hcl : cells.length ≤ 60) (hps : PairsIn bs pv ps) (hrs : PairsIn bs rv rs) (en : nn = n)
    (h0 : 0 ≤ pl) (h1 : pl + k ≤ 90000) (h2 : ps.length + k ≤ 90000) (h3 : rs.length + k ≤ 90000) (h4 : 0 ≤ b) (h5 : b + k ≤ 90000) (hdp : dp + u < recursionLimit)
    (hret : ∀ (x : Str) (pl' lf' : Int) (ps' rs' : List (Int × Int)) (pv' rv' : List Value) (np' nr' : Nat) (tl rest' bs' : List (Addr × Obj)) (t : Tok) (h' : Heap) (tk' : Nat) (o' : Obj) (t1' t2' : Tok),
      rest' = tl ++ rest → bs' = tl ++ bs → FreshTl tl d pa ra c rest →
      G b ⟨pl, lf, ps, rs⟩ = (x, ⟨pl', lf', ps', rs'⟩) → x.length ≤ k → pl ≤ pl' → pl' ≤ pl + k → ps'.length ≤ ps.length + k → rs'.length ≤ rs.length + k →
      Fr h₀ L h' m → News h₀ L h' ((d, o') :: (pa, listOf pv'.toArray np') :: (ra, listOf rv'.toArray nr') :: (c, listOf vs.toArray nc) :: rest') →
      o'.IsDictOf (strKind PG w) [("cells", .ref c), ("place", .int pl' t1'), ("left", .int lf' t2'), ("pairs", .ref pa), ("remarks", .ref ra)] →
      PairsIn bs' pv' ps' → PairsIn bs' rv' rs' → pv'.length = ps'.length → rv'.length = rs'.length → (∀ q ∈ rest', q.1 ≠ d) → (∀ q ∈ rest', q.1 ≠ pa) → (∀ q ∈ rest', q.1 ≠ ra) →
      Q (.str x t) { s with heap := h', toks := tk' }) :
    wpAny (model PG w) (ktrTop dp un gd cn cs L a ccd cl outer) (call (.ref f) [.ref d, .int b tb, .int nn tf]) Q E s := by
  subst en
  refine hG _ _ _ _ _ _ _ _ _ _ _ _ _ _ _ _ _ _ _ _ _ _ _ _ _ _ _ _ _ _ _ _ _ _ _ _ _ _ _ _ _ _ _ _ B F X N T hk hd n1 n2 n3 n4 n5 n6 r1 r2 r3 hI hcl hps hrs h0 h1 h2 h3 h4 h5 hdp ?_
  intro x pl' lf' ps' rs' pv' rv' np' nr' tl t h' tk' o' t1' t2' e1 e2 e3 e4 e5 e6 F9 N9 hd9 hp9 hr9 htl
  exact hret x pl' lf' ps' rs' pv' rv' np' nr' tl _ _ t h' tk' o' t1' t2' rfl rfl htl e1 e2 e3 e4 e5 e6 F9 N9 hd9 hp9 hr9 hp9.len hr9.len
    (off_tl (fun q hq => (htl q hq).1) r1) (off_tl (fun q hq => (htl q hq).2.1) r2) (off_tl (fun q hq => (htl q hq).2.2.1) r3)
theorem gen_useP (hG : 0 < n → GenSpec w cells f (n - 1) k u G) (hn : 0 < n) {p : Program} {loose : List Str} {mean : ExcName → Option Value} {mg mb : Str → Option Value} {dp un : Nat} {gd : Option (List Code)} {cn : Str} {cs : Scope} {a : Addr} {ccd : Value} {cl : List (Str × Addr)} {outer : List Env}
    {A₀ : Around} {base h₀ : Heap} {L : Addr} {m : Str → Option Value} {s : Shared} {Q E : Value → Shared → Prop}
    {d c pa ra : Addr} {o : Obj} {rest bs : List (Addr × Obj)} {pl lf b nn : Int} {ps rs : List (Int × Int)} {pv rv vs : List Value} {np nr nc : Nat} {t1 t2 tb tf : Tok}
    (B : Below A₀ base outer h₀) (F : Fr h₀ L s.heap m) (X : (KK w.params).In h₀) (N : News h₀ L s.heap (led4 d o pa pv np ra rv nr c vs nc rest)) (T : Top p loose mean mg mb h₀) (hk : cs.kind = .function)
    (hd : o.IsDictOf (strKind PG w) (feedL c pa ra pl lf t1 t2)) (n1 : @Ne Nat pa d) (n2 : @Ne Nat ra d) (n3 : @Ne Nat c d) (n4 : @Ne Nat ra pa) (n5 : @Ne Nat c pa) (n6 : @Ne Nat c ra)
    (r1 : ∀ q ∈ rest, q.1 ≠ d) (r2 : ∀ q ∈ rest, q.1 ≠ pa) (r3 : ∀ q ∈ rest, q.1 ≠ ra)
    (hI : IntsAre vs cells) (hcl : cells.length ≤ 60) (hps : PairsIn bs pv ps) (hrs : PairsIn bs rv rs) (en : nn = ((n - 1 : Nat) : Int))
    (h0 : 0 ≤ pl) (h1 : pl + k ≤ 90000) (h2 : ps.length + k ≤ 90000) (h3 : rs.length + k ≤ 90000) (h4 : 0 ≤ b) (h5 : b + k ≤ 90000) (hdp : dp + u < recursionLimit)
    (hret : ∀ (x : Str) (pl' lf' : Int) (ps' rs' : List (Int × Int)) (pv' rv' : List Value) (np' nr' : Nat) (tl rest' bs' : List (Addr × Obj)) (t : Tok) (h' : Heap) (tk' : Nat) (o' : Obj) (t1' t2' : Tok),
      rest' = tl ++ rest → bs' = tl ++ bs → FreshTl tl d pa ra c rest →
      G b ⟨pl, lf, ps, rs⟩ = (x, ⟨pl', lf', ps', rs'⟩) → x.length ≤ k → pl ≤ pl' → pl' ≤ pl + k → ps'.length ≤ ps.length + k → rs'.length ≤ rs.length + k →
      Fr h₀ L h' m → News h₀ L h' ((d, o') :: (pa, listOf pv'.toArray np') :: (ra, listOf rv'.toArray nr') :: (c, listOf vs.toArray nc) :: rest') →
      o'.IsDictOf (strKind PG w) [("cells", .ref c), ("place", .int pl' t1'), ("left", .int lf' t2'), ("pairs", .ref pa), ("remarks", .ref ra)] →
      PairsIn bs' pv' ps' → PairsIn bs' rv' rs' → pv'.length = ps'.length → rv'.length = rs'.length → (∀ q ∈ rest', q.1 ≠ d) → (∀ q ∈ rest', q.1 ≠ pa) → (∀ q ∈ rest', q.1 ≠ ra) →
      Q (.str x t) { s with heap := h', toks := tk' }) :
    wpAny (model PG w) (ktrTop dp un gd cn cs L a ccd cl outer) (call (.ref f) [.ref d, .int b tb, .int nn tf]) Q E s :=
  gen_use (hG hn) B F X N T hk hd n1 n2 n3 n4 n5 n6 r1 r2 r3 hI hcl hps hrs en h0 h1 h2 h3 h4 h5 hdp hret
end

theorem int_join {M : Model} {A : Around} {E : Value → Shared → Prop} {s : Shared} {env : Env} {e : PySem.Expr} {Q : Value → Shared → Prop} (v : Int)
    (h1 : wpAny M A (eval e env) (fun x s' => ∃ t tk, x = .int v t ∧ s' = { s with toks := tk }) E s) (h2 : ∀ t tk, Q (.int v t) { s with toks := tk }) : wpAny M A (eval e env) Q E s :=
  wpAny_mono h1 (by rintro _ _ ⟨t, tk, rfl, rfl⟩; exact h2 t tk) fun _ _ h => h
theorem lots {n : Nat} {deep : Bool} {lf a b : Int} (hdeep : deep = true ↔ 0 < n) : ∃ many : Int, (if deep = true ∧ 0 < lf then a else b) = many ∧ ((many = a ∧ 0 < n) ∨ many = b) := by
  refine ⟨_, rfl, ?_⟩
  split
  · exact .inl ⟨rfl, hdeep.mp ‹_ ∧ _›.1⟩
  · exact .inr rfl
theorem lots_val {n : Nat} {deep : Bool} {lf a b : Int} {c : Int} {t : Tok} (hdeep : deep = true ↔ 0 < n) (hc : (0 < n ∧ 0 < lf ∧ c = a) ∨ (¬ (0 < n ∧ 0 < lf) ∧ c = b)) :
    Value.int c t = .int (if deep = true ∧ 0 < lf then a else b) t := by
  rcases hc with ⟨h1, h2, rfl⟩ | ⟨h, rfl⟩
  · rw [if_pos ⟨hdeep.mpr h1, h2⟩]
  · rw [if_neg fun q => h ⟨hdeep.mp q.1, q.2⟩]
section
theorem part_end {w : World} {k : Nat} {G : Gen} {h₀ : Heap} {L : Addr} {m : Str → Option Value} {s : Shared} {Q : Value → Shared → Prop} {d c pa ra D : Addr} {o' : Obj} {rest bs tl rest9 bs9 : List (Addr × Obj)} {pl lf b pl' lf' : Int} {ps rs ps' rs' : List (Int × Int)} {vs pv' rv' : List Value} {nc np' nr' : Nat} {t1' t2' tb tq t : Tok} {x : Str} {h' : Heap} {tk' : Nat}
    (hret : GenRet w (k + 1) (partF G) h₀ L m s Q d c pa ra rest bs pl lf b ps rs vs nc)
    (e1 : G b ⟨pl, lf - 1, ps, rs⟩ = (x, ⟨pl', lf', ps', rs'⟩)) (e2 : x.length ≤ k) (e3 : pl ≤ pl') (e4 : pl' ≤ pl + k) (e5 : ps'.length ≤ ps.length + k) (e6 : rs'.length ≤ rs.length + k)
    (F : Fr h₀ L h' m) (N : News h₀ L h' ((D, tup2 (.int b tb) (.int (b + x.length) tq)) :: (d, o') :: (pa, listOf (pv'.toArray.push (.ref D)) (np' + 1)) :: (ra, listOf rv'.toArray nr') :: (c, listOf vs.toArray nc) :: rest9)) (hrest : rest9 = tl ++ rest) (hbs : bs9 = tl ++ bs)
    (l1 : @LT.lt Nat _ d D ∧ @LT.lt Nat _ pa D ∧ @LT.lt Nat _ ra D ∧ @LT.lt Nat _ c D ∧ AllLt D rest9)
    (hd : o'.IsDictOf (strKind PG w) (feedL c pa ra pl' lf' t1' t2')) (hp9 : PairsIn bs9 pv' ps') (hr9 : PairsIn bs9 rv' rs')
    (htl : FreshTl tl d pa ra c rest) : Q (.str (x ++ Str.ofString ")") t) { s with heap := h', toks := tk' } := by
  subst hrest
  subst hbs
  refine hret (x ++ Str.ofString ")") pl' lf' (ps' ++ [(b, b + x.length)]) rs' (pv' ++ [.ref D]) rv' (np' + 1) nr' ((D, tup2 (.int b tb) (.int (b + x.length) tq)) :: tl) _ _ _ _ _ _ ?e ?a1 ?a2 ?a3 ?a4 ?a5 F ?N hd ?p1 ?p2 ?lt
  case e => show partF G b ⟨pl, lf, ps, rs⟩ = _; unfold partF; simp only [e1]
  case a1 =>
    show (x.cps ++ _).size ≤ _
    rw [Array.size_append]
    have a : x.cps.size ≤ k := e2
    have b : (Str.ofString ")").cps.size = 1 := by decide +kernel
    omega
  case a2 => omega
  case a3 => omega
  case a4 => rw [List.length_append, List.length_singleton]; omega
  case a5 => omega
  case N =>
    intro q hq
    refine N q ?_
    simp only [led4, List.mem_cons, List.cons_append, List.push_toArray] at hq ⊢
    rcases hq with h | h | h | h | h | h <;> simp only [h, true_or, or_true]
  case p1 => exact PairsIn.snoc (.head _) (hp9.mono fun q hq => .tail _ hq)
  case p2 => exact hr9.mono fun q hq => .tail _ hq
  case lt => exact htl.cons l1 fun q hq => List.mem_append_right _ hq

theorem part_spec {w : World} {cells : List Int} {n k u : Nat} {G : Gen} (hG : GenSpec w cells 194 n k u G) : GenSpec w cells 189 n (k + 1) (u + 1) (partF G) := by
  intro p loose mean mg mb dp un gd cn cs a ccd cl outer A₀ base h₀ L m s Q E d c pa ra o rest bs pl lf b ps rs pv rv vs np nr nc t1 t2 tb tf B F X N T hk hd n1 n2 n3 n4 n5 n6 r1 r2 r3 hI hcl hps hrs h0 h1 h2 h3 h4 h5 hdp hret
  dsimp only [led4, feedL] at N hd
  refine wpAny_call ?_
  k_dflt ktr_enter
  k_with_none
  k_with "execs cons" => (first | (k_here; k_gentoks) | ((with_reducible refine wpAny_execs_cons ?_); (try dsimp only); (try k_fold)))
  k_with "setItem ref str" => (k_here; k_dflt (refine kda_set (knd := PySem.strKind _ _) (by k_asm) (by k_asm) (by k_updF) (by k_asm) (strKind_is _ _ _ _) (by kob_size) ?_); intro hq₉ oq₉ Fq₉ Nq₉ hdq₉; (try kob_lit); (try dsimp only at Nq₉))
  k_steps
  k_dflt (refine' gen_use hG ?B ?F ?X ?N ?T ?hk ?hd n1 n2 n3 n4 n5 n6 r1 r2 r3 hI hcl hps hrs rfl ?h0 ?h1 ?h2 ?h3 ?h4 ?h5 ?hdp ?_)
  case B => k_asm
  case F => k_asm
  case X => k_asm
  case N => k_asm
  case T => k_asm
  case hk => exact rfl
  case hd => k_asm
  case h0 => omega
  case h1 => omega
  case h2 => omega
  case h3 => omega
  case h4 => omega
  case h5 => omega
  case hdp => show dp + 1 + u < _; omega
  intro x pl' lf' ps' rs' pv' rv' np' nr' tl rest9 bs9 t h' tk' o' t1' t2' hrest hbs htl e1 e2 e3 e4 e5 e6 F9 N9 hd9 hp9 hr9 hpl hrl r1' r2' r3'
  k_steps
  exact part_end hret e1 e2 e3 e4 e5 e6 (by k_asm) (by assumption) hrest hbs (by assumption) (by k_asm) hp9 hr9 htl
end
theorem calm3 {M : Model} {A : Around} {E : Value → Shared → Prop} {s : Shared} {env : Env} {Q : Flow → Shared → Prop} (h : Q .next s) : wpAny M A (execs [] env) Q E s := by
  k_with_none
  w_top off
  walk1
  exact h
section
variable {cells : List Int} {quoted part : Gen} {deep : Bool} {b pl lf many : Int} {ps rs : List (Int × Int)} {x : Str}
theorem quotLap_0 (hm : (if deep = true ∧ 0 < lf then 3 else 2) = many) (hw : dipV cells pl many = 0) :
    quotLap cells part deep b (x, ⟨pl, lf, ps, rs⟩) = (x ++ pick mLone (dipV cells (pl + 1) 7), ⟨pl + 1 + 1, lf, ps, rs⟩) := by
  subst hm; simp [quotLap, hw, St.next]
theorem quotLap_1 (hm : (if deep = true ∧ 0 < lf then 3 else 2) = many) (hw : dipV cells pl many = 1) :
    quotLap cells part deep b (x, ⟨pl, lf, ps, rs⟩) = (x ++ pick mEscaped (dipV cells (pl + 1) 4), ⟨pl + 1 + 1, lf, ps, rs⟩) := by
  subst hm; simp [quotLap, hw, St.next]
theorem quotLap_2 (hm : (if deep = true ∧ 0 < lf then 3 else 2) = many) (h0 : dipV cells pl many ≠ 0) (h1 : dipV cells pl many ≠ 1) {y : Str} {st : St}
    (hp : part (b + x.length + 2) ⟨pl + 1, lf, ps, rs⟩ = (y, st)) :
    quotLap cells part deep b (x, ⟨pl, lf, ps, rs⟩) = (x ++ "\\(" ++ y, st) := by
  subst hm; simp [quotLap, h0, h1, St.next, hp]
theorem codeLap_0 (hm : (if deep = true ∧ 0 < lf then 5 else 3) = many) (hw : dipV cells pl many = 0) :
    codeLap cells quoted part deep b (x, ⟨pl, lf, ps, rs⟩) = (x ++ pick mPlain (dipV cells (pl + 1) 7), ⟨pl + 1 + 1, lf, ps, rs⟩) := by
  subst hm; simp [codeLap, hw, St.next]
theorem codeLap_3 (hm : (if deep = true ∧ 0 < lf then 5 else 3) = many) (hw : dipV cells pl many = 3) {y : Str} {st : St}
    (hq : quoted (b + x.length + 1) ⟨pl + 1, lf - 1, ps, rs⟩ = (y, st)) :
    codeLap cells quoted part deep b (x, ⟨pl, lf, ps, rs⟩) = (x ++ "\"" ++ y ++ "\"", st) := by
  subst hm; simp [codeLap, hw, St.next, hq]
theorem codeLap_4 (hm : (if deep = true ∧ 0 < lf then 5 else 3) = many) (hw : dipV cells pl many = 4) {y : Str} {st : St}
    (hp : part (b + x.length + 1) ⟨pl + 1, lf, ps, rs⟩ = (y, st)) :
    codeLap cells quoted part deep b (x, ⟨pl, lf, ps, rs⟩) = (x ++ "(" ++ y, st) := by
  subst hm; simp [codeLap, hw, St.next, hp]
theorem codeLap_1 (hm : (if deep = true ∧ 0 < lf then 5 else 3) = many) (hw : dipV cells pl many = 1) {l : List Str} {st : St}
    (hs : signsF cells (dipV cells (pl + 1) 4).toNat ⟨pl + 1 + 1, lf, ps, rs⟩ = (l, st)) :
    codeLap cells quoted part deep b (x, ⟨pl, lf, ps, rs⟩) = (x ++ ("%" ++ Str.join Str.empty l ++ "\n"), st) := by
  subst hm; simp [codeLap, hw, St.next, hs]
theorem codeLap_2 (hm : (if deep = true ∧ 0 < lf then 5 else 3) = many) (hw : dipV cells pl many = 2) {l : List Str} {st : St}
    (hs : signsF cells (dipV cells (pl + 1) 4).toNat ⟨pl + 1 + 1, lf, ps, rs⟩ = (l, st)) :
    codeLap cells quoted part deep b (x, ⟨pl, lf, ps, rs⟩) = (x ++ ("/*" ++ Str.join Str.empty l ++ "*/"), { st with remarks := st.remarks ++ [(b + x.length, b + (x ++ (("/*" : Str) ++ Str.join Str.empty l ++ "*/")).length)] }) := by
  subst hm; simp [codeLap, hw, St.next, hs]
end
section
variable {w : World} {h : Heap}
theorem menu_plain (X : (KK w.params).In h) : ∃ vs, IsTup h 172 vs.toArray ∧ StrsAre vs mPlain := by
  refine ⟨_, ⟨_, X 172 _ (by k_is), rfl, _, rfl⟩, ?_⟩
  exact .cons _ _ (.cons _ _ (.cons _ _ (.cons _ _ (.cons _ _ (.cons _ _ (.cons _ _ .nil))))))
theorem menu_hidden (X : (KK w.params).In h) : ∃ vs, IsTup h 173 vs.toArray ∧ StrsAre vs mHidden := by
  refine ⟨_, ⟨_, X 173 _ (by k_is), rfl, _, rfl⟩, ?_⟩
  exact .cons _ _ (.cons _ _ (.cons _ _ (.cons _ _ (.cons _ _ (.cons _ _ (.cons _ _ .nil))))))
theorem menu_lone (X : (KK w.params).In h) : ∃ vs, IsTup h 174 vs.toArray ∧ StrsAre vs mLone := by
  refine ⟨_, ⟨_, X 174 _ (by k_is), rfl, _, rfl⟩, ?_⟩
  exact .cons _ _ (.cons _ _ (.cons _ _ (.cons _ _ (.cons _ _ (.cons _ _ (.cons _ _ .nil))))))
theorem menu_escaped (X : (KK w.params).In h) : ∃ vs, IsTup h 175 vs.toArray ∧ StrsAre vs mEscaped := by
  refine ⟨_, ⟨_, X 175 _ (by k_is), rfl, _, rfl⟩, ?_⟩
  exact .cons _ _ (.cons _ _ (.cons _ _ (.cons _ _ .nil)))
end
theorem pick_len {ws : List Str} {k : Nat} (hw : (ws.all fun x => decide (x.length ≤ k)) = true) (i : Int) : (pick ws i).length ≤ k := by
  unfold pick
  rw [List.getD_eq_getElem?_getD]
  cases q : ws[i.toNat]? with
  | none => exact Nat.zero_le _
  | some x => exact of_decide_eq_true (List.all_eq_true.mp hw x (List.mem_of_getElem? q))
theorem menu_item {prog : Program} {w : World} {A : Around} {E : Value → Shared → Prop} {s : Shared} {value slice : PySem.Expr} {l : Addr} {ws : List Str} {i : Int} {u : Tok} {Q : Value → Shared → Prop}
    (hm : ∃ vs, IsTup s.heap l vs.toArray ∧ StrsAre vs ws) (hw : (ws.all fun x => decide (x.length ≤ 3)) = true) (h0 : 0 ≤ i) (h1 : i < (ws.length : Int)) (hfit : i < 2 ^ 63) (h : ∀ t', (pick ws i).length ≤ 3 → Q (.str (pick ws i) t') s)
    (hs : subscripted slice false (.ref l) (.int i u) = operate [.ref l, .int i u] (getItem (.ref l) (.int i u)) := by with_unfolding_all rfl) :
    wpAny (model prog w) A (subscriptTail value slice (.ref l) (.int i u)) Q E s := by
  obtain ⟨vs, ht, hv⟩ := hm
  exact KTb.item_tup ht hv h0 h1 hfit (fun t' _ => h t' (pick_len hw i)) hs
theorem mPlain_len : (mPlain.all fun x => decide (x.length ≤ 3)) = true := by decide +kernel
theorem mHidden_len : (mHidden.all fun x => decide (x.length ≤ 3)) = true := by decide +kernel
theorem mLone_len : (mLone.all fun x => decide (x.length ≤ 3)) = true := by decide +kernel
theorem mEscaped_len : (mEscaped.all fun x => decide (x.length ≤ 3)) = true := by decide +kernel

section
variable (w : World) (h₀ : Heap) (L : Addr) (lapF : Str × St → Str × St) (lc : Nat) (stored : List Str) (m₀ : Str → Option Value) (d c pa ra : Addr) (vs : List Value) (nc : Nat) (R bs : List (Addr × Obj)) (x : Str) (pl lf : Int) (ps rs : List (Int × Int))
noncomputable def LapEnd (s₁ s₂ : Shared) : Prop :=
  ∃ (h' : Heap) (tk : Nat) (m' : Str → Option Value) (x' : Str) (tx' : Tok) (pl' lf' : Int) (ps' rs' : List (Int × Int)) (pv' rv' : List Value) (np' nr' : Nat) (tl : List (Addr × Obj)) (o' : Obj) (t1' t2' : Tok),
    s₂ = { s₁ with heap := h', toks := tk } ∧ Fr h₀ L h' m' ∧ News h₀ L h' (led4 d o' pa pv' np' ra rv' nr' c vs nc (tl ++ R)) ∧ m' "text" = some (.str x' tx') ∧
    (∀ z : Str, z ≠ "lap" → z ≠ "text" → stored.contains z = false → m' z = m₀ z) ∧ lapF (x, ⟨pl, lf, ps, rs⟩) = (x', ⟨pl', lf', ps', rs'⟩) ∧
    (x'.length ≤ x.length + lc ∧ pl ≤ pl' ∧ pl' ≤ pl + lc ∧ ps'.length ≤ ps.length + lc ∧ rs'.length ≤ rs.length + lc) ∧ o'.IsDictOf (strKind PG w) (feedL c pa ra pl' lf' t1' t2') ∧
    PairsIn (tl ++ bs) pv' ps' ∧ PairsIn (tl ++ bs) rv' rs' ∧ FreshTl tl d pa ra c R
noncomputable def LapPost (Q : Flow → Shared → Prop) (s₁ : Shared) (f : Flow) (s₂ : Shared) : Prop :=
  match f with
  | .ret v => Q (.ret v) s₂
  | .brk => Q .next s₂
  | _ => LapEnd w h₀ L lapF lc stored m₀ d c pa ra vs nc R bs x pl lf ps rs s₁ s₂
end
theorem laps_succ (f : Str × St → Str × St) (n i : Nat) (hi : i < n) (y : Str × St) : laps f (n - i) y = laps f (n - (i + 1)) (f y) := by
  obtain ⟨j, hj⟩ : ∃ j, n - i = j + 1 := ⟨n - i - 1, by omega⟩
  rw [hj, show n - (i + 1) = j by omega]
  rfl

theorem gen_loop {w : World} {A : Around} {E : Value → Shared → Prop} {s : Shared} {env : Env} {h₀ : Heap} {body : List Stmt} {Q : Flow → Shared → Prop}
    (lapF : Str × St → Str × St) (lc : Nat) (stored : List Str) {r : Addr} {b₀ : Int} {t₀ u₀ v₀ : Tok} {m₀ : Str → Option Value} {d c pa ra : Addr} {o : Obj} {rest bs : List (Addr × Obj)} {x0 : Str} {pl lf : Int} {ps rs : List (Int × Int)} {pv rv vs : List Value} {np nr nc : Nat} {t1 t2 tx : Tok}
    (hh : A.handled = none) (hr : IsRange s.heap r 0 b₀ 1 t₀ u₀ v₀) (hb0 : 0 ≤ b₀) (hb3 : b₀ < 4)
    (F : Fr h₀ env.locals s.heap m₀) (N : News h₀ env.locals s.heap (led4 d o pa pv np ra rv nr c vs nc rest)) (hd : o.IsDictOf (strKind PG w) (feedL c pa ra pl lf t1 t2)) (htx : m₀ "text" = some (.str x0 tx))
    (n1 : @Ne Nat pa d) (n2 : @Ne Nat ra d) (n3 : @Ne Nat c d) (n4 : @Ne Nat ra pa) (n5 : @Ne Nat c pa) (n6 : @Ne Nat c ra)
    (r1 : ∀ q ∈ rest, q.1 ≠ d) (r2 : ∀ q ∈ rest, q.1 ≠ pa) (r3 : ∀ q ∈ rest, q.1 ≠ ra) (hps : PairsIn bs pv ps) (hrs : PairsIn bs rv rs)
    (turn : ∀ (i : Nat) (t : Tok) (x : Str) (tx : Tok) (pl' lf' : Int) (ps' rs' : List (Int × Int)) (pv' rv' : List Value) (np' nr' : Nat) (o' : Obj) (t1' t2' : Tok) (R' bs' : List (Addr × Obj)) (u : Str → Option Value) (h : Heap) (tk : Nat),
      i < 3 → x.length ≤ x0.length + i * lc → pl ≤ pl' → pl' ≤ pl + i * lc → ps'.length ≤ ps.length + i * lc → rs'.length ≤ rs.length + i * lc →
      (∀ q ∈ R', q.1 ≠ d) → (∀ q ∈ R', q.1 ≠ pa) → (∀ q ∈ R', q.1 ≠ ra) → (∀ q ∈ rest, q ∈ R') → PairsIn bs' pv' ps' → PairsIn bs' rv' rs' → pv'.length = ps'.length → rv'.length = rs'.length →
      Fr h₀ env.locals h (fun y => if y = "lap" then some (.int i t) else if y = "text" then some (.str x tx) else if stored.contains y then u y else m₀ y) →
      News h₀ env.locals h ((d, o') :: (pa, listOf pv'.toArray np') :: (ra, listOf rv'.toArray nr') :: (c, listOf vs.toArray nc) :: R') →
      o'.IsDictOf (strKind PG w) [("cells", .ref c), ("place", .int pl' t1'), ("left", .int lf' t2'), ("pairs", .ref pa), ("remarks", .ref ra)] →
      wpAny (model PG w) A (execs body env) (LapPost w h₀ env.locals lapF lc stored m₀ d c pa ra vs nc R' bs' x pl' lf' ps' rs' Q { s with heap := h, toks := tk }) E { s with heap := h, toks := tk })
    (done : ∀ (x' : Str) (tx' : Tok) (pl' lf' : Int) (ps' rs' : List (Int × Int)) (pv' rv' : List Value) (np' nr' : Nat) (tl : List (Addr × Obj)) (o' : Obj) (t1' t2' : Tok) (u : Str → Option Value) (h : Heap) (tk : Nat),
      laps lapF b₀.toNat (x0, ⟨pl, lf, ps, rs⟩) = (x', ⟨pl', lf', ps', rs'⟩) → x'.length ≤ x0.length + 3 * lc → pl ≤ pl' → pl' ≤ pl + 3 * lc → ps'.length ≤ ps.length + 3 * lc → rs'.length ≤ rs.length + 3 * lc →
      Fr h₀ env.locals h (fun y => if y = "lap" then u y else if y = "text" then some (.str x' tx') else if stored.contains y then u y else m₀ y) →
      News h₀ env.locals h (led4 d o' pa pv' np' ra rv' nr' c vs nc (tl ++ rest)) → o'.IsDictOf (strKind PG w) (feedL c pa ra pl' lf' t1' t2') →
      PairsIn (tl ++ bs) pv' ps' → PairsIn (tl ++ bs) rv' rs' → FreshTl tl d pa ra c rest → Q .next { s with heap := h, toks := tk }) :
    wpAny (model PG w) A (pyIter (.ref r)) (fun it s₂ => LoopAtV PG w A h₀ env "lap" body Q E it s₂) E s := by
  obtain ⟨n, rfl⟩ : ∃ n : Nat, b₀ = n := ⟨b₀.toNat, by omega⟩
  have hn3 : n ≤ 3 := by omega
  have hlap : ("lap" : Str) ≠ "text" := by decide
  have fr (m₁ : Str → Option Value) (v : Str → Option Value) (x : Str) (tx : Tok) (hx : m₁ "text" = some (.str x tx)) (hm : ∀ z : Str, z ≠ "lap" → z ≠ "text" → stored.contains z = false → m₁ z = m₀ z) :
      (fun y : Str => if y = ("lap" : Str) then v y else m₁ y) = fun y : Str => if y = "lap" then v y else if y = "text" then some (.str x tx) else if stored.contains y then m₁ y else m₀ y := by
    funext y
    by_cases h1 : y = "lap"
    · simp only [if_pos h1]
    · simp only [if_neg h1]
      by_cases h2 : y = "text"
      · subst h2; simp only [if_pos, hx]
      · simp only [if_neg h2]
        cases h3 : stored.contains y with
        | true => simp only [if_true]
        | false => simp only [Bool.false_eq_true, if_false]; exact hm y h1 h2 h3
  refine tbr_invG (a₀ := 0) (n := n)
    (fun i m nx => ∃ (tl : List (Addr × Obj)) (x : Str) (tx : Tok) (pl' lf' : Int) (ps' rs' : List (Int × Int)) (pv' rv' : List Value) (np' nr' : Nat) (o' : Obj) (t1' t2' : Tok),
      nx = led4 d o' pa pv' np' ra rv' nr' c vs nc (tl ++ rest) ∧ m "text" = some (.str x tx) ∧ (∀ z : Str, z ≠ "lap" → z ≠ "text" → stored.contains z = false → m z = m₀ z) ∧
      laps lapF (n - i) (x, ⟨pl', lf', ps', rs'⟩) = laps lapF n (x0, ⟨pl, lf, ps, rs⟩) ∧ (x.length ≤ x0.length + i * lc ∧ pl ≤ pl' ∧ pl' ≤ pl + i * lc ∧ ps'.length ≤ ps.length + i * lc ∧ rs'.length ≤ rs.length + i * lc) ∧
      o'.IsDictOf (strKind PG w) (feedL c pa ra pl' lf' t1' t2') ∧ PairsIn (tl ++ bs) pv' ps' ∧ PairsIn (tl ++ bs) rv' rs' ∧ FreshTl tl d pa ra c rest)
    hh hr ?_ ?_ F N ⟨[], x0, tx, pl, lf, ps, rs, pv, rv, np, nr, o, t1, t2, rfl, htx, fun _ _ _ _ => rfl, rfl, by simp, hd, hps, hrs, FreshTl.nil⟩ ?_ ?_
  · have : n = 0 ∨ n = 1 ∨ n = 2 ∨ n = 3 := by omega
    rcases this with rfl | rfl | rfl | rfl <;> decide +kernel
  · rw [rangeSize_one]
    split <;> omega
  · rintro i k t m₁ nx h tk own hk hoff ⟨tl, x, tx, pl', lf', ps', rs', pv', rv', np', nr', o', t1', t2', rfl, hx, hm, hl, hbd, hd', hp', hr', htl⟩ F₁ N₁
    have hi : i < n := by
      have := (List.getElem?_eq_some_iff.mp hk).1
      rwa [rangeKs_length] at this
    have hk' : k = i := by
      have h1 : (rangeKs 0 n)[i]? = some (0 + (i : Int)) := by simp [rangeKs, hi]
      rw [h1] at hk
      have := Option.some.inj hk
      omega
    subst hk'
    rw [fr m₁ (fun _ => some (.int (i : Int) t)) x tx hx hm] at F₁
    have o1 : ∀ q ∈ own, q.1 ≠ d := fun q hq => hoff q hq _ (.head _)
    have o2 : ∀ q ∈ own, q.1 ≠ pa := fun q hq => hoff q hq _ (.tail _ (.head _))
    have o3 : ∀ q ∈ own, q.1 ≠ ra := fun q hq => hoff q hq _ (.tail _ (.tail _ (.head _)))
    have q1 := off_tl (fun q hq => (htl q hq).1) r1
    have q2 := off_tl (fun q hq => (htl q hq).2.1) r2
    have q3 := off_tl (fun q hq => (htl q hq).2.2.1) r3
    have both {b : Addr} (x : ∀ q ∈ tl ++ rest, q.1 ≠ b) (y : ∀ q ∈ own, q.1 ≠ b) : ∀ q ∈ (tl ++ rest) ++ own, q.1 ≠ b := fun q hq => (List.mem_append.mp hq).elim (x q) (y q)
    refine wpAny_mono (turn i t x tx pl' lf' ps' rs' pv' rv' np' nr' o' t1' t2' ((tl ++ rest) ++ own) (tl ++ bs) m₁ h tk (by omega) hbd.1 hbd.2.1 hbd.2.2.1 hbd.2.2.2.1 hbd.2.2.2.2
      (both q1 o1) (both q2 o2) (both q3 o3) (fun q hq => List.mem_append_left _ (List.mem_append_right _ hq)) hp' hr' hp'.len hr'.len F₁ N₁ hd') (fun f s₂ hf => ?_) fun _ _ e => e
    have fin : LapEnd w h₀ env.locals lapF lc stored m₀ d c pa ra vs nc ((tl ++ rest) ++ own) (tl ++ bs) x pl' lf' ps' rs' { s with heap := h, toks := tk } s₂ → TbEnd h₀ env.locals
        (fun m nx => ∃ (tl : List (Addr × Obj)) (x : Str) (tx : Tok) (pl' lf' : Int) (ps' rs' : List (Int × Int)) (pv' rv' : List Value) (np' nr' : Nat) (o' : Obj) (t1' t2' : Tok),
      nx = led4 d o' pa pv' np' ra rv' nr' c vs nc (tl ++ rest) ∧ m "text" = some (.str x tx) ∧ (∀ z : Str, z ≠ "lap" → z ≠ "text" → stored.contains z = false → m z = m₀ z) ∧
      laps lapF (n - (i + 1)) (x, ⟨pl', lf', ps', rs'⟩) = laps lapF n (x0, ⟨pl, lf, ps, rs⟩) ∧ (x.length ≤ x0.length + (i + 1) * lc ∧ pl ≤ pl' ∧ pl' ≤ pl + ((i + 1 : Nat) : Int) * lc ∧ ps'.length ≤ ps.length + (i + 1) * lc ∧ rs'.length ≤ rs.length + (i + 1) * lc) ∧
      o'.IsDictOf (strKind PG w) (feedL c pa ra pl' lf' t1' t2') ∧ PairsIn (tl ++ bs) pv' ps' ∧ PairsIn (tl ++ bs) rv' rs' ∧ FreshTl tl d pa ra c rest) own { s with heap := h, toks := tk } s₂ := by
      rintro ⟨h', tk', m', x', tx', pl2, lf2, ps2, rs2, pv2, rv2, np2, nr2, tl2, o2', t12, t22, e, F', N', hx', hm', hlap', hb', hd2, hp2, hr2, hf2⟩
      refine ⟨h', tk', m', led4 d o2' pa pv2 np2 ra rv2 nr2 c vs nc (tl2 ++ ((tl ++ rest) ++ own)), led4 d o2' pa pv2 np2 ra rv2 nr2 c vs nc ((tl2 ++ tl) ++ rest), e, F', N', ?_, ?_, ?_, tl2 ++ tl, x', tx', pl2, lf2, ps2, rs2, pv2, rv2, np2, nr2, o2', t12, t22, rfl, hx', hm', ?_, ?_, hd2, ?_, ?_, ?_⟩
      · intro q hq
        simp only [led4, List.mem_cons, List.mem_append] at hq ⊢
        rcases hq with h | h | h | h | (h | h) | h <;> simp only [h, true_or, or_true]
      · intro q hq
        simp only [led4, List.mem_cons, List.mem_append, hq, or_true]
      · intro q hq b hb
        simp only [led4, List.mem_cons, List.mem_append] at hb
        rcases hb with rfl | rfl | rfl | rfl | (hb | hb) | hb
        · exact o1 q hq
        · exact o2 q hq
        · exact o3 q hq
        · exact hoff q hq (c, listOf vs.toArray nc) (.tail _ (.tail _ (.tail _ (.head _))))
        · exact Nat.ne_of_lt ((hf2 b hb).2.2.2.2 q (List.mem_append_right _ hq))
        · exact hoff q hq b (.tail _ (.tail _ (.tail _ (.tail _ (List.mem_append_left _ hb)))))
        · exact hoff q hq b (.tail _ (.tail _ (.tail _ (.tail _ (List.mem_append_right _ hb)))))
      · rw [← hl, laps_succ lapF n i hi, hlap']
      · obtain ⟨a1, a2, a3, a4, a5⟩ := hbd
        obtain ⟨b1, b2, b3, b4, b5⟩ := hb'
        have e1 : (i + 1) * lc = i * lc + lc := Nat.succ_mul i lc
        have e2 : ((i + 1 : Nat) : Int) * lc = (i : Int) * lc + lc := by rw [Int.natCast_succ, Int.add_mul, Int.one_mul]
        rw [e1, e2]
        refine ⟨by omega, by omega, by omega, by omega, by omega⟩
      · rw [List.append_assoc]; exact hp2
      · rw [List.append_assoc]; exact hr2
      · exact htl.app hf2 fun q hq => List.mem_append_left _ (List.mem_append_right _ hq)
    cases f with
    | ret v => exact hf
    | brk => exact hf
    | next => exact fin hf
    | cont => exact fin hf
  · rintro m₁ nx h tk ⟨tl, x, tx, pl', lf', ps', rs', pv', rv', np', nr', o', t1', t2', rfl, hx, hm, hl, ⟨a1, a2, a3, a4, a5⟩, hd', hp', hr', htl⟩ F₁ N₁
    rw [Nat.sub_self] at hl
    have em := fr m₁ m₁ x tx hx hm
    have em' : (fun y : Str => if y = ("lap" : Str) then m₁ y else m₁ y) = m₁ := by funext y; split <;> rfl
    rw [em'] at em
    have hle : n * lc ≤ 3 * lc := Nat.mul_le_mul_right lc hn3
    have hle' : (n : Int) * lc ≤ 3 * lc := by exact_mod_cast hle
    refine done x tx pl' lf' ps' rs' pv' rv' np' nr' tl o' t1' t2' m₁ h tk hl.symm (by omega) a2 (by omega) (by omega) (by omega) (em ▸ F₁) N₁ hd' hp' hr' htl

noncomputable def Halt (P : Prop) : Prop := P
theorem halt {P : Prop} (h : Halt P) : P := h
theorem lap_end {w : World} {h₀ : Heap} {L : Addr} {lapF : Str × St → Str × St} {lc : Nat} {stored : List Str} {m₀ m' : Str → Option Value} {d c pa ra : Addr} {vs pv' rv' : List Value} {nc np' nr' : Nat} {R bs R9 bs9 tl : List (Addr × Obj)} {x x' : Str} {pl lf pl' lf' : Int} {ps rs ps' rs' : List (Int × Int)} {Q : Flow → Shared → Prop} {s₁ : Shared} {h' : Heap} {tk : Nat} {tx' t1' t2' : Tok} {o' : Obj}
    (eR : R9 = tl ++ R) (eb : bs9 = tl ++ bs) (hf : FreshTl tl d pa ra c R) (F : Fr h₀ L h' m') (N : News h₀ L h' (led4 d o' pa pv' np' ra rv' nr' c vs nc R9)) (hx : m' "text" = some (.str x' tx'))
    (hm : ∀ z : Str, z ≠ "lap" → z ≠ "text" → stored.contains z = false → m' z = m₀ z) (he : lapF (x, ⟨pl, lf, ps, rs⟩) = (x', ⟨pl', lf', ps', rs'⟩))
    (b1 : x'.length ≤ x.length + lc) (b2 : pl ≤ pl') (b3 : pl' ≤ pl + lc) (b4 : ps'.length ≤ ps.length + lc) (b5 : rs'.length ≤ rs.length + lc)
    (hd : o'.IsDictOf (strKind PG w) (feedL c pa ra pl' lf' t1' t2')) (hp : PairsIn bs9 pv' ps') (hr : PairsIn bs9 rv' rs') :
    LapPost w h₀ L lapF lc stored m₀ d c pa ra vs nc R bs x pl lf ps rs Q s₁ .next { s₁ with heap := h', toks := tk } := by
  subst eR
  subst eb
  exact ⟨h', tk, m', x', tx', pl', lf', ps', rs', pv', rv', np', nr', tl, o', t1', t2', rfl, F, N, hx, hm, he, ⟨b1, b2, b3, b4, b5⟩, hd, hp, hr, hf⟩
theorem str_len_app (x y : Str) : (x ++ y).length = x.length + y.length := Array.size_append
theorem news_cell {h₀ h : Heap} {L x d pa ra c : Addr} {ox o : Obj} {pv rv vs : List Value} {np nr nc : Nat} {rest : List (Addr × Obj)} (N : News h₀ L h ((x, ox) :: (d, o) :: (pa, listOf pv.toArray np) :: (ra, listOf rv.toArray nr) :: (c, listOf vs.toArray nc) :: rest)) :
    News h₀ L h (led4 d o pa pv np ra rv nr c vs nc ((x, ox) :: rest)) := news_sub N fun q hq => by
  simp only [led4, List.mem_cons] at hq ⊢
  rcases hq with h | h | h | h | h | h <;> simp only [h, true_or, or_true]
theorem off_cell {x d : Addr} {ox : Obj} {rest : List (Addr × Obj)} (hx : @LT.lt Nat _ d x) (hr : ∀ q ∈ rest, q.1 ≠ d) : ∀ q ∈ (x, ox) :: rest, q.1 ≠ d := fun q hq => by
  rcases List.mem_cons.mp hq with rfl | hq
  · exact Nat.ne_of_gt hx
  · exact hr q hq

theorem news_uncell {h₀ h : Heap} {L x d pa ra c : Addr} {ox o : Obj} {pv rv vs : List Value} {np nr nc : Nat} {tl rest : List (Addr × Obj)} (N : News h₀ L h (led4 d o pa pv np ra rv nr c vs nc (tl ++ (x, ox) :: rest))) :
    News h₀ L h (led4 d o pa pv np ra rv nr c vs nc (tl ++ rest)) := news_sub N fun q hq => by
  simp only [led4, List.mem_cons, List.mem_append] at hq ⊢
  rcases hq with h | h | h | h | h | h <;> simp only [h, true_or, or_true]
theorem FreshTl.uncell {tl rest : List (Addr × Obj)} {d pa ra c x : Addr} {ox : Obj} (h : FreshTl tl d pa ra c ((x, ox) :: rest)) : FreshTl tl d pa ra c rest := fun q hq => by
  obtain ⟨a, b, c, d, e⟩ := h q hq
  exact ⟨a, b, c, d, fun r hr => e r (.tail _ hr)⟩
section
theorem quoted_spec {w : World} {cells : List Int} {n kp u : Nat} {part : Gen} {deep : Bool} (hdeep : deep = true ↔ 0 < n) (hP : 0 < n → GenSpec w cells 189 (n - 1) kp u part) (hkp : kp ≤ 5000) (hu : 1 ≤ u) : GenSpec w cells 201 n (1 + 3 * (10 + kp)) (u + 1) (quotF cells part deep) := by
  intro p loose mean mg mb dp un gd cn cs a ccd cl outer A₀ base h₀ L m s Q E d c pa ra o rest bs pl lf b ps rs pv rv vs np nr nc t1 t2 tb tf B F X N T hk hd n1 n2 n3 n4 n5 n6 r1 r2 r3 hI hcl hps hrs h0 h1 h2 h3 h4 h5 hdp hret
  have hpl := hps.len
  have hrl := hrs.len
  dsimp only [led4, feedL] at N hd
  refine wpAny_call ?_
  k_dflt ktr_enter
  k_with_none
  k_with "execs cons" => (first | (k_here; k_gentoks) | ((with_reducible refine wpAny_execs_cons ?_); (try dsimp only); (try k_fold)))
  k_with "setItem ref str" => (k_here; k_dflt (refine kda_set (knd := PySem.strKind _ _) (by k_asm) (by k_asm) (by k_updF) (by k_asm) (strKind_is _ _ _ _) (by kob_size) ?_); intro hq₉ oq₉ Fq₉ Nq₉ hdq₉; (try kob_lit); (try dsimp only at Nq₉))
  k_with "subscriptTail" => (k_here; (with_reducible show wpAny _ _ (subscriptTail _ _ (Value.ref 172) (Value.int _ _)) _ _ _); k_dflt (refine menu_item (menu_plain (by k_in)) mPlain_len (by first | (with_reducible assumption) | decide | omega) (by first | (with_reducible assumption) | (show _ < (7 : Int); omega)) (by first | (with_reducible assumption) | decide | omega) ?_); intro t9k₉ l9k₉)
  k_with "subscriptTail" => (k_here; (with_reducible show wpAny _ _ (subscriptTail _ _ (Value.ref 173) (Value.int _ _)) _ _ _); k_dflt (refine menu_item (menu_hidden (by k_in)) mHidden_len (by first | (with_reducible assumption) | decide | omega) (by first | (with_reducible assumption) | (show _ < (7 : Int); omega)) (by first | (with_reducible assumption) | decide | omega) ?_); intro t9k₉ l9k₉)
  k_with "subscriptTail" => (k_here; (with_reducible show wpAny _ _ (subscriptTail _ _ (Value.ref 174) (Value.int _ _)) _ _ _); k_dflt (refine menu_item (menu_lone (by k_in)) mLone_len (by first | (with_reducible assumption) | decide | omega) (by first | (with_reducible assumption) | (show _ < (7 : Int); omega)) (by first | (with_reducible assumption) | decide | omega) ?_); intro t9k₉ l9k₉)
  k_with "subscriptTail" => (k_here; (with_reducible show wpAny _ _ (subscriptTail _ _ (Value.ref 175) (Value.int _ _)) _ _ _); k_dflt (refine menu_item (menu_escaped (by k_in)) mEscaped_len (by first | (with_reducible assumption) | decide | omega) (by first | (with_reducible assumption) | (show _ < (4 : Int); omega)) (by first | (with_reducible assumption) | decide | omega) ?_); intro t9k₉ l9k₉)
  k_with "call ref" => (k_here; (with_reducible show wpAny _ _ (call (Value.ref 182) _) _ _ _); k_dflt (refine dip_call (by k_asm) (by k_asm) (by k_asm) (by k_asm) (by k_asm) (by exact rfl) (by k_updF) (by k_asm) (by k_mem) (by assumption) (by assumption) (by assumption) (by first | (with_reducible assumption) | decide | omega) (by first | (with_reducible assumption) | decide | omega) (by first | (with_reducible assumption) | decide | omega) (by first | (with_reducible assumption) | decide | omega) (by first | (show _ + 1 + 1 < _; omega) | ktr_room) ?_); intro t9k₉ h9k₉ tk9k₉ o9k₉ t19k₉ lo9k₉ hi9k₉ Fq₉ Nq₉ hd9k₉; (try dsimp only at Nq₉))
  k_with "call ref" => (k_here; (first | (with_reducible show wpAny _ _ (call (Value.ref 189) _) _ _ _) | (with_reducible show wpAny _ _ (call (Value.ref 194) _) _ _ _) | (with_reducible show wpAny _ _ (call (Value.ref 201) _) _ _ _)); k_dflt (refine gen_useP (by assumption) (by first | (with_reducible assumption) | decide | omega) (by k_asm) (by k_asm) (by k_asm) (by k_asm) (by k_asm) (by exact rfl) (by k_asm) (by assumption) (by assumption) (by assumption) (by assumption) (by assumption) (by assumption) (by assumption) (by assumption) (by assumption) (by assumption) (by assumption) (by assumption) (by assumption) (by first | (with_reducible assumption) | decide | omega) (by first | (with_reducible assumption) | decide | omega) (by first | (with_reducible assumption) | decide | omega) (by first | (with_reducible assumption) | decide | omega) (by first | (with_reducible assumption) | decide | omega) (by first | (with_reducible assumption) | decide | omega) (by first | (with_reducible assumption) | decide | omega) (by first | (show _ + 1 + _ < _; omega) | ktr_room) ?_); intro x9k₉ pl9k₉ lf9k₉ ps9k₉ rs9k₉ pv9k₉ rv9k₉ np9k₉ nr9k₉ tl9k₉ rest9k₉ bs9k₉ t9k₉ h9k₉ tk9k₉ o9k₉ t19k₉ t29k₉ er9k₉ eb9k₉ ft9k₉ e19k₉ e29k₉ e39k₉ e49k₉ e59k₉ e69k₉ Fq₉ Nq₉ hd9k₉ hp9k₉ hr9k₉ hpl9k₉ hrl9k₉ r19k₉ r29k₉ r39k₉)
  k_with "exec For Name Call cons nil" => (k_here; (rename Fr _ _ _ _ => lFq₉); (with_unfolding_all refine For_invVF lFq₉ (by exact rfl) (by exact rfl) ?_; k_whole))
  k_with "pyIter ref" => (k_here; refine halt ?_)
  k_with "call type:range" => (k_here; (rename Fr _ _ _ _ => Fq₉); (rename News _ _ _ _ => Nq₉); (with_unfolding_all refine range1_rows Fq₉ Nq₉ ?_; intro _ _ _ _ _ _ _ _ _))
  k_with "eval IfExp" => (k_here; refine halt ?_)
  k_steps
  unfold Halt
  k_dflt (refine' gen_loop (quotLap cells part deep b) (10 + kp) ["way"] ?hh ?hr ?hb0 ?hb3 ?F ?N ?hd ?htx n1 n2 n3 n4 n5 n6 r1 r2 r3 hps hrs ?turn ?done)
  case hh => exact rfl
  case hr => assumption
  case hb0 => assumption
  case hb3 => assumption
  case F => k_asm
  case N => k_asm
  case hd => k_asm
  case htx => exact rfl
  case turn =>
    intro i ti x tx pl' lf' ps' rs' pv' rv' np' nr' o' t1' t2' R' bs' u h tk hi b1 b2 b3 b4 b5 q1 q2 q3 hin hp' hr' hpl' hrl' F7 N7 hd7
    have e0 : (Str.ofString "").length = 0 := rfl
    have e1 : i * (10 + kp) ≤ 2 * (10 + kp) := Nat.mul_le_mul_right _ (by omega)
    have e2 : (i : Int) * ((10 + kp : Nat) : Int) ≤ 2 * ((10 + kp : Nat) : Int) := by exact_mod_cast e1
    have l2 : (Str.ofString "\\(").length = 2 := by decide +kernel
    have e3 : x.length ≤ 2 * (10 + kp) := by omega
    have e4 : pl' ≤ pl + 1 + 2 * (10 + kp) := by omega
    have e5 : ps'.length ≤ ps.length + 2 * (10 + kp) := by omega
    have e6 : rs'.length ≤ rs.length + 2 * (10 + kp) := by omega
    have y1 : 0 ≤ pl' := by omega
    have y2 : pl' + (kp : Int) + 10 ≤ 90000 := by omega
    have y3 : ps'.length + kp + 10 ≤ 90000 := by omega
    have y4 : rs'.length + kp + 10 ≤ 90000 := by omega
    have y5 : b + (x.length : Int) + (kp : Int) + 10 ≤ 90000 := by omega
    have y6 : x.length ≤ 20000 := by omega
    clear b1 b2 b3 b4 b5 e1 e2 e3 e4 e5 e6 h0 h1 h2 h3 h5 hpl hrl hi
    obtain ⟨many, hmany, hlots⟩ := lots (lf := lf') (a := 3) (b := 2) hdeep
    try k_fold
    k_steps
    unfold Halt
    k_with "eval IfExp" => skip
    k_dflt (refine int_join (if deep = true ∧ 0 < lf' then 3 else 2) ?_ ?_)
    · k_with_none
      k_steps
      all_goals try (refine lots_val hdeep ?_; omega)
    rw [hmany]
    intro t9 tk9
    k_with_none
    k_with "execs cons" => (first | (k_here; k_gentoks) | ((with_reducible refine wpAny_execs_cons ?_); (try dsimp only); (try k_fold)))
    k_with "setItem ref str" => (k_here; k_dflt (refine kda_set (knd := PySem.strKind _ _) (by k_asm) (by k_asm) (by k_updF) (by k_asm) (strKind_is _ _ _ _) (by kob_size) ?_); intro hq₉ oq₉ Fq₉ Nq₉ hdq₉; (try kob_lit); (try dsimp only at Nq₉))
    k_with "subscriptTail" => (k_here; (with_reducible show wpAny _ _ (subscriptTail _ _ (Value.ref 172) (Value.int _ _)) _ _ _); k_dflt (refine menu_item (menu_plain (by k_in)) mPlain_len (by first | (with_reducible assumption) | decide | omega) (by first | (with_reducible assumption) | (show _ < (7 : Int); omega)) (by first | (with_reducible assumption) | decide | omega) ?_); intro t9k₉ l9k₉)
    k_with "subscriptTail" => (k_here; (with_reducible show wpAny _ _ (subscriptTail _ _ (Value.ref 173) (Value.int _ _)) _ _ _); k_dflt (refine menu_item (menu_hidden (by k_in)) mHidden_len (by first | (with_reducible assumption) | decide | omega) (by first | (with_reducible assumption) | (show _ < (7 : Int); omega)) (by first | (with_reducible assumption) | decide | omega) ?_); intro t9k₉ l9k₉)
    k_with "subscriptTail" => (k_here; (with_reducible show wpAny _ _ (subscriptTail _ _ (Value.ref 174) (Value.int _ _)) _ _ _); k_dflt (refine menu_item (menu_lone (by k_in)) mLone_len (by first | (with_reducible assumption) | decide | omega) (by first | (with_reducible assumption) | (show _ < (7 : Int); omega)) (by first | (with_reducible assumption) | decide | omega) ?_); intro t9k₉ l9k₉)
    k_with "subscriptTail" => (k_here; (with_reducible show wpAny _ _ (subscriptTail _ _ (Value.ref 175) (Value.int _ _)) _ _ _); k_dflt (refine menu_item (menu_escaped (by k_in)) mEscaped_len (by first | (with_reducible assumption) | decide | omega) (by first | (with_reducible assumption) | (show _ < (4 : Int); omega)) (by first | (with_reducible assumption) | decide | omega) ?_); intro t9k₉ l9k₉)
    k_with "call ref" => (k_here; (with_reducible show wpAny _ _ (call (Value.ref 182) _) _ _ _); k_dflt (refine dip_call (by k_asm) (by k_asm) (by k_asm) (by k_asm) (by k_asm) (by exact rfl) (by k_updF) (by k_asm) (by k_mem) (by assumption) (by assumption) (by assumption) (by first | (with_reducible assumption) | decide | omega) (by first | (with_reducible assumption) | decide | omega) (by first | (with_reducible assumption) | decide | omega) (by first | (with_reducible assumption) | decide | omega) (by first | (show _ + 1 + 1 < _; omega) | ktr_room) ?_); intro t9k₉ h9k₉ tk9k₉ o9k₉ t19k₉ lo9k₉ hi9k₉ Fq₉ Nq₉ hd9k₉; (try dsimp only at Nq₉))
    k_with "call ref" => (k_here; (first | (with_reducible show wpAny _ _ (call (Value.ref 189) _) _ _ _) | (with_reducible show wpAny _ _ (call (Value.ref 194) _) _ _ _) | (with_reducible show wpAny _ _ (call (Value.ref 201) _) _ _ _)); k_dflt (refine gen_useP (by assumption) (by first | (with_reducible assumption) | decide | omega) (by k_asm) (by k_asm) (by k_asm) (by k_asm) (by k_asm) (by exact rfl) (by k_asm) (by assumption) (by assumption) (by assumption) (by assumption) (by assumption) (by assumption) (by assumption) (by assumption) (by assumption) (by assumption) (by assumption) (by assumption) (by assumption) (by first | (with_reducible assumption) | decide | omega) (by first | (with_reducible assumption) | decide | omega) (by first | (with_reducible assumption) | decide | omega) (by first | (with_reducible assumption) | decide | omega) (by first | (with_reducible assumption) | decide | omega) (by first | (with_reducible assumption) | decide | omega) (by first | (with_reducible assumption) | decide | omega) (by first | (show _ + 1 + _ < _; omega) | ktr_room) ?_); intro x9k₉ pl9k₉ lf9k₉ ps9k₉ rs9k₉ pv9k₉ rv9k₉ np9k₉ nr9k₉ tl9k₉ rest9k₉ bs9k₉ t9k₉ h9k₉ tk9k₉ o9k₉ t19k₉ t29k₉ er9k₉ eb9k₉ ft9k₉ e19k₉ e29k₉ e39k₉ e49k₉ e59k₉ e69k₉ Fq₉ Nq₉ hd9k₉ hp9k₉ hr9k₉ hpl9k₉ hrl9k₉ r19k₉ r29k₉ r39k₉)
    k_with "exec For Name Call cons nil" => (k_here; (rename Fr _ _ _ _ => lFq₉); (with_unfolding_all refine For_invVF lFq₉ (by exact rfl) (by exact rfl) ?_; k_whole))
    k_with "pyIter ref" => (k_here; refine halt ?_)
    k_with "call type:range" => (k_here; (rename Fr _ _ _ _ => Fq₉); (rename News _ _ _ _ => Nq₉); (with_unfolding_all refine range1_rows Fq₉ Nq₉ ?_; intro _ _ _ _ _ _ _ _ _))
    k_steps
    all_goals try (exfalso; omega)
    all_goals (
      (first
        | k_dflt (refine' lap_end (tl := []) rfl rfl FreshTl.nil ?F ?N ?hx ?hm (quotLap_0 hmany (by assumption)) ?b1 ?b2 ?b3 ?b4 ?b5 ?hd hp' hr')
        | k_dflt (refine' lap_end (tl := []) rfl rfl FreshTl.nil ?F ?N ?hx ?hm (quotLap_1 hmany (by assumption)) ?b1 ?b2 ?b3 ?b4 ?b5 ?hd hp' hr')
        | k_dflt (refine' lap_end (by assumption) (by assumption) (by assumption) ?F ?N ?hx ?hm (quotLap_2 hmany (by assumption) (by assumption) (by assumption)) ?b1 ?b2 ?b3 ?b4 ?b5 ?hd (by assumption) (by assumption)))
      (case F => k_asm)
      (case N => k_asm)
      (case hx => exact rfl)
      (case hm =>
        intro z h1 h2 h3
        simp only [List.contains_cons, List.contains_nil, Bool.or_false, beq_eq_false_iff_ne, ne_eq] at h3
        simp [h1, h2, h3])
      (case b1 => simp only [str_len_app]; omega)
      (case b2 => omega)
      (case b3 => omega)
      (case b4 => omega)
      (case b5 => omega)
      (case hd => k_asm))
  case done =>
    intro x tx pl' lf' ps' rs' pv' rv' np' nr' tl o' t1' t2' u h tk e1 e2 e3 e4 e5 e6 F7 N7 hd7 hp7 hr7 htl
    try dsimp only
    have e0 : (Str.ofString "").length = 0 := rfl
    k_steps
    refine hret x pl' lf' ps' rs' pv' rv' np' nr' tl _ _ _ o' t1' t2' e1 (by omega) (by omega) (by omega) (by omega) (by omega) (by k_asm) (by k_asm) (by k_asm) hp7 hr7 htl
end
theorem calm6 {M : Model} {A : Around} {E : Value → Shared → Prop} {s : Shared} {env : Env} {Q : Flow → Shared → Prop} (h : Q .next s) : wpAny M A (execs [] env) Q E s := by
  k_with_none
  w_top off
  walk1
  exact h
theorem mHidden_len2 : (mHidden.all fun x => decide (x.length ≤ 2)) = true := by decide +kernel
theorem pick_len2 (i : Int) : (pick mHidden i).length ≤ 2 := by
  unfold pick
  rw [List.getD_eq_getElem?_getD]
  cases q : mHidden[i.toNat]? with
  | none => exact Nat.zero_le _
  | some x => exact of_decide_eq_true (List.all_eq_true.mp mHidden_len2 x (List.mem_of_getElem? q))
theorem signsF_spec (cells : List Int) : ∀ (k : Nat) (pl lf : Int) (ps rs : List (Int × Int)), ∃ l, signsF cells k ⟨pl, lf, ps, rs⟩ = (l, ⟨pl + k, lf, ps, rs⟩) ∧ l.length = k ∧ ∀ x ∈ l, x.length ≤ 2
  | 0, pl, lf, ps, rs => ⟨[], by simp [signsF], rfl, fun _ h => nomatch h⟩
  | k + 1, pl, lf, ps, rs => by
    obtain ⟨l, e, hl, hx⟩ := signsF_spec cells k (pl + 1) lf ps rs
    refine ⟨pick mHidden (dipV cells pl 7) :: l, ?_, by simp [hl], ?_⟩
    · simp only [signsF, St.next, e, Int.natCast_succ]
      rw [show pl + 1 + (k : Int) = pl + (k + 1) by omega]
    · intro x hx'
      rcases List.mem_cons.mp hx' with rfl | h
      · exact pick_len2 _
      · exact hx x h
theorem join_len : ∀ (l : List Str), (∀ x ∈ l, x.length ≤ 2) → (Str.join Str.empty l).length ≤ 2 * l.length
  | [], _ => Nat.zero_le _
  | [x], h => by have := h x (.head _); simpa [Str.join] using this
  | x :: y :: r, h => by
    have ih := join_len (y :: r) fun z hz => h z (.tail _ hz)
    have hx := h x (.head _)
    show ((x.cps ++ (Str.empty).cps) ++ (Str.join Str.empty (y :: r)).cps).size ≤ _
    have e : (Str.empty).cps.size = 0 := rfl
    have hx' : x.cps.size ≤ 2 := hx
    have ih' : (Str.join Str.empty (y :: r)).cps.size ≤ 2 * (y :: r).length := ih
    simp only [Array.size_append, List.length_cons] at ih' ⊢
    omega
section
variable {w : World} {cells : List Int} {A : Around} {h₀ : Heap} {L : Addr} {m : Str → Option Value} {env : Env} {elt : PySem.Expr} {x : Str} {scope : Scope} {cl : List (Str × Addr)} {s : Shared} {d c pa ra : Addr} {pv rv vs : List Value} {np nr nc : Nat} {R : List (Addr × Obj)} {lf : Int} {t2 : Tok} {ps rs : List (Int × Int)}
/-- one element: a lot drawn, a sign of the menu handed back -/
noncomputable def SignStep (w : World) (cells : List Int) (A : Around) (h₀ : Heap) (L : Addr) (m : Str → Option Value) (env : Env) (elt : PySem.Expr) (scope : Scope) (cl : List (Str × Addr)) (s : Shared) (d c pa ra : Addr) (pv rv vs : List Value) (np nr nc : Nat) (R : List (Addr × Obj)) (lf : Int) (t2 : Tok) (lo hi : Int) : Prop :=
  ∀ (pl : Int) (o : Obj) (t1 : Tok) (I C D : Addr) (oI oC oD : Obj) (h : Heap) (tk : Nat) (Q E : Value → Shared → Prop), lo ≤ pl → pl < hi → o.IsDictOf (strKind PG w) [("cells", .ref c), ("place", .int pl t1), ("left", .int lf t2), ("pairs", .ref pa), ("remarks", .ref ra)] →
    Fr h₀ L h m → News h₀ L h ((I, oI) :: (C, oC) :: (D, oD) :: (d, o) :: (pa, listOf pv.toArray np) :: (ra, listOf rv.toArray nr) :: (c, listOf vs.toArray nc) :: R) → @Ne Nat I d → @Ne Nat C d → @Ne Nat D d →
    (∀ t h' tk' o' t1', Fr h₀ L h' m → News h₀ L h' ((I, oI) :: (C, oC) :: (D, oD) :: (d, o') :: (pa, listOf pv.toArray np) :: (ra, listOf rv.toArray nr) :: (c, listOf vs.toArray nc) :: R) →
      o'.IsDictOf (strKind PG w) (feedL c pa ra (pl + 1) lf t1' t2) → Q (.str (pick mHidden (dipV cells pl 7)) t) { s with heap := h', toks := tk' }) →
    wpAny (model PG w) A (eval elt (compEnvC scope cl C env)) Q E { s with heap := h, toks := tk }

theorem signs_rest {S : List (Addr × Obj) → Prop} {P : Nat → Value → Prop} {Fin : List Value → List (Addr × Obj) → Prop} {lo hi : Int} (hS : ∀ l, S l)
    (step : SignStep w cells A h₀ L m env elt scope cl s d c pa ra pv rv vs np nr nc R lf t2 lo hi) :
    ∀ (k i : Nat) (ys : List Value) (l : List Str) (pl : Int) (o : Obj) (t1 : Tok), lo ≤ pl → pl + k ≤ hi → StrsAre ys l → o.IsDictOf (strKind PG w) (feedL c pa ra pl lf t1 t2) →
      (∀ ys' o' t1', StrsAre ys' (l ++ (signsF cells k ⟨pl, lf, ps, rs⟩).1) → o'.IsDictOf (strKind PG w) (feedL c pa ra (pl + k) lf t1' t2) → Fin ys' (led4 d o' pa pv np ra rv nr c vs nc R)) →
      LCg.CompRest PG w A h₀ L m env elt x scope cl s S P Fin k i ys (led4 d o pa pv np ra rv nr c vs nc R)
  | 0, i, ys, l, pl, o, t1, _, _, hy, hd, fin => by
    refine LCg.CompRest.zero (fin ys o t1 ?_ ?_)
    · simpa [signsF] using hy
    · simpa using hd
  | k + 1, i, ys, l, pl, o, t1, h1, h2, hy, hd, fin => by
    refine LCg.CompRest.succ fun v I oI C oC D m₂ h tk E' _ _ _ F N off ne => ?_
    have o1 := off.1
    refine step pl o t1 I C D oI oC _ h tk _ E' h1 (by omega) hd F N o1.1.symm o1.2.1.symm o1.2.2.symm ?_
    intro t h' tk' o' t1' F' N' hd'
    have off' : LCg.Off3 I C D (led4 d o' pa pv np ra rv nr c vs nc R) := ⟨o1, off.2⟩
    refine LCg.CompEnd.intro F' N' (led4 d o' pa pv np ra rv nr c vs nc R) (fun p hp => hp) off' (hS _) ?_
    refine signs_rest hS step k (i + 1) _ (l ++ [pick mHidden (dipV cells pl 7)]) (pl + 1) o' t1' (by omega) (by omega) ?_ hd' ?_
    · exact strs_snoc hy
    · intro ys' o2 t12 hy' hd2
      refine fin ys' o2 t12 ?_ ?_
      · simpa [signsF, St.next] using hy'
      · rw [show pl + ((k + 1 : Nat) : Int) = pl + 1 + (k : Int) by omega]
        exact hd2
where
  strs_snoc {ys : List Value} {l : List Str} {y : Str} {t : Tok} : StrsAre ys l → StrsAre (ys ++ [.str y t]) (l ++ [y])
    | .nil => .cons _ _ .nil
    | .cons z u r => .cons z u (strs_snoc r)

theorem signs_src {r : Addr} {b₀ pl : Int} {t u v : Tok} {o : Obj} {t1 : Tok} {Q : Value → Shared → Prop}
    (hh : A.handled = none) (F : Fr h₀ L s.heap m) (N : News h₀ L s.heap (led4 d o pa pv np ra rv nr c vs nc R)) (hr : IsRange s.heap r 0 b₀ 1 t u v) (hb0 : 0 ≤ b₀) (hb3 : b₀ < 4) (hd : o.IsDictOf (strKind PG w) (feedL c pa ra pl lf t1 t2))
    (n1 : @Ne Nat pa d) (n2 : @Ne Nat ra d) (n3 : @Ne Nat c d)
    (step : ∀ g, SignStep w cells A h₀ L m env elt scope cl { s with heap := g } d c pa ra pv rv vs np nr nc R lf t2 pl (pl + 3))
    (fin : ∀ (D : Addr) (h : Heap) (tk : Nat) (ys : List Value) (l : List Str) (o' : Obj) (t1' : Tok), Fr h₀ L h m → News h₀ L h ((D, listOf ys.toArray ys.length) :: (d, o') :: (pa, listOf pv.toArray np) :: (ra, listOf rv.toArray nr) :: (c, listOf vs.toArray nc) :: R) →
      (@Ne Nat d D ∧ @Ne Nat pa D ∧ @Ne Nat ra D ∧ @Ne Nat c D) → StrsAre ys l → ys.length ≤ 3 → signsF cells b₀.toNat ⟨pl, lf, ps, rs⟩ = (l, ⟨pl + b₀, lf, ps, rs⟩) → (Str.join Str.empty l).length ≤ 6 → (∀ x ∈ l, x.length ≤ 2) →
      o'.IsDictOf (strKind PG w) [("cells", .ref c), ("place", .int (pl + b₀) t1'), ("left", .int lf t2), ("pairs", .ref pa), ("remarks", .ref ra)] → Q (.ref D) { s with heap := h, toks := tk }) :
    LCg.CompSrc PG w A h₀ L m env elt x scope cl (fun s₂ => LCg.FinE h₀ L m s₂ Q) (.ref r) s := by
  obtain ⟨n, rfl⟩ : ∃ n : Nat, b₀ = n := ⟨b₀.toNat, by omega⟩
  have hn : n = 0 ∨ n = 1 ∨ n = 2 ∨ n = 3 := by omega
  refine LCg.CompSrc.range (n := n) hh F N hr (by rcases hn with rfl | rfl | rfl | rfl <;> decide +kernel) (by rw [rangeSize_one]; split <;> omega) (by rw [sizeLine_eq]; omega) fun g => ?_
  refine signs_rest (ps := ps) (rs := rs) (fun _ => trivial) (step g) n 0 [] [] pl o t1 (Int.le_refl _) (by omega) .nil hd ?_
  intro ys o' t1' hy hd' D h tk F' N' off
  obtain ⟨l, e, hl, hx⟩ := signsF_spec cells n pl lf ps rs
  rw [e] at hy
  have hlen := hy.length
  simp only [List.nil_append] at hy hlen
  have hj := join_len l hx
  refine fin D h tk ys l o' t1' F' N' ⟨off.1, off.2.1, off.2.2.1, off.2.2.2.1⟩ hy (by omega) (by simpa using e) (by omega) hx hd'
end
theorem sum_len2 : ∀ (l : List Str), (∀ x ∈ l, x.length ≤ 2) → (l.map (·.length)).sum ≤ 2 * l.length
  | [], _ => Nat.zero_le _
  | x :: r, h => by
    have ih := sum_len2 r fun z hz => h z (.tail _ hz)
    have hx := h x (.head _)
    simp only [List.map_cons, List.sum_cons, List.length_cons]
    omega
theorem join_signs {prog : Program} {w : World} {A : Around} {E : Value → Shared → Prop} {s : Shared} {h₀ : Heap} {L D : Addr} {news : List (Addr × Obj)} {ys : List Value} {l : List Str} {n : Nat} {t : Tok} {Q : Value → Shared → Prop}
    (N : News h₀ L s.heap ((D, listOf ys.toArray n) :: news)) (hy : StrsAre ys l) (hn : ys.length ≤ 3) (hx : ∀ x ∈ l, x.length ≤ 2) (h : ∀ t' tk, Q (.str (Str.join Str.empty l) t') { s with toks := tk }) :
    wpAny (model prog w) A (call (.builtin "str.join") [.str (Str.ofString "") t, .ref D]) Q E s := by
  have e := hy.length
  have hs := sum_len2 l hx
  have e0 : (Str.ofString "").length = 0 := rfl
  refine join_list (items := ys.toArray) (ys := l) ⟨_, (N _ (.head _)).1, rfl, _, rfl⟩ hy (by rw [e0]; omega) fun t' k => ?_
  have ej : Txt.join (Str.ofString "") l = Str.join Str.empty l := StrLaws.glued_eq_join _ _
  rw [ej]
  exact h t' k
section
variable {w : World} {cells : List Int} {quoted part : Gen} {deep : Bool} {b many : Int} {h₀ : Heap} {L : Addr} {lc : Nat} {stored : List Str} {m₀ m' : Str → Option Value} {d c pa ra D D2 : Addr} {vs pv rv : List Value} {nc np nr : Nat} {R bs : List (Addr × Obj)} {x : Str} {pl lf pl2 : Int} {ps rs : List (Int × Int)} {Q : Flow → Shared → Prop} {s₁ : Shared} {h' : Heap} {tk : Nat} {tx' t1' t2' : Tok} {o' oD : Obj} {l : List Str} {ta tb : Tok}
theorem code_end1 (hm : (if deep = true ∧ 0 < lf then 5 else 3) = many) (hw : dipV cells pl many = 1) (hs : signsF cells (dipV cells (pl + 1) 4).toNat ⟨pl + 1 + 1, lf, ps, rs⟩ = (l, ⟨pl2, lf, ps, rs⟩)) (hj : (Str.join Str.empty l).length ≤ 6)
    (hp1 : pl ≤ pl2) (hp2 : pl2 ≤ pl + lc) (hlc : 10 ≤ lc)
    (F : Fr h₀ L h' m') (N : News h₀ L h' ((D, oD) :: (d, o') :: (pa, listOf pv.toArray np) :: (ra, listOf rv.toArray nr) :: (c, listOf vs.toArray nc) :: R)) (hx : m' "text" = some (.str (x ++ ("%" ++ Str.join Str.empty l ++ "\n")) tx'))
    (hmm : ∀ z : Str, z ≠ "lap" → z ≠ "text" → stored.contains z = false → m' z = m₀ z) (hd : o'.IsDictOf (strKind PG w) (feedL c pa ra pl2 lf t1' t2')) (hp : PairsIn bs pv ps) (hr : PairsIn bs rv rs) :
    LapPost w h₀ L (codeLap cells quoted part deep b) lc stored m₀ d c pa ra vs nc R bs x pl lf ps rs Q s₁ .next { s₁ with heap := h', toks := tk } := by
  have e1 : (Str.ofString "%").length = 1 := by decide +kernel
  have e2 : (Str.ofString "\n").length = 1 := by decide +kernel
  exact lap_end (tl := []) rfl rfl FreshTl.nil F (news_sub N fun q hq => .tail _ hq) hx hmm (codeLap_1 hm hw hs) (by simp only [str_len_app]; omega) hp1 hp2 (by omega) (by omega) hd hp hr
theorem code_end2 (hm : (if deep = true ∧ 0 < lf then 5 else 3) = many) (hw : dipV cells pl many = 2) (hs : signsF cells (dipV cells (pl + 1) 4).toNat ⟨pl + 1 + 1, lf, ps, rs⟩ = (l, ⟨pl2, lf, ps, rs⟩)) (hj : (Str.join Str.empty l).length ≤ 6)
    (hp1 : pl ≤ pl2) (hp2 : pl2 ≤ pl + lc) (hlc : 10 ≤ lc)
    (F : Fr h₀ L h' m') {y : Int} (hy : y = b + (x ++ (Str.ofString "/*" ++ Str.join Str.empty l ++ Str.ofString "*/")).length) (N : News h₀ L h' ((D2, tup2 (.int (b + x.length) ta) (.int y tb)) :: (D, oD) :: (d, o') :: (pa, listOf pv.toArray np) :: (ra, listOf (rv.toArray.push (.ref D2)) (nr + 1)) :: (c, listOf vs.toArray nc) :: R))
    (l1 : @LT.lt Nat _ D D2 ∧ @LT.lt Nat _ d D2 ∧ @LT.lt Nat _ pa D2 ∧ @LT.lt Nat _ ra D2 ∧ @LT.lt Nat _ c D2 ∧ AllLt D2 R)
    (hx : m' "text" = some (.str (x ++ ("/*" ++ Str.join Str.empty l ++ "*/")) tx'))
    (hmm : ∀ z : Str, z ≠ "lap" → z ≠ "text" → stored.contains z = false → m' z = m₀ z) (hd : o'.IsDictOf (strKind PG w) (feedL c pa ra pl2 lf t1' t2')) (hp : PairsIn bs pv ps) (hr : PairsIn bs rv rs) :
    LapPost w h₀ L (codeLap cells quoted part deep b) lc stored m₀ d c pa ra vs nc R bs x pl lf ps rs Q s₁ .next { s₁ with heap := h', toks := tk } := by
  subst hy
  have e1 : (Str.ofString "/*").length = 2 := by decide +kernel
  have e2 : (Str.ofString "*/").length = 2 := by decide +kernel
  refine lap_end (tl := [(D2, tup2 (.int (b + x.length) ta) (.int (b + (x ++ (Str.ofString "/*" ++ Str.join Str.empty l ++ Str.ofString "*/")).length) tb))]) (rv' := rv ++ [Value.ref D2]) (nr' := nr + 1) (np' := np) (rs' := rs ++ [(b + x.length, b + (x ++ (Str.ofString "/*" ++ Str.join Str.empty l ++ Str.ofString "*/")).length)]) (ps' := ps) (pl' := pl2) (lf' := lf) rfl rfl (FreshTl.nil.cons l1.2 fun _ h => h) F ?_ hx hmm (codeLap_2 hm hw hs)
    (by simp only [str_len_app]; omega) hp1 hp2 (by omega) (by rw [List.length_append, List.length_singleton]; omega) hd (hp.mono fun q hq => .tail _ hq) (PairsIn.snoc (.head _) (hr.mono fun q hq => .tail _ hq))
  refine news_sub N fun q hq => ?_
  simp only [led4, List.mem_cons, List.cons_append, List.nil_append, List.push_toArray] at hq ⊢
  rcases hq with h | h | h | h | h | h <;> simp only [h, true_or, or_true]
end
section
local macro_rules | `(tactic| k_ne) => `(tactic| (refine neN ?_; (try dsimp only); first | with_reducible assumption | (with_reducible refine Ne.symm ?_; with_reducible assumption) | (refine Nat.ne_of_gt ?_; first | with_reducible assumption | (with_reducible refine And.left ?_; with_reducible assumption)) | (refine Nat.ne_of_lt ?_; first | with_reducible assumption | (with_reducible refine And.left ?_; with_reducible assumption)) | omega))
theorem code_spec {w : World} {cells : List Int} {n kq kp u : Nat} {quoted part : Gen} {deep : Bool} (hdeep : deep = true ↔ 0 < n) (hQ : 0 < n → GenSpec w cells 201 (n - 1) kq u quoted) (hP : 0 < n → GenSpec w cells 189 (n - 1) kp u part) (hkq : kq ≤ kp) (hkp : kp ≤ 5000) (hu : 1 ≤ u) : GenSpec w cells 194 n (1 + 3 * (10 + kp)) (u + 1) (codeF cells quoted part deep) := by
  intro p loose mean mg mb dp un gd cn cs a ccd cl outer A₀ base h₀ L m s Q E d c pa ra o rest bs pl lf b ps rs pv rv vs np nr nc t1 t2 tb tf B F X N T hk hd n1 n2 n3 n4 n5 n6 r1 r2 r3 hI hcl hps hrs h0 h1 h2 h3 h4 h5 hdp hret
  have hpl := hps.len
  have hrl := hrs.len
  dsimp only [led4, feedL] at N hd
  refine wpAny_call ?_
  k_dflt (refine' code_defC ?k1 ?k2 ?k3 ?k4 ?k5 ?kA ?kF ?kK ?k6 ?k7 ?k8 ?k9 ?kB ?kD ?_ ?c2 ?c3 ?c4; (case kA => exact rfl); (case kF => exact rfl); (case kK => assumption); (case k1 => k_asm); (case k2 => k_asm); (case k3 => k_asm); (case k4 => k_asm); (case k5 => k_asm); (case k6 => k_is); (case k7 => k_is); (case k8 => ktr_room); (case k9 => exact BindsTo.of_eq rfl); (case kB => exact rfl); (case kD => decide +kernel); (case c2 => exact rfl); (case c3 => exact rfl); (case c4 => exact rfl); k_whole; intro g' L' h' tk' cells' FG' F' N' Y' B' X' T' l1; (try k_lt l1); obtain ⟨ox, hE, hox⟩ := CellsAre.one Y'; subst hE; (have hcd : ox.data = .cell (some (.ref d)) := hox); clear hox Y'; (try simp only [List.cons_append, List.nil_append] at N'); (try dsimp only); (try k_fold))
  have hmem : (L' + 1, ox) ∈ (L' + 1, ox) :: rest := .head _
  k_with_none
  k_with "execs cons" => (first | (k_here; k_gentoks) | ((with_reducible refine wpAny_execs_cons ?_); (try dsimp only); (try k_fold)))
  k_with "setItem ref str" => (k_here; k_dflt (refine kda_set (knd := PySem.strKind _ _) (by k_asm) (by k_asm) (by k_updF) (by k_asm) (strKind_is _ _ _ _) (by kob_size) ?_); intro hq₉ oq₉ Fq₉ Nq₉ hdq₉; (try kob_lit); (try dsimp only at Nq₉))
  k_with "subscriptTail" => (k_here; (with_reducible show wpAny _ _ (subscriptTail _ _ (Value.ref 172) (Value.int _ _)) _ _ _); k_dflt (refine menu_item (menu_plain (by k_in)) mPlain_len (by first | (with_reducible assumption) | decide | omega) (by first | (with_reducible assumption) | (show _ < (7 : Int); omega)) (by first | (with_reducible assumption) | decide | omega) ?_); intro t9k₉ l9k₉)
  k_with "subscriptTail" => (k_here; (with_reducible show wpAny _ _ (subscriptTail _ _ (Value.ref 173) (Value.int _ _)) _ _ _); k_dflt (refine menu_item (menu_hidden (by k_in)) mHidden_len (by first | (with_reducible assumption) | decide | omega) (by first | (with_reducible assumption) | (show _ < (7 : Int); omega)) (by first | (with_reducible assumption) | decide | omega) ?_); intro t9k₉ l9k₉)
  k_with "subscriptTail" => (k_here; (with_reducible show wpAny _ _ (subscriptTail _ _ (Value.ref 174) (Value.int _ _)) _ _ _); k_dflt (refine menu_item (menu_lone (by k_in)) mLone_len (by first | (with_reducible assumption) | decide | omega) (by first | (with_reducible assumption) | (show _ < (7 : Int); omega)) (by first | (with_reducible assumption) | decide | omega) ?_); intro t9k₉ l9k₉)
  k_with "subscriptTail" => (k_here; (with_reducible show wpAny _ _ (subscriptTail _ _ (Value.ref 175) (Value.int _ _)) _ _ _); k_dflt (refine menu_item (menu_escaped (by k_in)) mEscaped_len (by first | (with_reducible assumption) | decide | omega) (by first | (with_reducible assumption) | (show _ < (4 : Int); omega)) (by first | (with_reducible assumption) | decide | omega) ?_); intro t9k₉ l9k₉)
  k_with "call ref" => (k_here; (with_reducible show wpAny _ _ (call (Value.ref 182) _) _ _ _); k_dflt (refine dip_call (by k_asm) (by k_asm) (by k_asm) (by k_asm) (by k_asm) (by exact rfl) (by k_updF) (by k_asm) (by k_mem) (by assumption) (by assumption) (by assumption) (by first | (with_reducible assumption) | decide | omega) (by first | (with_reducible assumption) | decide | omega) (by first | (with_reducible assumption) | decide | omega) (by first | (with_reducible assumption) | decide | omega) (by first | (show _ + 1 + 1 < _; omega) | ktr_room) ?_); intro t9k₉ h9k₉ tk9k₉ o9k₉ t19k₉ lo9k₉ hi9k₉ Fq₉ Nq₉ hd9k₉; (try dsimp only at Nq₉))
  k_with "call ref" => (k_here; (first | (with_reducible show wpAny _ _ (call (Value.ref 189) _) _ _ _) | (with_reducible show wpAny _ _ (call (Value.ref 194) _) _ _ _) | (with_reducible show wpAny _ _ (call (Value.ref 201) _) _ _ _)); k_dflt (refine gen_useP (by assumption) (by first | (with_reducible assumption) | decide | omega) (by k_asm) (by k_asm) (by k_asm) (by k_asm) (by k_asm) (by exact rfl) (by k_asm) (by assumption) (by assumption) (by assumption) (by assumption) (by assumption) (by assumption) (by assumption) (by assumption) (by assumption) (by assumption) (by assumption) (by assumption) (by assumption) (by first | (with_reducible assumption) | decide | omega) (by first | (with_reducible assumption) | decide | omega) (by first | (with_reducible assumption) | decide | omega) (by first | (with_reducible assumption) | decide | omega) (by first | (with_reducible assumption) | decide | omega) (by first | (with_reducible assumption) | decide | omega) (by first | (with_reducible assumption) | decide | omega) (by first | (show _ + 1 + _ < _; omega) | ktr_room) ?_); intro x9k₉ pl9k₉ lf9k₉ ps9k₉ rs9k₉ pv9k₉ rv9k₉ np9k₉ nr9k₉ tl9k₉ rest9k₉ bs9k₉ t9k₉ h9k₉ tk9k₉ o9k₉ t19k₉ t29k₉ er9k₉ eb9k₉ ft9k₉ e19k₉ e29k₉ e39k₉ e49k₉ e59k₉ e69k₉ Fq₉ Nq₉ hd9k₉ hp9k₉ hr9k₉ hpl9k₉ hrl9k₉ r19k₉ r29k₉ r39k₉)
  k_with "exec For Name Call cons nil" => (k_here; (rename Fr _ _ _ _ => lFq₉); (with_unfolding_all refine For_invVF lFq₉ (by exact rfl) (by exact rfl) ?_; k_whole))
  k_with "pyIter ref" => (k_here; refine halt ?_)
  k_with "call type:range" => (k_here; (rename Fr _ _ _ _ => Fq₉); (rename News _ _ _ _ => Nq₉); (with_unfolding_all refine range1_rows Fq₉ Nq₉ ?_; intro _ _ _ _ _ _ _ _ _))
  k_with "eval Name" => (k_here; (with_reducible show wpAny _ _ (eval (Expr.Name (Str.ofString "feed") _) (envOfC _ _ _ _ _)) _ _ _); k_dflt (refine nameX_C (by k_asm) (by rfl) (by repeat' (first | (with_reducible assumption) | (with_reducible exact List.mem_cons_self) | (with_reducible refine List.mem_cons_of_mem _ ?_))) (by with_reducible assumption) ?_ (by rfl) (by rfl); k_whole))
  k_with "eval Name" => (k_here; (with_reducible show wpAny _ _ (eval (Expr.Name (Str.ofString "feed") _) (compEnvC _ _ _ _)) _ _ _); k_dflt (refine lcf_cell (by k_asm) (by rfl) (by repeat' (first | (with_reducible assumption) | (with_reducible exact List.mem_cons_self) | (with_reducible refine List.mem_cons_of_mem _ ?_))) (by with_reducible assumption) ?_ (by rfl) (by rfl); k_whole))
  k_with "CompSrc" => (refine halt ?_)
  k_with "call builtin:str.join" => (k_here; k_dflt (refine join_signs (by k_asm) (by assumption) (by assumption) (by assumption) ?_; intro t9k₉ tk9k₉))
  k_with "eval IfExp" => (k_here; refine halt ?_)
  k_steps
  unfold Halt
  k_dflt (refine' gen_loop (codeLap cells quoted part deep b) (10 + kp) ["spot", "way", "signs"] (rest := (L' + 1, _) :: rest) ?hh ?hr ?hb0 ?hb3 ?F ?N ?hd ?htx n1 n2 n3 n4 n5 n6 ?r1 ?r2 ?r3 hps hrs ?turn ?done)
  case N => exact news_cell (by k_asm)
  case hh => exact rfl
  case hr => assumption
  case hb0 => assumption
  case hb3 => assumption
  case F => k_asm
  case hd => k_asm
  case htx => exact rfl
  case r1 => exact off_cell (by omega) r1
  case r2 => exact off_cell (by omega) r2
  case r3 => exact off_cell (by omega) r3
  case turn =>
    intro i ti x tx pl' lf' ps' rs' pv' rv' np' nr' o' t1' t2' R' bs' u h tk hi b1 b2 b3 b4 b5 q1 q2 q3 hin hp' hr' hpl' hrl' F7 N7 hd7
    have e0 : (Str.ofString "").length = 0 := rfl
    have e1 : i * (10 + kp) ≤ 2 * (10 + kp) := Nat.mul_le_mul_right _ (by omega)
    have e2 : (i : Int) * ((10 + kp : Nat) : Int) ≤ 2 * ((10 + kp : Nat) : Int) := by exact_mod_cast e1
    have l1 : (Str.ofString "\"").length = 1 := by decide +kernel
    have l2 : (Str.ofString "(").length = 1 := by decide +kernel
    have e3 : x.length ≤ 2 * (10 + kp) := by omega
    have e4 : pl' ≤ pl + 1 + 2 * (10 + kp) := by omega
    have e5 : ps'.length ≤ ps.length + 2 * (10 + kp) := by omega
    have e6 : rs'.length ≤ rs.length + 2 * (10 + kp) := by omega
    have y1 : 0 ≤ pl' := by omega
    have y2 : pl' + (kp : Int) + 10 ≤ 90000 := by omega
    have y3 : ps'.length + kp + 10 ≤ 90000 := by omega
    have y4 : rs'.length + kp + 10 ≤ 90000 := by omega
    have y5 : b + (x.length : Int) + (kp : Int) + 10 ≤ 90000 := by omega
    have y6 : x.length ≤ 20000 := by omega
    clear b1 b2 b3 b4 b5 e1 e2 e3 e4 e5 e6 h0 h1 h2 h3 h5 hpl hrl hi
    clear hmem
    have hmem := hin _ (.head _)
    obtain ⟨many, hmany, hlots⟩ := lots (lf := lf') (a := 5) (b := 3) hdeep
    try k_fold
    k_steps
    unfold Halt
    k_dflt (refine int_join (if deep = true ∧ 0 < lf' then 5 else 3) ?_ ?_)
    · skip
      k_with_none
      k_with "execs cons" => (first | (k_here; k_gentoks) | ((with_reducible refine wpAny_execs_cons ?_); (try dsimp only); (try k_fold)))
      k_with "setItem ref str" => (k_here; k_dflt (refine kda_set (knd := PySem.strKind _ _) (by k_asm) (by k_asm) (by k_updF) (by k_asm) (strKind_is _ _ _ _) (by kob_size) ?_); intro hq₉ oq₉ Fq₉ Nq₉ hdq₉; (try kob_lit); (try dsimp only at Nq₉))
      k_with "subscriptTail" => (k_here; (with_reducible show wpAny _ _ (subscriptTail _ _ (Value.ref 172) (Value.int _ _)) _ _ _); k_dflt (refine menu_item (menu_plain (by k_in)) mPlain_len (by first | (with_reducible assumption) | decide | omega) (by first | (with_reducible assumption) | (show _ < (7 : Int); omega)) (by first | (with_reducible assumption) | decide | omega) ?_); intro t9k₉ l9k₉)
      k_with "subscriptTail" => (k_here; (with_reducible show wpAny _ _ (subscriptTail _ _ (Value.ref 173) (Value.int _ _)) _ _ _); k_dflt (refine menu_item (menu_hidden (by k_in)) mHidden_len (by first | (with_reducible assumption) | decide | omega) (by first | (with_reducible assumption) | (show _ < (7 : Int); omega)) (by first | (with_reducible assumption) | decide | omega) ?_); intro t9k₉ l9k₉)
      k_with "subscriptTail" => (k_here; (with_reducible show wpAny _ _ (subscriptTail _ _ (Value.ref 174) (Value.int _ _)) _ _ _); k_dflt (refine menu_item (menu_lone (by k_in)) mLone_len (by first | (with_reducible assumption) | decide | omega) (by first | (with_reducible assumption) | (show _ < (7 : Int); omega)) (by first | (with_reducible assumption) | decide | omega) ?_); intro t9k₉ l9k₉)
      k_with "subscriptTail" => (k_here; (with_reducible show wpAny _ _ (subscriptTail _ _ (Value.ref 175) (Value.int _ _)) _ _ _); k_dflt (refine menu_item (menu_escaped (by k_in)) mEscaped_len (by first | (with_reducible assumption) | decide | omega) (by first | (with_reducible assumption) | (show _ < (4 : Int); omega)) (by first | (with_reducible assumption) | decide | omega) ?_); intro t9k₉ l9k₉)
      k_with "call ref" => (k_here; (with_reducible show wpAny _ _ (call (Value.ref 182) _) _ _ _); k_dflt (refine dip_call (by k_asm) (by k_asm) (by k_asm) (by k_asm) (by k_asm) (by exact rfl) (by k_updF) (by k_asm) (by k_mem) (by assumption) (by assumption) (by assumption) (by first | (with_reducible assumption) | decide | omega) (by first | (with_reducible assumption) | decide | omega) (by first | (with_reducible assumption) | decide | omega) (by first | (with_reducible assumption) | decide | omega) (by first | (show _ + 1 + 1 < _; omega) | ktr_room) ?_); intro t9k₉ h9k₉ tk9k₉ o9k₉ t19k₉ lo9k₉ hi9k₉ Fq₉ Nq₉ hd9k₉; (try dsimp only at Nq₉))
      k_with "call ref" => (k_here; (first | (with_reducible show wpAny _ _ (call (Value.ref 189) _) _ _ _) | (with_reducible show wpAny _ _ (call (Value.ref 194) _) _ _ _) | (with_reducible show wpAny _ _ (call (Value.ref 201) _) _ _ _)); k_dflt (refine gen_useP (by assumption) (by first | (with_reducible assumption) | decide | omega) (by k_asm) (by k_asm) (by k_asm) (by k_asm) (by k_asm) (by exact rfl) (by k_asm) (by assumption) (by assumption) (by assumption) (by assumption) (by assumption) (by assumption) (by assumption) (by assumption) (by assumption) (by assumption) (by assumption) (by assumption) (by assumption) (by first | (with_reducible assumption) | decide | omega) (by first | (with_reducible assumption) | decide | omega) (by first | (with_reducible assumption) | decide | omega) (by first | (with_reducible assumption) | decide | omega) (by first | (with_reducible assumption) | decide | omega) (by first | (with_reducible assumption) | decide | omega) (by first | (with_reducible assumption) | decide | omega) (by first | (show _ + 1 + _ < _; omega) | ktr_room) ?_); intro x9k₉ pl9k₉ lf9k₉ ps9k₉ rs9k₉ pv9k₉ rv9k₉ np9k₉ nr9k₉ tl9k₉ rest9k₉ bs9k₉ t9k₉ h9k₉ tk9k₉ o9k₉ t19k₉ t29k₉ er9k₉ eb9k₉ ft9k₉ e19k₉ e29k₉ e39k₉ e49k₉ e59k₉ e69k₉ Fq₉ Nq₉ hd9k₉ hp9k₉ hr9k₉ hpl9k₉ hrl9k₉ r19k₉ r29k₉ r39k₉)
      k_with "exec For Name Call cons nil" => (k_here; (rename Fr _ _ _ _ => lFq₉); (with_unfolding_all refine For_invVF lFq₉ (by exact rfl) (by exact rfl) ?_; k_whole))
      k_with "pyIter ref" => (k_here; refine halt ?_)
      k_with "call type:range" => (k_here; (rename Fr _ _ _ _ => Fq₉); (rename News _ _ _ _ => Nq₉); (with_unfolding_all refine range1_rows Fq₉ Nq₉ ?_; intro _ _ _ _ _ _ _ _ _))
      k_with "eval Name" => (k_here; (with_reducible show wpAny _ _ (eval (Expr.Name (Str.ofString "feed") _) (envOfC _ _ _ _ _)) _ _ _); k_dflt (refine nameX_C (by k_asm) (by rfl) (by repeat' (first | (with_reducible assumption) | (with_reducible exact List.mem_cons_self) | (with_reducible refine List.mem_cons_of_mem _ ?_))) (by with_reducible assumption) ?_ (by rfl) (by rfl); k_whole))
      k_with "eval Name" => (k_here; (with_reducible show wpAny _ _ (eval (Expr.Name (Str.ofString "feed") _) (compEnvC _ _ _ _)) _ _ _); k_dflt (refine lcf_cell (by k_asm) (by rfl) (by repeat' (first | (with_reducible assumption) | (with_reducible exact List.mem_cons_self) | (with_reducible refine List.mem_cons_of_mem _ ?_))) (by with_reducible assumption) ?_ (by rfl) (by rfl); k_whole))
      k_with "CompSrc" => (refine halt ?_)
      k_with "call builtin:str.join" => (k_here; k_dflt (refine join_signs (by k_asm) (by assumption) (by assumption) (by assumption) ?_; intro t9k₉ tk9k₉))
      k_steps
      all_goals try (refine lots_val hdeep ?_; omega)
    rw [hmany]
    intro t9 tk9
    k_with_none
    k_with "execs cons" => (first | (k_here; k_gentoks) | ((with_reducible refine wpAny_execs_cons ?_); (try dsimp only); (try k_fold)))
    k_with "setItem ref str" => (k_here; k_dflt (refine kda_set (knd := PySem.strKind _ _) (by k_asm) (by k_asm) (by k_updF) (by k_asm) (strKind_is _ _ _ _) (by kob_size) ?_); intro hq₉ oq₉ Fq₉ Nq₉ hdq₉; (try kob_lit); (try dsimp only at Nq₉))
    k_with "subscriptTail" => (k_here; (with_reducible show wpAny _ _ (subscriptTail _ _ (Value.ref 172) (Value.int _ _)) _ _ _); k_dflt (refine menu_item (menu_plain (by k_in)) mPlain_len (by first | (with_reducible assumption) | decide | omega) (by first | (with_reducible assumption) | (show _ < (7 : Int); omega)) (by first | (with_reducible assumption) | decide | omega) ?_); intro t9k₉ l9k₉)
    k_with "subscriptTail" => (k_here; (with_reducible show wpAny _ _ (subscriptTail _ _ (Value.ref 173) (Value.int _ _)) _ _ _); k_dflt (refine menu_item (menu_hidden (by k_in)) mHidden_len (by first | (with_reducible assumption) | decide | omega) (by first | (with_reducible assumption) | (show _ < (7 : Int); omega)) (by first | (with_reducible assumption) | decide | omega) ?_); intro t9k₉ l9k₉)
    k_with "subscriptTail" => (k_here; (with_reducible show wpAny _ _ (subscriptTail _ _ (Value.ref 174) (Value.int _ _)) _ _ _); k_dflt (refine menu_item (menu_lone (by k_in)) mLone_len (by first | (with_reducible assumption) | decide | omega) (by first | (with_reducible assumption) | (show _ < (7 : Int); omega)) (by first | (with_reducible assumption) | decide | omega) ?_); intro t9k₉ l9k₉)
    k_with "subscriptTail" => (k_here; (with_reducible show wpAny _ _ (subscriptTail _ _ (Value.ref 175) (Value.int _ _)) _ _ _); k_dflt (refine menu_item (menu_escaped (by k_in)) mEscaped_len (by first | (with_reducible assumption) | decide | omega) (by first | (with_reducible assumption) | (show _ < (4 : Int); omega)) (by first | (with_reducible assumption) | decide | omega) ?_); intro t9k₉ l9k₉)
    k_with "call ref" => (k_here; (with_reducible show wpAny _ _ (call (Value.ref 182) _) _ _ _); k_dflt (refine dip_call (by k_asm) (by k_asm) (by k_asm) (by k_asm) (by k_asm) (by exact rfl) (by k_updF) (by k_asm) (by k_mem) (by assumption) (by assumption) (by assumption) (by first | (with_reducible assumption) | decide | omega) (by first | (with_reducible assumption) | decide | omega) (by first | (with_reducible assumption) | decide | omega) (by first | (with_reducible assumption) | decide | omega) (by first | (show _ + 1 + 1 < _; omega) | ktr_room) ?_); intro t9k₉ h9k₉ tk9k₉ o9k₉ t19k₉ lo9k₉ hi9k₉ Fq₉ Nq₉ hd9k₉; (try dsimp only at Nq₉))
    k_with "call ref" => (k_here; (first | (with_reducible show wpAny _ _ (call (Value.ref 189) _) _ _ _) | (with_reducible show wpAny _ _ (call (Value.ref 194) _) _ _ _) | (with_reducible show wpAny _ _ (call (Value.ref 201) _) _ _ _)); k_dflt (refine gen_useP (by assumption) (by first | (with_reducible assumption) | decide | omega) (by k_asm) (by k_asm) (by k_asm) (by k_asm) (by k_asm) (by exact rfl) (by k_asm) (by assumption) (by assumption) (by assumption) (by assumption) (by assumption) (by assumption) (by assumption) (by assumption) (by assumption) (by assumption) (by assumption) (by assumption) (by assumption) (by first | (with_reducible assumption) | decide | omega) (by first | (with_reducible assumption) | decide | omega) (by first | (with_reducible assumption) | decide | omega) (by first | (with_reducible assumption) | decide | omega) (by first | (with_reducible assumption) | decide | omega) (by first | (with_reducible assumption) | decide | omega) (by first | (with_reducible assumption) | decide | omega) (by first | (show _ + 1 + _ < _; omega) | ktr_room) ?_); intro x9k₉ pl9k₉ lf9k₉ ps9k₉ rs9k₉ pv9k₉ rv9k₉ np9k₉ nr9k₉ tl9k₉ rest9k₉ bs9k₉ t9k₉ h9k₉ tk9k₉ o9k₉ t19k₉ t29k₉ er9k₉ eb9k₉ ft9k₉ e19k₉ e29k₉ e39k₉ e49k₉ e59k₉ e69k₉ Fq₉ Nq₉ hd9k₉ hp9k₉ hr9k₉ hpl9k₉ hrl9k₉ r19k₉ r29k₉ r39k₉)
    k_with "exec For Name Call cons nil" => (k_here; (rename Fr _ _ _ _ => lFq₉); (with_unfolding_all refine For_invVF lFq₉ (by exact rfl) (by exact rfl) ?_; k_whole))
    k_with "pyIter ref" => (k_here; refine halt ?_)
    k_with "call type:range" => (k_here; (rename Fr _ _ _ _ => Fq₉); (rename News _ _ _ _ => Nq₉); (with_unfolding_all refine range1_rows Fq₉ Nq₉ ?_; intro _ _ _ _ _ _ _ _ _))
    k_with "eval Name" => (k_here; (with_reducible show wpAny _ _ (eval (Expr.Name (Str.ofString "feed") _) (envOfC _ _ _ _ _)) _ _ _); k_dflt (refine nameX_C (by k_asm) (by rfl) (by repeat' (first | (with_reducible assumption) | (with_reducible exact List.mem_cons_self) | (with_reducible refine List.mem_cons_of_mem _ ?_))) (by with_reducible assumption) ?_ (by rfl) (by rfl); k_whole))
    k_with "eval Name" => (k_here; (with_reducible show wpAny _ _ (eval (Expr.Name (Str.ofString "feed") _) (compEnvC _ _ _ _)) _ _ _); k_dflt (refine lcf_cell (by k_asm) (by rfl) (by repeat' (first | (with_reducible assumption) | (with_reducible exact List.mem_cons_self) | (with_reducible refine List.mem_cons_of_mem _ ?_))) (by with_reducible assumption) ?_ (by rfl) (by rfl); k_whole))
    k_with "CompSrc" => (refine halt ?_)
    k_with "call builtin:str.join" => (k_here; k_dflt (refine join_signs (by k_asm) (by assumption) (by assumption) (by assumption) ?_; intro t9k₉ tk9k₉))
    k_steps
    all_goals try (exfalso; omega)
    all_goals first
      | (unfold Halt
         k_dflt (refine' signs_src (ps := ps') (rs := rs') ?hh ?F ?N ?hr ?hb0 ?hb3 ?hd n1 n2 n3 ?step ?fin)
         (case N => k_asm)
         (case F => k_asm)
         (case hh => exact rfl)
         (case hr => assumption)
         (case hb0 => assumption)
         (case hb3 => assumption)
         (case hd => k_asm)
         (case step =>
          intro g pl8 o8 t18 I8 C8 D8 oI8 oC8 oD8 h8 tk8 Q8 E8 z1 z2 hd8 F8 N8 z3 z4 z5 hQ8
          k_steps
          all_goals exact hQ8 _ _ _ _ _ (by k_asm) (by k_asm) (by k_asm))
         (case fin =>
          intro D8 h8 tk8 ys8 l8 o8 t18 F8 N8 nD hy8 z1 z2 z3 z4 hd8
          k_steps
          all_goals try (exfalso; omega)
          all_goals (
            (first
              | k_dflt (refine' code_end1 hmany (by assumption) z2 z3 ?b2 ?b3 ?b4 ?F ?N ?hx ?hmm ?hd hp' hr')
              | k_dflt (refine' code_end2 hmany (by assumption) z2 z3 ?b2 ?b3 ?b4 ?F ?hy ?N (by assumption) ?hx ?hmm ?hd hp' hr'))
            (case F => k_asm)
            (case N => k_asm)
            (try (case hy => simp only [str_len_app]; done))
            (case hx => exact rfl)
            (case hmm =>
            intro z h1 h2 h3
            simp only [List.contains_cons, List.contains_nil, Bool.or_false, Bool.or_eq_false_iff, beq_eq_false_iff_ne, ne_eq] at h3
            obtain ⟨h3, h4, h5⟩ := h3
            simp [h1, h2, h3, h4, h5])
            (case b2 => omega)
            (case b3 => omega)
            (case b4 => omega)
            (case hd => k_asm))))
      | ((first
          | k_dflt (refine' lap_end (tl := []) rfl rfl FreshTl.nil ?F ?N ?hx ?hmm (codeLap_0 hmany (by assumption)) ?b1 ?b2 ?b3 ?b4 ?b5 ?hd hp' hr')
          | k_dflt (refine' lap_end (by assumption) (by assumption) (by assumption) ?F ?N ?hx ?hmm (codeLap_3 hmany (by assumption) (by assumption)) ?b1 ?b2 ?b3 ?b4 ?b5 ?hd (by assumption) (by assumption))
          | k_dflt (refine' lap_end (by assumption) (by assumption) (by assumption) ?F ?N ?hx ?hmm (codeLap_4 hmany (by assumption) (by assumption)) ?b1 ?b2 ?b3 ?b4 ?b5 ?hd (by assumption) (by assumption)))
         (case F => k_asm)
         (case N => k_asm)
         (case hx => exact rfl)
         (case hmm =>
           intro z h1 h2 h3
           simp only [List.contains_cons, List.contains_nil, Bool.or_false, Bool.or_eq_false_iff, beq_eq_false_iff_ne, ne_eq] at h3
           obtain ⟨h3, h4, h5⟩ := h3
           simp [h1, h2, h3, h4, h5])
         (case b1 => simp only [str_len_app]; omega)
         (case b2 => omega)
         (case b3 => omega)
         (case b4 => omega)
         (case b5 => omega)
         (case hd => k_asm))
  case done =>
    intro x tx pl' lf' ps' rs' pv' rv' np' nr' tl o' t1' t2' u h tk e1 e2 e3 e4 e5 e6 F7 N7 hd7 hp7 hr7 htl
    try dsimp only
    have e0 : (Str.ofString "").length = 0 := rfl
    k_steps
    rename News h₀ L _ _ => kN
    refine hret x pl' lf' ps' rs' pv' rv' np' nr' tl _ _ _ o' t1' t2' e1 (by omega) (by omega) (by omega) (by omega) (by omega) (by k_asm) (news_uncell kN) (by k_asm) hp7 hr7 htl.uncell
end
theorem calm10 {M : Model} {A : Around} {E : Value → Shared → Prop} {s : Shared} {env : Env} {Q : Flow → Shared → Prop} (h : Q .next s) : wpAny M A (execs [] env) Q E s := by
  k_with_none
  w_top off
  walk1
  exact h
theorem GenSpec.mono {w : World} {cells : List Int} {f : Addr} {n k u u' : Nat} {G : Gen} (h : GenSpec w cells f n k u G) (hu : u ≤ u') : GenSpec w cells f n k u' G := by
  intro p loose mean mg mb dp un gd cn cs a ccd cl outer A₀ base h₀ L m s Q E d c pa ra o rest bs pl lf b ps rs pv rv vs np nr nc t1 t2 tb tf B F X N T hk hd n1 n2 n3 n4 n5 n6 r1 r2 r3 hI hcl hps hrs h0 h1 h2 h3 h4 h5 hdp hret
  exact h p loose mean mg mb dp un gd cn cs a ccd cl outer A₀ base h₀ L m s Q E d c pa ra o rest bs pl lf b ps rs pv rv vs np nr nc t1 t2 tb tf B F X N T hk hd n1 n2 n3 n4 n5 n6 r1 r2 r3 hI hcl hps hrs h0 h1 h2 h3 h4 h5 (by omega) hret
theorem gens_spec {w : World} {cells : List Int} : ∀ n : Nat, n ≤ 4 → GenSpec w cells 194 n (cost n) (2 + 2 * n) (gen cells n).1 ∧ GenSpec w cells 201 n (cost n) (2 + 2 * n) (gen cells n).2
  | 0, _ => by
    have hc := code_spec (w := w) (cells := cells) (n := 0) (kq := 0) (kp := 0) (u := 1) (quoted := noGen) (part := noGen) (deep := false) (by simp) (fun h => absurd h (Nat.lt_irrefl 0)) (fun h => absurd h (Nat.lt_irrefl 0)) (Nat.le_refl _) (Nat.zero_le _) (Nat.le_refl _)
    have hq := quoted_spec (w := w) (cells := cells) (n := 0) (kp := 0) (u := 1) (part := noGen) (deep := false) (by simp) (fun h => absurd h (Nat.lt_irrefl 0)) (Nat.zero_le _) (Nat.le_refl _)
    exact ⟨hc, hq⟩
  | n + 1, hn => by
    obtain ⟨hc, hq⟩ := gens_spec (w := w) (cells := cells) n (by omega)
    have hp := part_spec hc
    have hcost : cost n + 1 ≤ 5000 := by
      have : n = 0 ∨ n = 1 ∨ n = 2 ∨ n = 3 := by omega
      rcases this with rfl | rfl | rfl | rfl <;> decide
    have ek : 1 + 3 * (10 + (cost n + 1)) = cost (n + 1) := by show _ = 34 + 3 * cost n; omega
    have eu : 2 + 2 * n + 1 + 1 = 2 + 2 * (n + 1) := by omega
    have hd : true = true ↔ 0 < n + 1 := ⟨fun _ => Nat.succ_pos n, fun _ => rfl⟩
    refine ⟨?_, ?_⟩
    · have h := code_spec (n := n + 1) (deep := true) (quoted := (gen cells n).2) hd (fun _ => hq.mono (u' := 2 + 2 * n + 1) (by omega)) (fun _ => hp) (by omega) hcost (by omega)
      rw [ek, eu] at h
      exact h
    · have h := quoted_spec (n := n + 1) (deep := true) hd (fun _ => hp) hcost (by omega)
      rw [ek, eu] at h
      exact h
theorem top_part {w : World} {cells : List Int} : GenSpec w cells 189 4 3872 11 (partF (gen cells 4).1) := by
  have h := part_spec (gens_spec (w := w) (cells := cells) 4 (Nat.le_refl _)).1
  have e : cost 4 + 1 = 3872 := by decide
  rw [e] at h
  exact h
/-! the plain law, first part: the scanner's loop apart from its fuel -/
section
variable (T : Str) (e : Nat)
theorem lineEnd_ge : ∀ k s, s ≤ lineEnd T e k s
  | 0, s => Nat.le_refl _
  | k + 1, s => by
    unfold lineEnd
    split
    · exact Nat.le_trans (Nat.le_succ s) (lineEnd_ge k (s + 1))
    · exact Nat.le_refl _
theorem lineEnd_gt {s : Nat} (hs : s < e) (h : ch T s ≠ 10) : s < lineEnd T e (e - s) s := by
  obtain ⟨j, hj⟩ : ∃ j, e - s = j + 1 := ⟨e - s - 1, by omega⟩
  rw [hj]
  unfold lineEnd
  rw [if_pos ⟨hs, h⟩]
  exact lineEnd_ge T e j (s + 1)
theorem starEnd_ge : ∀ k s c, starEnd T e k s = some c → s ≤ c
  | 0, s, c, h => by simp [starEnd] at h
  | k + 1, s, c, h => by
    unfold starEnd at h
    split at h
    · split at h
      · cases h; exact Nat.le_refl _
      · exact Nat.le_trans (Nat.le_succ s) (starEnd_ge k (s + 1) c h)
    · cases h
theorem skipF_ge : ∀ k s n, skipF T e k s = .close n → s ≤ n
  | 0, s, n, h => by simp only [skipF, Told.close.injEq] at h; omega
  | k + 1, s, n, h => by
    unfold skipF at h
    split at h
    · rename_i hs
      split at h
      · exact Nat.le_trans (Nat.le_succ s) (skipF_ge k (s + 1) n h)
      · split at h
        · exact Nat.le_trans (lineEnd_ge T e _ s) (skipF_ge k _ n h)
        · split at h
          · split at h
            · cases h
            · rename_i c hc
              have h1 := starEnd_ge T e _ _ _ hc
              have h2 := skipF_ge k _ n h
              omega
          · cases h; exact Nat.le_refl _
    · cases h; exact Nat.le_refl _
theorem skipF_fuel : ∀ k k' s, e - s < k → e - s < k' → skipF T e k s = skipF T e k' s
  | 0, _, _, h, _ => absurd h (Nat.not_lt_zero _)
  | _ + 1, 0, _, _, h => absurd h (Nat.not_lt_zero _)
  | k + 1, k' + 1, s, h, h' => by
    unfold skipF
    by_cases hs : s < e
    · rw [if_pos hs, if_pos hs]
      rw [skipF_fuel k k' (s + 1) (by omega) (by omega)]
      by_cases hb : isBlank (ch T s) = true
      · rw [if_pos hb, if_pos hb]
      · rw [if_neg hb, if_neg hb]
        by_cases h3 : ch T s = 37
        · rw [if_pos h3, if_pos h3]
          have := lineEnd_gt T e hs (by omega)
          exact skipF_fuel k k' _ (by omega) (by omega)
        · rw [if_neg h3, if_neg h3]
          by_cases h4 : ch T s = 47 ∧ ch T (s + 1) = 42
          · rw [if_pos h4, if_pos h4]
            cases hc : starEnd T e (e - s) (s + 2) with
            | none => rfl
            | some c =>
              have := starEnd_ge T e _ _ _ hc
              exact skipF_fuel k k' _ (by omega) (by omega)
          · rw [if_neg h4, if_neg h4]
    · rw [if_neg hs, if_neg hs]
/-- a remark's sign passed moves on -/
theorem skipF_gt {s n : Nat} (hs : s < e) (hc : ch T s = 37 ∨ (ch T s = 47 ∧ ch T (s + 1) = 42)) (h : skipF T e (e - s + 1) s = .close n) : s < n := by
  unfold skipF at h
  rw [if_pos hs] at h
  have hb : ¬ isBlank (ch T s) = true := by
    rcases hc with hc | hc
    · rw [hc]; decide
    · rw [hc.1]; decide
  rw [if_neg hb] at h
  split at h
  · rename_i h3
    have := lineEnd_gt T e hs (by omega)
    have := skipF_ge T e _ _ _ h
    omega
  · split at h
    · split at h
      · cases h
      · rename_i c hc
        have h1 := starEnd_ge T e _ _ _ hc
        have h2 := skipF_ge T e _ _ n h
        omega
    · rename_i h3 h4
      rcases hc with hc | hc
      · exact absurd hc h3
      · exact absurd hc h4
theorem innerF_fuel (b : Nat) : ∀ k k' s w, e - s < k → e - s < k' → innerF T e b k s w = innerF T e b k' s w
  | 0, _, _, _, h, _ => absurd h (Nat.not_lt_zero _)
  | _ + 1, 0, _, _, _, h => absurd h (Nat.not_lt_zero _)
  | k + 1, k' + 1, s, w, h, h' => by
    unfold innerF
    by_cases hs : s < e
    · have i1 : ∀ w, innerF T e b k (s + 1) w = innerF T e b k' (s + 1) w := fun w => innerF_fuel b k k' (s + 1) w (by omega) (by omega)
      have i2 : ∀ w, innerF T e b k (s + 2) w = innerF T e b k' (s + 2) w := fun w => innerF_fuel b k k' (s + 2) w (by omega) (by omega)
      simp only [if_pos hs, i1, i2]
      by_cases h6 : ch T s = 37 ∨ (ch T s = 47 ∧ ch T (s + 1) = 42)
      · simp only [if_pos h6]
        cases q : skipF T e (e - s + 1) s with
        | fault n => rfl
        | close n =>
          have := skipF_gt T e hs h6 q
          simp only [innerF_fuel b k k' n w (by omega) (by omega)]
      · simp only [if_neg h6]
    · simp only [if_neg hs]
end

/-- the scanner's loop from a place on -/
noncomputable def GG (T : Str) (e b s : Nat) (w : List Bool) : Told := innerF T e b (e - s + 1) s w
noncomputable def SS (T : Str) (e s : Nat) : Told := skipF T e (e - s + 1) s
noncomputable def goOn (T : Str) (e b : Nat) (w : List Bool) : Told → Told
  | .fault n => .fault n
  | .close n => GG T e b n w

section
variable {T : Str} {e b s : Nat} {w : List Bool}
theorem GG_end (h : e ≤ s) : GG T e b s w = .fault b := by
  unfold GG innerF
  rw [if_neg (by omega)]
theorem GG_step (h : s < e) : GG T e b s w =
    if w.headD false = true then
      if ch T s = 92 then GG T e b (s + 2) (if ch T (s + 1) = 40 then false :: w else w)
      else GG T e b (s + 1) (if ch T s = 34 then w.tail else w)
    else if ch T s = 40 then GG T e b (s + 1) (false :: w)
    else if ch T s = 34 then GG T e b (s + 1) (true :: w)
    else if ch T s = 41 then (if w.tail = [] then .close s else GG T e b (s + 1) w.tail)
    else if ch T s = 37 ∨ (ch T s = 47 ∧ ch T (s + 1) = 42) then goOn T e b w (SS T e s)
    else GG T e b (s + 1) w := by
  have i1 : ∀ w, innerF T e b (e - s) (s + 1) w = GG T e b (s + 1) w := fun w => innerF_fuel T e b _ _ _ w (by omega) (by omega)
  have i2 : ∀ w, innerF T e b (e - s) (s + 2) w = GG T e b (s + 2) w := fun w => innerF_fuel T e b _ _ _ w (by omega) (by omega)
  conv => lhs; unfold GG innerF
  simp only [if_pos h, i1, i2]
  by_cases h6 : ch T s = 37 ∨ (ch T s = 47 ∧ ch T (s + 1) = 42)
  · simp only [if_pos h6]
    unfold SS
    cases q : skipF T e (e - s + 1) s with
    | fault n => rfl
    | close n =>
      have := skipF_gt T e h h6 q
      simp only [innerF_fuel T e b (e - s) (e - n + 1) n w (by omega) (by omega)]
      rfl
  · simp only [if_neg h6]
theorem SS_end (h : e ≤ s) : SS T e s = .close s := by
  unfold SS skipF
  rw [if_neg (by omega)]
theorem SS_blank (h : s < e) (hb : isBlank (ch T s) = true) : SS T e s = SS T e (s + 1) := by
  conv => lhs; unfold SS skipF
  rw [if_pos h, if_pos hb]
  exact skipF_fuel T e _ _ _ (by omega) (by omega)
theorem SS_line (h : s < e) (hc : ch T s = 37) : SS T e s = SS T e (lineEnd T e (e - s) s) := by
  conv => lhs; unfold SS skipF
  have := lineEnd_gt T e h (by omega)
  rw [if_pos h, if_neg (by rw [hc]; decide), if_pos hc]
  exact skipF_fuel T e _ _ _ (by omega) (by omega)
theorem SS_star (h : s < e) (hc : ch T s = 47) (hd : ch T (s + 1) = 42) : SS T e s = match starEnd T e (e - s) (s + 2) with
    | none => .fault s
    | some c => SS T e (c + 2) := by
  conv => lhs; unfold SS skipF
  rw [if_pos h, if_neg (by rw [hc]; decide), if_neg (by omega), if_pos ⟨hc, hd⟩]
  cases q : starEnd T e (e - s) (s + 2) with
  | none => rfl
  | some c =>
    have := starEnd_ge T e _ _ _ q
    exact skipF_fuel T e _ _ _ (by omega) (by omega)
theorem SS_stop (h : s < e) (h1 : ¬ isBlank (ch T s) = true) (h2 : ch T s ≠ 37) (h3 : ¬ (ch T s = 47 ∧ ch T (s + 1) = 42)) : SS T e s = .close s := by
  unfold SS skipF
  rw [if_pos h, if_neg h1, if_neg h2, if_neg h3]
/-- to skip ahead and go on is to go on -/
theorem goOn_SS (hw : w.headD false = false) : ∀ j s, e - s < j → goOn T e b w (SS T e s) = GG T e b s w
  | 0, _, h => absurd h (Nat.not_lt_zero _)
  | j + 1, s, h => by
    have hw' : ¬ w.headD false = true := by rw [hw]; decide
    by_cases hs : s < e
    · by_cases h6 : ch T s = 37 ∨ (ch T s = 47 ∧ ch T (s + 1) = 42)
      · rw [GG_step hs, if_neg hw', if_neg (by omega), if_neg (by omega), if_neg (by omega), if_pos h6]
      · by_cases hb : isBlank (ch T s) = true
        · rw [SS_blank hs hb, goOn_SS hw j (s + 1) (by omega)]
          have hb' : ch T s = 32 ∨ ch T s = 9 ∨ ch T s = 13 ∨ ch T s = 10 := by
            simp only [isBlank, Bool.or_eq_true, beq_iff_eq] at hb
            omega
          rw [GG_step hs, if_neg hw', if_neg (by omega), if_neg (by omega), if_neg (by omega), if_neg h6]
        · rw [SS_stop hs hb (fun q => h6 (.inl q)) (fun q => h6 (.inr q))]
          rfl
    · rw [SS_end (by omega)]
      rfl
theorem GG_skip (hs : s < e) (hw : w.headD false = false) (h6 : ch T s = 37 ∨ (ch T s = 47 ∧ ch T (s + 1) = 42)) : GG T e b s w = goOn T e b w (SS T e s) :=
  (goOn_SS hw _ s (Nat.lt_succ_self _)).symm
end
/-! the plain law, second part: a text at a place is passed whole, or cut by the told end -/
noncomputable def At (T : Str) : Nat → List Nat → Prop
  | _, [] => True
  | b, c :: l => ch T b = c ∧ At T (b + 1) l
theorem at_app {T : Str} : ∀ {l1 l2 : List Nat} {b : Nat}, At T b (l1 ++ l2) ↔ At T b l1 ∧ At T (b + l1.length) l2
  | [], l2, b => by simp [At]
  | c :: l1, l2, b => by
    simp only [List.cons_append, At, at_app (l1 := l1), List.length_cons, and_assoc]
    rw [show b + 1 + l1.length = b + (l1.length + 1) by omega]
theorem at_self {T : Str} : ∀ (pre l suf : List Nat), T.cps.toList = pre ++ l ++ suf → At T pre.length l
  | pre, [], suf, h => trivial
  | pre, c :: l, suf, h => by
    refine ⟨?_, ?_⟩
    · unfold ch
      rw [Array.getD_eq_getD_getElem?, ← Array.getElem?_toList, h]
      simp
    · have := at_self (T := T) (pre ++ [c]) l suf (by rw [h]; simp)
      simpa using this

noncomputable abbrev Prs := List (Int × Int)
noncomputable def cuts (R : Prs) (e : Nat) : List Int := (R.filter fun r => decide (r.1 < (e : Int) ∧ (e : Int) < r.2)).map (·.1)
noncomputable def hits (R : Prs) (e : Int) (f : Int) : List Int := (R.filter fun r => decide (f ≤ r.1 ∧ r.1 < e ∧ e < r.2)).map (·.1)
noncomputable def tell (beg : Int) (l : List Int) : Int × Int := (1, (l ++ [beg]).getD 0 0)
noncomputable def due (R : Prs) (e : Nat) (p : Int × Int) : Int × Int := if p.2 < e then (0, p.2) else tell p.1 (hits R e p.1)
noncomputable def InP (b n : Nat) (P : Prs) : Prop := ∀ p ∈ P, (b : Int) ≤ p.1 ∧ p.1 ≤ p.2 ∧ p.2 < (b + n : Nat)
noncomputable def InR (b n : Nat) (R : Prs) : Prop := ∀ r ∈ R, (b : Int) ≤ r.1 ∧ r.1 < r.2 ∧ r.2 ≤ (b + n : Nat)
theorem cuts_app (R1 R2 : Prs) (e : Nat) : cuts (R1 ++ R2) e = cuts R1 e ++ cuts R2 e := by simp [cuts]
theorem hits_app (R1 R2 : Prs) (e f : Int) : hits (R1 ++ R2) e f = hits R1 e f ++ hits R2 e f := by simp [hits]
theorem cuts_none {R : Prs} {e : Nat} (h : ∀ r ∈ R, r.2 ≤ (e : Int) ∨ (e : Int) ≤ r.1) : cuts R e = [] := by
  unfold cuts
  rw [List.filter_eq_nil_iff.mpr, List.map_nil]
  intro r hr
  have := h r hr
  rw [decide_eq_true_eq]
  omega
theorem hits_none {R : Prs} {e f : Int} (h : ∀ r ∈ R, r.2 ≤ e ∨ e ≤ r.1 ∨ r.1 < f) : hits R e f = [] := by
  unfold hits
  rw [List.filter_eq_nil_iff.mpr, List.map_nil]
  intro r hr
  have := h r hr
  rw [decide_eq_true_eq]
  omega
theorem hits_cuts {R : Prs} {e : Nat} {f : Int} (h : ∀ r ∈ R, f ≤ r.1) : hits R e f = cuts R e := by
  unfold hits cuts
  congr 1
  refine List.filter_congr fun r hr => ?_
  have := h r hr
  simp only [this, true_and]

structure Good (m : Bool) (l : List Nat) (b : Nat) (P R : Prs) : Prop where
  inP : InP b l.length P
  inR : InR b l.length R
  head : m = false → ∀ c r, l = c :: r → c ≠ 42
  pass : ∀ T e, At T b l → (m = false → ch T (b + l.length) ≠ 42) → ∀ beg w, b + l.length ≤ e → GG T e beg b (m :: w) = GG T e beg (b + l.length) (m :: w)
  cut : ∀ T e, At T b l → (m = false → ch T (b + l.length) ≠ 42) → ∀ (beg : Nat) w, e < b + l.length → toldOf (GG T e beg b (m :: w)) = tell beg (cuts R e)
  told : ∀ T e, At T b l → (m = false → ch T (b + l.length) ≠ 42) → ∀ p ∈ P, toldOf (innerEnd T e p.1.toNat) = due R e p

theorem due_more {R1 R2 R3 : Prs} {e : Nat} {p : Int × Int} {b n : Nat} (h1 : ∀ r ∈ R1, r.2 ≤ (b : Int)) (h3 : ∀ r ∈ R3, ((b + n : Nat) : Int) ≤ r.1) (hp : (b : Int) ≤ p.1 ∧ p.2 < (b + n : Nat)) (h1' : ∀ r ∈ R1, r.1 < r.2) :
    due (R1 ++ R2 ++ R3) e p = due R2 e p := by
  unfold due
  by_cases h : p.2 < (e : Int)
  · rw [if_pos h, if_pos h]
  · rw [if_neg h, if_neg h, hits_app, hits_app, hits_none (R := R1), hits_none (R := R3)]
    · simp
    · intro r hr
      have := h3 r hr
      omega
    · intro r hr
      have := h1 r hr
      have := h1' r hr
      omega

theorem Good.nil (m : Bool) (b : Nat) : Good m [] b [] [] where
  inP := fun _ h => nomatch h
  inR := fun _ h => nomatch h
  head := fun _ c r h => nomatch h
  pass := fun _ _ _ _ _ _ _ => rfl
  cut := fun T e _ _ beg w h => by
    rw [GG_end (by simpa using Nat.le_of_lt h)]
    simp [toldOf, tell, cuts]
  told := fun _ _ _ _ _ h => nomatch h

theorem Good.app {m : Bool} {l1 l2 : List Nat} {b : Nat} {P1 R1 P2 R2 : Prs} (g1 : Good m l1 b P1 R1) (g2 : Good m l2 (b + l1.length) P2 R2) : Good m (l1 ++ l2) b (P1 ++ P2) (R1 ++ R2) := by
  have len : (l1 ++ l2).length = l1.length + l2.length := List.length_append
  have follow : ∀ T, At T b (l1 ++ l2) → (m = false → ch T (b + (l1 ++ l2).length) ≠ 42) → (m = false → ch T (b + l1.length) ≠ 42) ∧ (m = false → ch T (b + l1.length + l2.length) ≠ 42) := by
    intro T hT hf
    rw [len, ← Nat.add_assoc] at hf
    refine ⟨fun hm => ?_, hf⟩
    cases l2 with
    | nil => exact hf hm
    | cons c r =>
      have h2 := (at_app.mp hT).2
      rw [h2.1]
      exact g2.head hm c r rfl
  refine ⟨?_, ?_, ?_, ?_, ?_, ?_⟩
  · intro p hp
    rcases List.mem_append.mp hp with h | h
    · have := g1.inP p h; rw [len]; omega
    · have := g2.inP p h; rw [len]; omega
  · intro p hp
    rcases List.mem_append.mp hp with h | h
    · have := g1.inR p h; rw [len]; omega
    · have := g2.inR p h; rw [len]; omega
  · intro hm c r h
    cases l1 with
    | nil => exact g2.head hm c r (by simpa using h)
    | cons c' r' =>
      simp only [List.cons_append, List.cons.injEq] at h
      rw [← h.1]
      exact g1.head hm c' r' rfl
  · intro T e hT hf beg w hle
    obtain ⟨f1, f2⟩ := follow T hT hf
    obtain ⟨t1, t2⟩ := at_app.mp hT
    rw [len] at hle
    rw [g1.pass T e t1 f1 beg w (by omega), g2.pass T e t2 f2 beg w (by omega), len, Nat.add_assoc]
  · intro T e hT hf beg w hlt
    obtain ⟨f1, f2⟩ := follow T hT hf
    obtain ⟨t1, t2⟩ := at_app.mp hT
    rw [len] at hlt
    rw [cuts_app]
    by_cases h : e < b + l1.length
    · rw [g1.cut T e t1 f1 beg w h, cuts_none (R := R2), List.append_nil]
      intro r hr
      have := g2.inR r hr
      omega
    · rw [g1.pass T e t1 f1 beg w (by omega), g2.cut T e t2 f2 beg w (by omega), cuts_none (R := R1), List.nil_append]
      intro r hr
      have := g1.inR r hr
      omega
  · intro T e hT hf p hp
    obtain ⟨f1, f2⟩ := follow T hT hf
    obtain ⟨t1, t2⟩ := at_app.mp hT
    rcases List.mem_append.mp hp with h | h
    · rw [g1.told T e t1 f1 p h]
      have hp := g1.inP p h
      have := due_more (R1 := []) (R2 := R1) (R3 := R2) (e := e) (p := p) (b := b) (n := l1.length) (fun _ h => nomatch h) (fun r hr => (g2.inR r hr).1) ⟨hp.1, hp.2.2⟩ (fun _ h => nomatch h)
      simpa using this.symm
    · rw [g2.told T e t2 f2 p h]
      have hp := g2.inP p h
      have := due_more (R1 := R1) (R2 := R2) (R3 := []) (e := e) (p := p) (b := b + l1.length) (n := l2.length) (fun r hr => (g1.inR r hr).2.2) (fun _ h => nomatch h) ⟨hp.1, hp.2.2⟩ (fun r hr => (g1.inR r hr).2.1)
      simpa using this.symm

section
variable {T : Str} {e beg s : Nat} {w : List Bool}
theorem step_c (hs : s < e) {c : Nat} (hc : ch T s = c) (h1 : c ≠ 40) (h2 : c ≠ 34) (h3 : c ≠ 41) (h4 : c ≠ 37) (h5 : ¬ (c = 47 ∧ ch T (s + 1) = 42)) : GG T e beg s (false :: w) = GG T e beg (s + 1) (false :: w) := by
  subst hc
  rw [GG_step hs]
  simp only [List.headD_cons, Bool.false_eq_true, if_false]
  rw [if_neg h1, if_neg h2, if_neg h3, if_neg]
  rintro (h | h)
  · exact h4 h
  · exact h5 h
theorem step_open (hs : s < e) (hc : ch T s = 40) : GG T e beg s (false :: w) = GG T e beg (s + 1) (false :: false :: w) := by
  rw [GG_step hs]
  simp only [List.headD_cons, Bool.false_eq_true, if_false]
  rw [if_pos hc]
theorem step_quote (hs : s < e) (hc : ch T s = 34) : GG T e beg s (false :: w) = GG T e beg (s + 1) (true :: false :: w) := by
  rw [GG_step hs]
  simp only [List.headD_cons, Bool.false_eq_true, if_false]
  rw [if_neg (by omega), if_pos hc]
theorem step_close (hs : s < e) (hc : ch T s = 41) {v : Bool} : GG T e beg s (false :: v :: w) = GG T e beg (s + 1) (v :: w) := by
  rw [GG_step hs]
  simp only [List.headD_cons, Bool.false_eq_true, if_false]
  rw [if_neg (by omega), if_neg (by omega), if_pos hc, if_neg (fun h => nomatch h)]
  rfl
theorem step_last (hs : s < e) (hc : ch T s = 41) : GG T e beg s [false] = .close s := by
  rw [GG_step hs]
  simp only [List.headD_cons, Bool.false_eq_true, if_false]
  rw [if_neg (by omega), if_neg (by omega), if_pos hc, if_pos (show ([false] : List Bool).tail = [] from rfl)]
theorem step_q (hs : s < e) {c : Nat} (hc : ch T s = c) (h1 : c ≠ 92) (h2 : c ≠ 34) : GG T e beg s (true :: w) = GG T e beg (s + 1) (true :: w) := by
  subst hc
  rw [GG_step hs]
  simp only [List.headD_cons, if_true]
  rw [if_neg h1, if_neg h2]
theorem step_unq (hs : s < e) (hc : ch T s = 34) : GG T e beg s (true :: w) = GG T e beg (s + 1) w := by
  rw [GG_step hs]
  simp only [List.headD_cons, if_true, List.tail_cons]
  rw [if_neg (by omega), if_pos hc]
theorem step_esc (hs : s < e) (hc : ch T s = 92) : GG T e beg s (true :: w) = GG T e beg (s + 2) (if ch T (s + 1) = 40 then false :: true :: w else true :: w) := by
  rw [GG_step hs]
  simp only [List.headD_cons, if_true]
  rw [if_pos hc]
theorem tell_none : toldOf (.fault beg) = tell beg [] := rfl
end
noncomputable def plainC : List Nat → Bool
  | [] => true
  | c :: l => c != 40 && c != 34 && c != 41 && c != 37 && (c != 47 || l.headD 0 != 42) && plainC l
section
variable {T : Str} {e beg : Nat} {w : List Bool}
theorem run_plain : ∀ {l : List Nat} {b : Nat}, At T b l → plainC l = true → ch T (b + l.length) ≠ 42 →
    (b + l.length ≤ e → GG T e beg b (false :: w) = GG T e beg (b + l.length) (false :: w)) ∧ (e < b + l.length → GG T e beg b (false :: w) = .fault beg)
  | [], b, _, _, _ => ⟨fun _ => rfl, fun h => GG_end (by simpa using Nat.le_of_lt h)⟩
  | c :: l, b, hT, hp, hf => by
    simp only [plainC, Bool.and_eq_true, bne_iff_ne, ne_eq, Bool.or_eq_true] at hp
    obtain ⟨⟨⟨⟨⟨h1, h2⟩, h3⟩, h4⟩, h5⟩, h6⟩ := hp
    have len : b + (c :: l).length = b + 1 + l.length := by rw [List.length_cons]; omega
    rw [len] at hf ⊢
    obtain ⟨i1, i2⟩ := run_plain hT.2 h6 hf
    have st (hs : b < e) : GG T e beg b (false :: w) = GG T e beg (b + 1) (false :: w) := by
      refine step_c hs hT.1 h1 h2 h3 h4 ?_
      rintro ⟨q1, q2⟩
      rcases h5 with h5 | h5
      · exact h5 q1
      · cases l with
        | nil => exact hf q2
        | cons d r => exact h5 (hT.2.1.symm.trans q2)
    refine ⟨fun h => ?_, fun h => ?_⟩
    · rw [st (by omega), i1 h]
    · by_cases hs : b < e
      · rw [st hs, i2 h]
      · exact GG_end (by omega)
theorem run_lone : ∀ {l : List Nat} {b : Nat}, At T b l → (∀ c ∈ l, c ≠ 92 ∧ c ≠ 34) →
    (b + l.length ≤ e → GG T e beg b (true :: w) = GG T e beg (b + l.length) (true :: w)) ∧ (e < b + l.length → GG T e beg b (true :: w) = .fault beg)
  | [], b, _, _ => ⟨fun _ => rfl, fun h => GG_end (by simpa using Nat.le_of_lt h)⟩
  | c :: l, b, hT, hp => by
    have len : b + (c :: l).length = b + 1 + l.length := by rw [List.length_cons]; omega
    rw [len]
    obtain ⟨i1, i2⟩ := run_lone hT.2 fun d hd => hp d (.tail _ hd)
    obtain ⟨h1, h2⟩ := hp c (.head _)
    refine ⟨fun h => ?_, fun h => ?_⟩
    · rw [step_q (by omega) hT.1 h1 h2, i1 h]
    · by_cases hs : b < e
      · rw [step_q hs hT.1 h1 h2, i2 h]
      · exact GG_end (by omega)
theorem lineEnd_at : ∀ {l : List Nat} {b k : Nat}, At T b l → (∀ c ∈ l, c ≠ 10) → ch T (b + l.length) = 10 → b ≤ e → e - b ≤ k → lineEnd T e k b = min e (b + l.length)
  | l, b, 0, hT, hp, hc, hb, hk => by
    unfold lineEnd
    omega
  | [], b, k + 1, hT, hp, hc, hb, hk => by
    unfold lineEnd
    simp only [List.length_nil, Nat.add_zero] at hc ⊢
    rw [if_neg (by omega)]
    omega
  | c :: l, b, k + 1, hT, hp, hc, hb, hk => by
    have len : b + (c :: l).length = b + 1 + l.length := by rw [List.length_cons]; omega
    rw [len] at hc ⊢
    unfold lineEnd
    by_cases hs : b < e
    · rw [if_pos ⟨hs, hT.1 ▸ hp c (.head _)⟩]
      exact lineEnd_at hT.2 (fun d hd => hp d (.tail _ hd)) hc (by omega) (by omega)
    · rw [if_neg (by omega)]
      omega
theorem starEnd_at : ∀ {l : List Nat} {b k : Nat}, At T b l → (∀ c ∈ l, c ≠ 42) → ch T (b + l.length) = 42 → ch T (b + l.length + 1) = 47 →
    (b + l.length + 2 ≤ e → l.length < k → starEnd T e k b = some (b + l.length)) ∧ (e < b + l.length + 2 → starEnd T e k b = none)
  | l, b, 0, hT, hp, hc, hd => ⟨fun _ h => absurd h (Nat.not_lt_zero _), fun _ => rfl⟩
  | [], b, k + 1, hT, hp, hc, hd => by
    simp only [List.length_nil, Nat.add_zero] at hc hd ⊢
    unfold starEnd
    refine ⟨fun h _ => ?_, fun h => ?_⟩
    · rw [if_pos h, if_pos ⟨hc, hd⟩]
    · rw [if_neg (by omega)]
  | c :: l, b, k + 1, hT, hp, hc, hd => by
    have len : b + (c :: l).length = b + 1 + l.length := by rw [List.length_cons]; omega
    rw [len] at hc hd ⊢
    obtain ⟨i1, i2⟩ := starEnd_at (k := k) hT.2 (fun d hd => hp d (.tail _ hd)) hc hd
    have hn : ¬ (ch T b = 42 ∧ ch T (b + 1) = 47) := fun q => hp c (.head _) (hT.1 ▸ q.1)
    unfold starEnd
    refine ⟨fun h hk => ?_, fun h => ?_⟩
    · rw [if_pos (by omega), if_neg hn]
      exact i1 h (by rw [List.length_cons] at hk; omega)
    · split
      · exact i2 h
      · rfl
end

theorem cuts_nil (e : Nat) : cuts [] e = [] := rfl
theorem Good.bare {m : Bool} {l : List Nat} {b : Nat} (hh : m = false → ∀ c r, l = c :: r → c ≠ 42)
    (run : ∀ T e, At T b l → (m = false → ch T (b + l.length) ≠ 42) → ∀ (beg : Nat) w, (b + l.length ≤ e → GG T e beg b (m :: w) = GG T e beg (b + l.length) (m :: w)) ∧ (e < b + l.length → GG T e beg b (m :: w) = .fault beg)) : Good m l b [] [] where
  inP := fun _ h => nomatch h
  inR := fun _ h => nomatch h
  head := hh
  pass := fun T e hT hf beg w h => (run T e hT hf beg w).1 h
  cut := fun T e hT hf beg w h => by rw [(run T e hT hf beg w).2 h]; rfl
  told := fun _ _ _ _ _ h => nomatch h
theorem Good.plain {l : List Nat} {b : Nat} (h : plainC l = true) (hh : l.headD 0 ≠ 42) : Good false l b [] [] :=
  .bare (fun _ c r q => by subst q; exact hh) fun T e hT hf beg w => run_plain hT h (hf rfl)
theorem Good.lone {l : List Nat} {b : Nat} (h : ∀ c ∈ l, c ≠ 92 ∧ c ≠ 34) : Good true l b [] [] :=
  .bare (fun h => nomatch h) fun T e hT _ beg w => run_lone hT h
theorem Good.esc {c b : Nat} (h : c ≠ 40) : Good true [92, c] b [] [] :=
  .bare (fun h => nomatch h) fun T e hT _ beg w => by
    have hc : ch T (b + 1) = c := hT.2.1
    show (b + 2 ≤ e → GG T e beg b (true :: w) = GG T e beg (b + 2) (true :: w)) ∧ (e < b + 2 → _)
    have st (hs : b < e) : GG T e beg b (true :: w) = GG T e beg (b + 2) (true :: w) := by
      rw [step_esc hs hT.1, if_neg (by rw [hc]; exact h)]
    refine ⟨fun q => st (by omega), fun q => ?_⟩
    by_cases hs : b < e
    · rw [st hs, GG_end (by omega)]
    · exact GG_end (by omega)
theorem Good.line {s : List Nat} {b : Nat} (h : ∀ c ∈ s, c ≠ 10) : Good false (37 :: s ++ [10]) b [] [] :=
  .bare (fun _ c r q => by simp only [List.cons_append, List.cons.injEq] at q; omega) fun T e hT _ beg w => by
    obtain ⟨t1, t2⟩ := at_app.mp hT
    have len : b + (37 :: s ++ [10]).length = b + (37 :: s).length + 1 := by rw [List.length_append]; rfl
    rw [len]
    have hl : ∀ c ∈ 37 :: s, c ≠ 10 := by
      intro c hc
      rcases List.mem_cons.mp hc with rfl | hc
      · decide
      · exact h c hc
    have gl (hs : b < e) : GG T e beg b (false :: w) = GG T e beg (min e (b + (37 :: s).length)) (false :: w) := by
      rw [GG_skip hs rfl (.inl t1.1), SS_line hs t1.1, lineEnd_at t1 hl t2.1 (by omega) (Nat.le_refl _), goOn_SS rfl _ _ (Nat.lt_succ_self _)]
    refine ⟨fun q => ?_, fun q => ?_⟩
    · rw [gl (by omega), Nat.min_eq_right (by omega), step_c (by omega) t2.1 (by decide) (by decide) (by decide) (by decide) (by omega)]
    · by_cases hs : b < e
      · rw [gl hs, GG_end (by omega)]
      · exact GG_end (by omega)
theorem Good.star {s : List Nat} {b : Nat} (h : ∀ c ∈ s, c ≠ 42) : Good false (47 :: 42 :: s ++ [42, 47]) b [] [((b : Int), ((b + (s.length + 4) : Nat) : Int))] := by
  have len : (47 :: 42 :: s ++ [42, 47]).length = s.length + 4 := by simp
  have parts : ∀ {T}, At T b (47 :: 42 :: s ++ [42, 47]) → ch T b = 47 ∧ ch T (b + 1) = 42 ∧ At T (b + 2) s ∧ ch T (b + 2 + s.length) = 42 ∧ ch T (b + 2 + s.length + 1) = 47 := by
    intro T hT
    obtain ⟨t1, t2⟩ := at_app (l1 := 47 :: 42 :: s).mp hT
    rw [show b + (47 :: 42 :: s).length = b + 2 + s.length by simp only [List.length_cons]; omega] at t2
    exact ⟨t1.1, t1.2.1, t1.2.2, t2.1, t2.2.1⟩
  refine ⟨(fun _ h => nomatch h), ?_, ?_, ?_, ?_, (fun _ _ _ _ _ h => nomatch h)⟩
  · intro r hr
    rw [List.mem_singleton.mp hr, len]
    refine ⟨Int.le_refl _, ?_, Int.le_refl _⟩
    show (b : Int) < ((b + (s.length + 4) : Nat) : Int)
    omega
  · intro _ c r q
    simp only [List.cons_append, List.cons.injEq] at q
    omega
  · intro T e hT _ beg w hle
    obtain ⟨t1, t2, t3, t4, t5⟩ := parts hT
    rw [len] at hle ⊢
    have hs : b < e := by omega
    rw [GG_skip hs rfl (.inr ⟨t1, t2⟩), SS_star hs t1 t2, (starEnd_at t3 h t4 t5).1 (by omega) (by omega)]
    show goOn T e beg (false :: w) (SS T e (b + 2 + s.length + 2)) = _
    rw [goOn_SS rfl _ _ (Nat.lt_succ_self _)]
    congr 1
    omega
  · intro T e hT _ beg w hlt
    obtain ⟨t1, t2, t3, t4, t5⟩ := parts hT
    rw [len] at hlt
    by_cases hs : b < e
    · rw [GG_skip hs rfl (.inr ⟨t1, t2⟩), SS_star hs t1 t2, (starEnd_at t3 h t4 t5).2 (by omega)]
      show ((1 : Int), (b : Int)) = _
      unfold cuts
      rw [List.filter_cons_of_pos (by rw [decide_eq_true_eq]; omega)]
      rfl
    · rw [GG_end (by omega), cuts_none]
      · rfl
      · intro r hr
        rw [List.mem_singleton.mp hr]
        exact .inr (by show (e : Int) ≤ (b : Int); omega)

theorem inner_new {T : Str} {e f : Nat} {l : List Nat} {P R : Prs} (g : Good false l f P R) (hT : At T f l) (hc : ch T (f + l.length) = 41) : toldOf (innerEnd T e f) = due R e ((f : Int), ((f + l.length : Nat) : Int)) := by
  show toldOf (GG T e f f [false]) = _
  have hf : false = false → ch T (f + l.length) ≠ 42 := fun _ => by omega
  unfold due
  by_cases h : f + l.length < e
  · rw [g.pass T e hT hf f [] (by omega), step_last h hc, if_pos (by show ((f + l.length : Nat) : Int) < e; omega)]
    rfl
  · rw [if_neg (by show ¬ ((f + l.length : Nat) : Int) < e; omega), hits_cuts (fun r hr => (g.inR r hr).1)]
    by_cases h2 : e < f + l.length
    · exact g.cut T e hT hf f [] h2
    · rw [g.pass T e hT hf f [] (by omega), GG_end (by omega), cuts_none]
      · rfl
      · intro r hr
        have := g.inR r hr
        omega

/-- brackets in code -/
theorem Good.wrap {l : List Nat} {b : Nat} {P R : Prs} (g : Good false l (b + 1) P R) : Good false (40 :: l ++ [41]) b (P ++ [(((b + 1 : Nat) : Int), ((b + 1 + l.length : Nat) : Int))]) R := by
  have len : (40 :: l ++ [41]).length = l.length + 2 := by simp
  have parts : ∀ {T}, At T b (40 :: l ++ [41]) → ch T b = 40 ∧ At T (b + 1) l ∧ ch T (b + 1 + l.length) = 41 := by
    intro T hT
    obtain ⟨t1, t2⟩ := at_app (l1 := 40 :: l).mp hT
    rw [show b + (40 :: l).length = b + 1 + l.length by simp only [List.length_cons]; omega] at t2
    exact ⟨t1.1, t1.2, t2.1⟩
  refine ⟨?_, ?_, ?_, ?_, ?_, ?_⟩
  · intro p hp
    rw [len]
    rcases List.mem_append.mp hp with h | h
    · have := g.inP p h; omega
    · rw [List.mem_singleton.mp h]
      refine ⟨?_, ?_, ?_⟩
      · show (b : Int) ≤ ((b + 1 : Nat) : Int); omega
      · show ((b + 1 : Nat) : Int) ≤ ((b + 1 + l.length : Nat) : Int); omega
      · show ((b + 1 + l.length : Nat) : Int) < _; omega
  · intro r hr
    have := g.inR r hr
    rw [len]
    omega
  · intro _ c r q
    simp only [List.cons_append, List.cons.injEq] at q
    omega
  · intro T e hT _ beg w hle
    obtain ⟨t1, t2, t3⟩ := parts hT
    rw [len] at hle ⊢
    rw [step_open (by omega) t1, g.pass T e t2 (fun _ => by omega) beg _ (by omega), step_close (by omega) t3]
    congr 1
    omega
  · intro T e hT _ beg w hlt
    obtain ⟨t1, t2, t3⟩ := parts hT
    rw [len] at hlt
    by_cases hs : b < e
    · rw [step_open hs t1]
      by_cases h2 : e < b + 1 + l.length
      · exact g.cut T e t2 (fun _ => by omega) beg _ h2
      · rw [g.pass T e t2 (fun _ => by omega) beg _ (by omega), GG_end (by omega), cuts_none]
        · rfl
        · intro r hr; have := g.inR r hr; omega
    · rw [GG_end (by omega), cuts_none]
      · rfl
      · intro r hr; have := g.inR r hr; omega
  · intro T e hT _ p hp
    obtain ⟨t1, t2, t3⟩ := parts hT
    rcases List.mem_append.mp hp with h | h
    · exact g.told T e t2 (fun _ => by omega) p h
    · rw [List.mem_singleton.mp h]
      exact inner_new g t2 t3
/-- a string in code -/
theorem Good.wrapQ {l : List Nat} {b : Nat} {P R : Prs} (g : Good true l (b + 1) P R) : Good false (34 :: l ++ [34]) b P R := by
  have len : (34 :: l ++ [34]).length = l.length + 2 := by simp
  have parts : ∀ {T}, At T b (34 :: l ++ [34]) → ch T b = 34 ∧ At T (b + 1) l ∧ ch T (b + 1 + l.length) = 34 := by
    intro T hT
    obtain ⟨t1, t2⟩ := at_app (l1 := 34 :: l).mp hT
    rw [show b + (34 :: l).length = b + 1 + l.length by simp only [List.length_cons]; omega] at t2
    exact ⟨t1.1, t1.2, t2.1⟩
  refine ⟨?_, ?_, ?_, ?_, ?_, ?_⟩
  · intro p hp
    rw [len]
    have := g.inP p hp; omega
  · intro r hr
    have := g.inR r hr
    rw [len]
    omega
  · intro _ c r q
    simp only [List.cons_append, List.cons.injEq] at q
    omega
  · intro T e hT _ beg w hle
    obtain ⟨t1, t2, t3⟩ := parts hT
    rw [len] at hle ⊢
    rw [step_quote (by omega) t1, g.pass T e t2 (fun h => nomatch h) beg _ (by omega), step_unq (by omega) t3]
    congr 1
    omega
  · intro T e hT _ beg w hlt
    obtain ⟨t1, t2, t3⟩ := parts hT
    rw [len] at hlt
    by_cases hs : b < e
    · rw [step_quote hs t1]
      by_cases h2 : e < b + 1 + l.length
      · exact g.cut T e t2 (fun h => nomatch h) beg _ h2
      · rw [g.pass T e t2 (fun h => nomatch h) beg _ (by omega), GG_end (by omega), cuts_none]
        · rfl
        · intro r hr; have := g.inR r hr; omega
    · rw [GG_end (by omega), cuts_none]
      · rfl
      · intro r hr; have := g.inR r hr; omega
  · intro T e hT _ p hp
    obtain ⟨t1, t2, t3⟩ := parts hT
    exact g.told T e t2 (fun h => nomatch h) p hp
/-- a part in a string -/
theorem Good.wrapE {l : List Nat} {b : Nat} {P R : Prs} (g : Good false l (b + 2) P R) : Good true (92 :: 40 :: l ++ [41]) b (P ++ [(((b + 2 : Nat) : Int), ((b + 2 + l.length : Nat) : Int))]) R := by
  have len : (92 :: 40 :: l ++ [41]).length = l.length + 3 := by simp
  have parts : ∀ {T}, At T b (92 :: 40 :: l ++ [41]) → ch T b = 92 ∧ ch T (b + 1) = 40 ∧ At T (b + 2) l ∧ ch T (b + 2 + l.length) = 41 := by
    intro T hT
    obtain ⟨t1, t2⟩ := at_app (l1 := 92 :: 40 :: l).mp hT
    rw [show b + (92 :: 40 :: l).length = b + 2 + l.length by simp only [List.length_cons]; omega] at t2
    exact ⟨t1.1, t1.2.1, t1.2.2, t2.1⟩
  refine ⟨?_, ?_, (fun h => nomatch h), ?_, ?_, ?_⟩
  · intro p hp
    rw [len]
    rcases List.mem_append.mp hp with h | h
    · have := g.inP p h; omega
    · rw [List.mem_singleton.mp h]
      refine ⟨?_, ?_, ?_⟩
      · show (b : Int) ≤ ((b + 2 : Nat) : Int); omega
      · show ((b + 2 : Nat) : Int) ≤ ((b + 2 + l.length : Nat) : Int); omega
      · show ((b + 2 + l.length : Nat) : Int) < _; omega
  · intro r hr
    have := g.inR r hr
    rw [len]
    omega
  · intro T e hT _ beg w hle
    obtain ⟨t1, t1', t2, t3⟩ := parts hT
    rw [len] at hle ⊢
    rw [step_esc (by omega) t1, if_pos t1', g.pass T e t2 (fun _ => by omega) beg _ (by omega), step_close (by omega) t3]
    congr 1
    omega
  · intro T e hT _ beg w hlt
    obtain ⟨t1, t1', t2, t3⟩ := parts hT
    rw [len] at hlt
    by_cases hs : b < e
    · rw [step_esc hs t1, if_pos t1']
      by_cases h2 : e < b + 2 + l.length
      · exact g.cut T e t2 (fun _ => by omega) beg _ h2
      · rw [g.pass T e t2 (fun _ => by omega) beg _ (by omega), GG_end (by omega), cuts_none]
        · rfl
        · intro r hr; have := g.inR r hr; omega
    · rw [GG_end (by omega), cuts_none]
      · rfl
      · intro r hr; have := g.inR r hr; omega
  · intro T e hT _ p hp
    obtain ⟨t1, t1', t2, t3⟩ := parts hT
    rcases List.mem_append.mp hp with h | h
    · exact g.told T e t2 (fun _ => by omega) p h
    · rw [List.mem_singleton.mp h]
      exact inner_new g t2 t3
noncomputable def GenGood (m : Bool) (G : Gen) : Prop := ∀ (b : Nat) (st : St), ∃ x P R st', G b st = (x, st') ∧ st'.pairs = st.pairs ++ P ∧ st'.remarks = st.remarks ++ R ∧ Good m x.cps.toList b P R
noncomputable def LapInv (m : Bool) (b : Nat) (st0 : St) (y : Str × St) : Prop := ∃ P R, y.2.pairs = st0.pairs ++ P ∧ y.2.remarks = st0.remarks ++ R ∧ Good m y.1.cps.toList b P R
theorem toList_app (x y : Str) : (x ++ y).cps.toList = x.cps.toList ++ y.cps.toList := Array.toList_append
theorem toList_len (x : Str) : x.cps.toList.length = x.length := Array.length_toList
theorem LapInv.add {m : Bool} {b : Nat} {st0 st st' : St} {x y : Str} {P' R' : Prs} (h : LapInv m b st0 (x, st)) (g : Good m y.cps.toList (b + x.length) P' R') (hp : st'.pairs = st.pairs ++ P') (hr : st'.remarks = st.remarks ++ R') : LapInv m b st0 (x ++ y, st') := by
  obtain ⟨P, R, h1, h2, h3⟩ := h
  refine ⟨P ++ P', R ++ R', ?_, ?_, ?_⟩
  · show st'.pairs = _
    rw [hp, show st.pairs = _ from h1, List.append_assoc]
  · show st'.remarks = _
    rw [hr, show st.remarks = _ from h2, List.append_assoc]
  · show Good m (x ++ y).cps.toList _ _ _
    rw [toList_app]
    refine h3.app ?_
    rw [toList_len]
    exact g
theorem pick_all {l : List Str} {q : Str → Bool} (h : l.all q = true) (h0 : q Str.empty = true) (i : Int) : q (pick l i) = true := by
  unfold pick
  rw [List.getD_eq_getElem?_getD]
  cases e : l[i.toNat]? with
  | none => exact h0
  | some x => exact List.all_eq_true.mp h x (List.mem_of_getElem? e)
noncomputable def qPlain (x : Str) : Bool := plainC x.cps.toList && x.cps.toList.headD 0 != 42
noncomputable def qHidden (x : Str) : Bool := x.cps.toList.all fun c => c != 10 && c != 42
noncomputable def qLone (x : Str) : Bool := x.cps.toList.all fun c => c != 92 && c != 34
noncomputable def qEsc (x : Str) : Bool := match x.cps.toList with
  | [] => true
  | [a, c] => a == 92 && c != 40
  | _ => false
theorem all_plain : mPlain.all qPlain = true := by decide +kernel
theorem all_hidden : mHidden.all qHidden = true := by decide +kernel
theorem all_lone : mLone.all qLone = true := by decide +kernel
theorem all_esc : mEscaped.all qEsc = true := by decide +kernel
theorem good_plain (i : Int) (b : Nat) : Good false (pick mPlain i).cps.toList b [] [] := by
  have h := pick_all all_plain (by decide +kernel) i
  simp only [qPlain, Bool.and_eq_true, bne_iff_ne, ne_eq] at h
  exact .plain h.1 h.2
theorem good_lone (i : Int) (b : Nat) : Good true (pick mLone i).cps.toList b [] [] := by
  have h := pick_all all_lone (by decide +kernel) i
  simp only [qLone, List.all_eq_true, Bool.and_eq_true, bne_iff_ne, ne_eq] at h
  exact .lone h
theorem good_esc (i : Int) (b : Nat) : Good true (pick mEscaped i).cps.toList b [] [] := by
  have h := pick_all all_esc (by decide +kernel) i
  unfold qEsc at h
  split at h
  · rename_i e; rw [e]; exact .nil _ _
  · rename_i e
    simp only [Bool.and_eq_true, beq_iff_eq, bne_iff_ne, ne_eq] at h
    rw [e, h.1]; exact .esc h.2
  · cases h
theorem join_all {q : Nat → Bool} : ∀ {l : List Str}, (∀ x ∈ l, x.cps.toList.all q = true) → (Str.join Str.empty l).cps.toList.all q = true
  | [], _ => rfl
  | [x], h => h x (.head _)
  | x :: y :: r, h => by
    have ih := join_all (l := y :: r) fun z hz => h z (.tail _ hz)
    have hx := h x (.head _)
    show (x ++ Str.empty ++ Str.join Str.empty (y :: r)).cps.toList.all q = true
    rw [toList_app, toList_app, List.all_append, List.all_append, hx, ih]
    rfl
theorem signsF_mem (cells : List Int) : ∀ (k : Nat) (st : St), (∀ x ∈ (signsF cells k st).1, qHidden x = true) ∧ (signsF cells k st).2.pairs = st.pairs ∧ (signsF cells k st).2.remarks = st.remarks
  | 0, st => ⟨(fun _ h => nomatch h), rfl, rfl⟩
  | k + 1, st => by
    obtain ⟨a, b, c⟩ := signsF_mem cells k st.next
    refine ⟨?_, b, c⟩
    intro x hx
    rcases List.mem_cons.mp hx with rfl | hx
    · exact pick_all all_hidden (by decide +kernel) _
    · exact a x hx
theorem signs_free {cells : List Int} {k : Nat} {st : St} : ∀ c ∈ (Str.join Str.empty (signsF cells k st).1).cps.toList, c ≠ 10 ∧ c ≠ 42 := by
  have h := join_all (q := fun c => c != 10 && c != 42) (l := (signsF cells k st).1) (signsF_mem cells k st).1
  simpa only [List.all_eq_true, Bool.and_eq_true, bne_iff_ne, ne_eq] using h
theorem dipV_lo (cells : List Int) (pl many : Int) (h : 0 < many) : 0 ≤ dipV cells pl many := by unfold dipV; split <;> exact Int.fmod_nonneg_of_pos _ h
theorem dipV_hi (cells : List Int) (pl many : Int) (h : 0 < many) : dipV cells pl many < many := by unfold dipV; split <;> exact Int.fmod_lt_of_pos _ h

theorem part_good {code : Gen} (hc : GenGood false code) (b : Nat) (st : St) : ∃ x P R st', code b { st with left := st.left - 1 } = (x, st') ∧ partF code b st = (x ++ ")", { st' with pairs := st'.pairs ++ [((b : Int), ((b + x.length : Nat) : Int))] }) ∧ st'.pairs = st.pairs ++ P ∧ st'.remarks = st.remarks ++ R ∧ Good false x.cps.toList b P R := by
  obtain ⟨x, P, R, st', e, h1, h2, h3⟩ := hc b { st with left := st.left - 1 }
  refine ⟨x, P, R, st', e, ?_, h1, h2, h3⟩
  unfold partF
  simp only [e, Int.natCast_add]

theorem codeLap_good {cells : List Int} {quoted code : Gen} {part : Gen} {deep : Bool} {b : Nat} {st0 : St} (hq : deep = true → GenGood true quoted) (hp : deep = true → part = partF code ∧ GenGood false code) {y : Str × St} (h : LapInv false b st0 y) :
    LapInv false b st0 (codeLap cells quoted part deep b y) := by
  obtain ⟨x, st⟩ := y
  have hm : 0 < (if deep = true ∧ 0 < st.left then (5 : Int) else 3) := by split <;> decide
  have lo := dipV_lo cells st.place _ hm
  have hi := dipV_hi cells st.place _ hm
  have hdeep : 3 ≤ dipV cells st.place (if deep = true ∧ 0 < st.left then 5 else 3) → deep = true := by
    intro h3
    by_cases hd : deep = true ∧ 0 < st.left
    · exact hd.1
    · rw [if_neg hd] at h3 hi; omega
  have hi5 : dipV cells st.place (if deep = true ∧ 0 < st.left then 5 else 3) < 5 := by
    refine Int.lt_of_lt_of_le hi ?_
    split <;> decide
  unfold codeLap
  dsimp only
  generalize dipV cells st.place (if deep = true ∧ 0 < st.left then 5 else 3) = way at *
  by_cases h0 : way = 0
  · rw [if_pos h0]
    exact h.add (good_plain _ _) (List.append_nil _).symm (List.append_nil _).symm
  rw [if_neg h0]
  by_cases h3 : way = 3
  · rw [if_pos h3]
    obtain ⟨z, P, R, st', e, e1, e2, g⟩ := hq (hdeep (by omega)) (b + x.length + 1) { St.next st with left := (St.next st).left - 1 }
    have ec : ((b : Int) + (x.length : Int) + 1) = ((b + x.length + 1 : Nat) : Int) := by omega
    rw [ec, e]
    have ea : x ++ Str.ofString "\"" ++ z ++ Str.ofString "\"" = x ++ (Str.ofString "\"" ++ z ++ Str.ofString "\"") := by
      simp only [Str.append_assoc]
    show LapInv false b st0 (x ++ Str.ofString "\"" ++ z ++ Str.ofString "\"", st')
    rw [ea]
    refine h.add ?_ e1 e2
    rw [toList_app, toList_app, show (Str.ofString "\"").cps.toList = [34] by decide +kernel]
    exact g.wrapQ
  rw [if_neg h3]
  by_cases h4 : way = 4
  · rw [if_pos h4]
    obtain ⟨hp1, hp2⟩ := hp (hdeep (by omega))
    subst hp1
    obtain ⟨z, P, R, st', _, e, e1, e2, g⟩ := part_good hp2 (b + x.length + 1) (St.next st)
    have ec : ((b : Int) + (x.length : Int) + 1) = ((b + x.length + 1 : Nat) : Int) := by omega
    rw [ec, e]
    have ea : x ++ Str.ofString "(" ++ (z ++ Str.ofString ")") = x ++ (Str.ofString "(" ++ z ++ Str.ofString ")") := by
      simp only [Str.append_assoc]
    show LapInv false b st0 (x ++ Str.ofString "(" ++ (z ++ Str.ofString ")"), _)
    rw [ea]
    refine h.add (P' := P ++ [(((b + x.length + 1 : Nat) : Int), ((b + x.length + 1 + z.cps.toList.length : Nat) : Int))]) (R' := R) ?_ ?_ e2
    · rw [toList_app, toList_app, show (Str.ofString "(").cps.toList = [40] by decide +kernel, show (Str.ofString ")").cps.toList = [41] by decide +kernel]
      exact g.wrap
    · show st'.pairs ++ _ = _
      rw [e1, List.append_assoc, toList_len]
      rfl
  rw [if_neg h4]
  have hs := @signs_free cells (dipV cells (St.next st).place 4).toNat (St.next (St.next st))
  obtain ⟨_, s1, s2⟩ := signsF_mem cells (dipV cells (St.next st).place 4).toNat (St.next (St.next st))
  generalize signsF cells (dipV cells (St.next st).place 4).toNat (St.next (St.next st)) = sg at *
  generalize Str.join Str.empty sg.1 = js at *
  have h12 : way = 1 ∨ way = 2 := by omega
  rcases h12 with h1 | h1
  · subst h1
    rw [if_pos rfl, if_neg (by decide)]
    refine h.add (P' := []) (R' := []) ?_ (s1.trans (List.append_nil _).symm) (s2.trans (List.append_nil _).symm)
    rw [toList_app, toList_app, show (Str.ofString "%").cps.toList = [37] by decide +kernel, show (Str.ofString "\n").cps.toList = [10] by decide +kernel]
    exact .line fun c hc => (hs c hc).1
  · subst h1
    rw [if_neg (by decide), if_pos rfl]
    refine h.add (P' := []) (R' := [(((b + x.length : Nat) : Int), ((b + x.length + (js.cps.toList.length + 4) : Nat) : Int))]) ?_ (s1.trans (List.append_nil _).symm) ?_
    · rw [toList_app, toList_app, show (Str.ofString "/*").cps.toList = [47, 42] by decide +kernel, show (Str.ofString "*/").cps.toList = [42, 47] by decide +kernel]
      exact .star fun c hc => (hs c hc).2
    · show sg.2.remarks ++ _ = st.remarks ++ _
      rw [s2]
      have l1 : (Str.ofString "/*").length = 2 := by decide +kernel
      have l2 : (Str.ofString "*/").length = 2 := by decide +kernel
      have la : ∀ u v : Str, (u ++ v).length = u.length + v.length := fun u v => Array.size_append
      refine congrArg (fun q => st.remarks ++ [q]) (Prod.ext ?_ ?_)
      · show (b : Int) + (x.length : Int) = ((b + x.length : Nat) : Int)
        omega
      · show (b : Int) + ((x ++ (Str.ofString "/*" ++ js ++ Str.ofString "*/")).length : Int) = ((b + x.length + (js.cps.toList.length + 4) : Nat) : Int)
        rw [toList_len, la, la, la, l1, l2]
        omega

theorem quotLap_good {cells : List Int} {code : Gen} {part : Gen} {deep : Bool} {b : Nat} {st0 : St} (hp : deep = true → part = partF code ∧ GenGood false code) {y : Str × St} (h : LapInv true b st0 y) :
    LapInv true b st0 (quotLap cells part deep b y) := by
  obtain ⟨x, st⟩ := y
  have hm : 0 < (if deep = true ∧ 0 < st.left then (3 : Int) else 2) := by split <;> decide
  have lo := dipV_lo cells st.place _ hm
  have hi := dipV_hi cells st.place _ hm
  have hdeep : 2 ≤ dipV cells st.place (if deep = true ∧ 0 < st.left then 3 else 2) → deep = true := by
    intro h3
    by_cases hd : deep = true ∧ 0 < st.left
    · exact hd.1
    · rw [if_neg hd] at h3 hi; omega
  unfold quotLap
  dsimp only
  generalize dipV cells st.place (if deep = true ∧ 0 < st.left then 3 else 2) = way at *
  by_cases h0 : way = 0
  · rw [if_pos h0]
    exact h.add (good_lone _ _) (List.append_nil _).symm (List.append_nil _).symm
  rw [if_neg h0]
  by_cases h1 : way = 1
  · rw [if_pos h1]
    exact h.add (good_esc _ _) (List.append_nil _).symm (List.append_nil _).symm
  rw [if_neg h1]
  obtain ⟨hp1, hp2⟩ := hp (hdeep (by omega))
  subst hp1
  obtain ⟨z, P, R, st', _, e, e1, e2, g⟩ := part_good hp2 (b + x.length + 2) (St.next st)
  have ec : ((b : Int) + (x.length : Int) + 2) = ((b + x.length + 2 : Nat) : Int) := by omega
  rw [ec, e]
  have ea : x ++ Str.ofString "\\(" ++ (z ++ Str.ofString ")") = x ++ (Str.ofString "\\(" ++ z ++ Str.ofString ")") := by
    simp only [Str.append_assoc]
  show LapInv true b st0 (x ++ Str.ofString "\\(" ++ (z ++ Str.ofString ")"), _)
  rw [ea]
  refine h.add (P' := P ++ [(((b + x.length + 2 : Nat) : Int), ((b + x.length + 2 + z.cps.toList.length : Nat) : Int))]) (R' := R) ?_ ?_ e2
  · rw [toList_app, toList_app, show (Str.ofString "\\(").cps.toList = [92, 40] by decide +kernel, show (Str.ofString ")").cps.toList = [41] by decide +kernel]
    exact g.wrapE
  · show st'.pairs ++ _ = _
    rw [e1, List.append_assoc, toList_len]
    rfl

theorem laps_good {m : Bool} {b : Nat} {st0 : St} {f : Str × St → Str × St} (hf : ∀ y, LapInv m b st0 y → LapInv m b st0 (f y)) : ∀ n y, LapInv m b st0 y → LapInv m b st0 (laps f n y)
  | 0, _, h => h
  | n + 1, y, h => laps_good hf n (f y) (hf y h)
theorem code_good {cells : List Int} {quoted code part : Gen} {deep : Bool} (hq : deep = true → GenGood true quoted) (hp : deep = true → part = partF code ∧ GenGood false code) : GenGood false (codeF cells quoted part deep) := by
  intro b st
  have h : LapInv false b st.next (laps (codeLap cells quoted part deep b) (dipV cells st.place 4).toNat (Str.empty, st.next)) :=
    laps_good (fun y hy => codeLap_good hq hp hy) _ _ ⟨[], [], (List.append_nil _).symm, (List.append_nil _).symm, .nil _ _⟩
  obtain ⟨P, R, h1, h2, h3⟩ := h
  exact ⟨_, P, R, _, rfl, h1, h2, h3⟩
theorem quot_good {cells : List Int} {code part : Gen} {deep : Bool} (hp : deep = true → part = partF code ∧ GenGood false code) : GenGood true (quotF cells part deep) := by
  intro b st
  have h : LapInv true b st.next (laps (quotLap cells part deep b) (dipV cells st.place 4).toNat (Str.empty, st.next)) :=
    laps_good (fun y hy => quotLap_good hp hy) _ _ ⟨[], [], (List.append_nil _).symm, (List.append_nil _).symm, .nil _ _⟩
  obtain ⟨P, R, h1, h2, h3⟩ := h
  exact ⟨_, P, R, _, rfl, h1, h2, h3⟩
theorem gen_good (cells : List Int) : ∀ n, GenGood false (gen cells n).1 ∧ GenGood true (gen cells n).2
  | 0 => ⟨code_good (code := noGen) (fun h => nomatch h) (fun h => nomatch h), quot_good (code := noGen) (fun h => nomatch h)⟩
  | n + 1 => by
    obtain ⟨h1, h2⟩ := gen_good cells n
    exact ⟨code_good (fun _ => h2) (fun _ => ⟨rfl, h1⟩), quot_good (fun _ => ⟨rfl, h1⟩)⟩

/-- what the law asks, of the plain readings -/
theorem law_plain {cells : List Int} {st st' : St} {x tail T : Str} (hp : st.pairs = []) (hr : st.remarks = []) (hG : partF (gen cells 4).1 3 st = (x, st')) (hT : T = (Str.ofString "\"\\(" ++ x) ++ tail) (e : Nat) :
    ∀ p ∈ st'.pairs, 3 ≤ p.1 ∧ p.1 ≤ p.2 ∧ p.2 < (T.length : Int) ∧ toldOf (innerEnd T e p.1.toNat) = dueOf st' e p := by
  obtain ⟨z, P, R, s2, _, e0, e1, e2, g⟩ := part_good (gen_good cells 4).1 3 st
  rw [show ((3 : Nat) : Int) = 3 from rfl, hG] at e0
  obtain ⟨rfl, rfl⟩ := Prod.mk.inj e0
  rw [hp, List.nil_append] at e1
  rw [hr, List.nil_append] at e2
  have hl : T.cps.toList = [34, 92, 40] ++ z.cps.toList ++ (41 :: tail.cps.toList) := by
    rw [hT]
    simp only [toList_app]
    rw [show (Str.ofString "\"\\(").cps.toList = [34, 92, 40] by decide +kernel, show (Str.ofString ")").cps.toList = [41] by decide +kernel]
    simp
  have at1 : At T 3 z.cps.toList := at_self [34, 92, 40] _ _ hl
  have at2 : At T (3 + z.cps.toList.length) [41] := at_app.mp (at_self [34, 92, 40] (z.cps.toList ++ [41]) tail.cps.toList (by rw [hl]; simp)) |>.2
  have hlen : T.length = z.cps.toList.length + tail.cps.toList.length + 4 := by
    rw [← toList_len, hl]
    simp only [List.length_append, List.length_cons, List.length_nil]
    omega
  have hd : ∀ p, dueOf { s2 with pairs := s2.pairs ++ [((3 : Int), ((3 + z.length : Nat) : Int))] } e p = due R e p := by
    intro p
    show (if p.2 < (e : Int) then (0, p.2) else (1, (((s2.remarks.filter fun r => decide (p.1 ≤ r.1 ∧ r.1 < (e : Int) ∧ (e : Int) < r.2)).map (·.1)) ++ [p.1]).getD 0 0)) = _
    rw [e2]
    rfl
  intro p hp
  replace hp : p ∈ s2.pairs ++ [((3 : Int), ((3 + z.length : Nat) : Int))] := hp
  suffices hh : 3 ≤ p.1 ∧ p.1 ≤ p.2 ∧ p.2 < (T.length : Int) ∧ toldOf (innerEnd T e p.1.toNat) = due R e p from ⟨hh.1, hh.2.1, hh.2.2.1, hh.2.2.2.trans (hd p).symm⟩
  rcases List.mem_append.mp hp with h | h
  · rw [e1] at h
    have hi := g.inP p h
    refine ⟨hi.1, hi.2.1, by have := hi.2.2; omega, ?_⟩
    exact g.told T e at1 (fun _ => by rw [at2.1]; decide) p h
  · rw [List.mem_singleton.mp h]
    refine ⟨Int.le_refl _, ?_, ?_, ?_⟩
    · show (3 : Int) ≤ ((3 + z.length : Nat) : Int); omega
    · show ((3 + z.length : Nat) : Int) < _
      rw [← toList_len]; omega
    · have := inner_new (e := e) g at1 at2.1
      rw [toList_len] at this
      exact this
/-! every sign of the built texts is a code point -/
noncomputable def okT (x : Str) : Prop := (x.cps.toList.all fun c => decide (c < 0x110000)) = true
theorem okT_app {x y : Str} (hx : okT x) (hy : okT y) : okT (x ++ y) := by
  unfold okT at hx hy ⊢
  rw [toList_app, List.all_append, hx, hy]
  rfl
theorem okT_pick {l : List Str} (h : ∀ x ∈ l, okT x) (i : Int) : okT (pick l i) := by
  unfold pick
  rw [List.getD_eq_getElem?_getD]
  cases q : l[i.toNat]? with
  | none => exact rfl
  | some x => exact h x (List.mem_of_getElem? q)
theorem okT_menu {l : List Str} (h : (l.all fun x => x.cps.toList.all fun c => decide (c < 0x110000)) = true) (i : Int) : okT (pick l i) := okT_pick (fun x hx => List.all_eq_true.mp h x hx) i
theorem okT_plain (i : Int) : okT (pick mPlain i) := okT_menu (by decide +kernel) i
theorem okT_hidden (i : Int) : okT (pick mHidden i) := okT_menu (by decide +kernel) i
theorem okT_lone (i : Int) : okT (pick mLone i) := okT_menu (by decide +kernel) i
theorem okT_escaped (i : Int) : okT (pick mEscaped i) := okT_menu (by decide +kernel) i
theorem okT_signs {cells : List Int} : ∀ (k : Nat) (st : St), ∀ x ∈ (signsF cells k st).1, okT x
  | 0, _, _, h => nomatch h
  | k + 1, st, x, h => by
    rcases List.mem_cons.mp h with rfl | h
    · exact okT_hidden _
    · exact okT_signs k st.next x h
theorem okT_join {l : List Str} (h : ∀ x ∈ l, okT x) : okT (Str.join Str.empty l) := join_all h
noncomputable def GenOk (G : Gen) : Prop := ∀ b st, okT (G b st).1
theorem laps_ok {f : Str × St → Str × St} (hf : ∀ y, okT y.1 → okT (f y).1) : ∀ n y, okT y.1 → okT (laps f n y).1
  | 0, _, h => h
  | n + 1, y, h => laps_ok hf n (f y) (hf y h)
section
variable {cells : List Int} {quoted part code : Gen} {deep : Bool} {b : Int}
theorem codeLap_ok (hq : GenOk quoted) (hp : GenOk part) (y : Str × St) (h : okT y.1) : okT (codeLap cells quoted part deep b y).1 := by
  unfold codeLap
  dsimp only
  generalize (if deep = true ∧ 0 < y.2.left then (5 : Int) else 3) = many
  split
  · exact okT_app h (okT_plain _)
  · split
    · exact okT_app (okT_app (okT_app h (by unfold okT; decide +kernel)) (hq _ _)) (by unfold okT; decide +kernel)
    · split
      · exact okT_app (okT_app h (by unfold okT; decide +kernel)) (hp _ _)
      · refine okT_app h ?_
        split
        · exact okT_app (okT_app (by unfold okT; decide +kernel) (okT_join (okT_signs _ _))) (by unfold okT; decide +kernel)
        · exact okT_app (okT_app (by unfold okT; decide +kernel) (okT_join (okT_signs _ _))) (by unfold okT; decide +kernel)
theorem quotLap_ok (hp : GenOk part) (y : Str × St) (h : okT y.1) : okT (quotLap cells part deep b y).1 := by
  unfold quotLap
  dsimp only
  generalize (if deep = true ∧ 0 < y.2.left then (3 : Int) else 2) = many
  split
  · exact okT_app h (okT_lone _)
  · split
    · exact okT_app h (okT_escaped _)
    · exact okT_app (okT_app h (by unfold okT; decide +kernel)) (hp _ _)
theorem code_ok (hq : GenOk quoted) (hp : GenOk part) : GenOk (codeF cells quoted part deep) := fun _ _ => laps_ok (codeLap_ok hq hp) _ _ rfl
theorem quot_ok (hp : GenOk part) : GenOk (quotF cells part deep) := fun _ _ => laps_ok (quotLap_ok hp) _ _ rfl
theorem part_ok (hc : GenOk code) : GenOk (partF code) := fun _ _ => okT_app (hc _ _) (by unfold okT; decide +kernel)
end
theorem noGen_ok : GenOk noGen := fun _ _ => rfl
theorem gen_ok (cells : List Int) : ∀ n, GenOk (gen cells n).1 ∧ GenOk (gen cells n).2
  | 0 => ⟨code_ok noGen_ok noGen_ok, quot_ok noGen_ok⟩
  | n + 1 => ⟨code_ok (gen_ok cells n).2 (part_ok (gen_ok cells n).1), quot_ok (part_ok (gen_ok cells n).1)⟩
theorem text_ok {cells : List Int} {st st' : St} {x tail T1 T : Str} (hG : partF (gen cells 4).1 3 st = (x, st')) (ht : okT tail) (h1 : T1 = Str.ofString "\"\\(" ++ x) (h2 : T = T1 ++ tail) : PyData.strOk T = true := by
  have hx : okT x := by have := part_ok (gen_ok cells 4).1 3 st; rw [hG] at this; exact this
  have hT : okT T := by
    rw [h2, h1]
    exact okT_app (okT_app (by unfold okT; decide +kernel) hx) ht
  unfold PyData.strOk
  rw [← Array.all_toList]
  exact hT
theorem eq_four {prog : Program} {w : World} {A : Around} {E : Value → Shared → Prop} {s : Shared} {h₀ : Heap} {L a b : Addr} {news : List (Addr × Obj)} {T : Str} {t1 t2 ta tb tc td te tf : Tok} {i j k : Int} {Q : Value → Shared → Prop}
    (N : News h₀ L s.heap news) (ha : (a, { cls := .type "tuple", data := .seq #[.str T t1, .int i ta, .int j tb, .int k tc] }) ∈ news) (hb : (b, { cls := .type "tuple", data := .seq #[.str T t2, .int i td, .int j te, .int k tf] }) ∈ news)
    (hT : PyData.strOk T = true) (hu : A.units + 64 < cLine) (h : Q (.bool true) s) : wpAny (model prog w) A (compareOp .Eq (.ref a) (.ref b)) Q E s := by
  have sh : PySem.SeqAt.shaped (.tuple [.str T, .int i, .int j, .int k]) = true := by
    unfold PySem.SeqAt.shaped
    simp [PyData.canLay0, PyData.canLayAll0, hT, PyData.depth, PyData.depthAll]
  refine eq_dataH (da := .tuple [.str T, .int i, .int j, .int k]) (db := .tuple [.str T, .int i, .int j, .int k]) (reads_tuple_at (News.get N ha) rfl rfl (.cons (Reads.str _ _) (.cons (Reads.int _ _) (.cons (Reads.int _ _) (.cons (Reads.int _ _) .nil)))))
    (reads_tuple_at (News.get N hb) rfl rfl (.cons (Reads.str _ _) (.cons (Reads.int _ _) (.cons (Reads.int _ _) (.cons (Reads.int _ _) .nil))))) sh sh hu ?_
  have e : PyData.eqv (.tuple [.str T, .int i, .int j, .int k]) (.tuple [.str T, .int i, .int j, .int k]) = true := by simp [PyData.eqv, PyData.eqvAll]
  rw [e]
  exact h
theorem law_gen {w : World} {cells : List Int} {p : Program} {loose : List Str} {mean : ExcName → Option Value} {mg mb : Str → Option Value} {dp un : Nat} {gd : Option (List Code)} {cn : Str} {cs : Scope} {a : Addr} {ccd : Value} {cl : List (Str × Addr)} {outer : List Env}
    {A₀ : Around} {base h₀ : Heap} {L : Addr} {m : Str → Option Value} {s : Shared} {Q E : Value → Shared → Prop}
    {d c pa ra g1 e1 e2 : Addr} {o og c1 c2 : Obj} {vs : List Value} {nc : Nat} {t1 t2 tb tf : Tok}
    (B : Below A₀ base outer h₀) (F : Fr h₀ L s.heap m) (X : (KK w.params).In h₀)
    (N : News h₀ L s.heap [(ra, listOf #[] 0), (pa, listOf #[] 0), (c, listOf vs.toArray nc), (g1, og), (d, o), (e1, c1), (e2, c2)]) (T : Top p loose mean mg mb h₀) (hk : cs.kind = .function)
    (hd : o.IsDictOf (strKind PG w) (feedL c pa ra 0 6 t1 t2))
    (l1 : @LT.lt Nat _ pa ra ∧ @LT.lt Nat _ c pa ∧ @LT.lt Nat _ d pa ∧ @Ne Nat c d ∧ @LT.lt Nat _ e1 d ∧ @LT.lt Nat _ e2 e1)
    (hI : IntsAre vs cells) (hcl : cells.length ≤ 60) (hdp : dp + 11 < recursionLimit)
    (hret : ∀ (x : Str) (pl' lf' : Int) (ps' rs' : List (Int × Int)) (pv' rv' : List Value) (np' nr' : Nat) (tl : List (Addr × Obj)) (t : Tok) (h' : Heap) (tk' : Nat) (o' : Obj) (t1' t2' : Tok),
      cells.length ≤ 60 → partF (gen cells 4).1 3 ⟨0, 6, [], []⟩ = (x, ⟨pl', lf', ps', rs'⟩) → x.length ≤ 3872 → 0 ≤ pl' → pl' ≤ 3872 → ps'.length ≤ 3872 → rs'.length ≤ 3872 →
      Fr h₀ L h' m → News h₀ L h' ((d, o') :: (pa, listOf pv'.toArray np') :: (ra, listOf rv'.toArray nr') :: (c, listOf vs.toArray nc) :: (e1, c1) :: (e2, c2) :: tl) →
      o'.IsDictOf (strKind PG w) [("cells", .ref c), ("place", .int pl' t1'), ("left", .int lf' t2'), ("pairs", .ref pa), ("remarks", .ref ra)] →
      PairsIn tl pv' ps' → PairsIn tl rv' rs' → pv'.length = ps'.length → rv'.length = rs'.length →
      (∀ q ∈ tl, q.1 ≠ d) → (∀ q ∈ tl, q.1 ≠ pa) → (∀ q ∈ tl, q.1 ≠ ra) → (∀ q ∈ tl, q.1 ≠ c) → (∀ q ∈ tl, q.1 ≠ e1) → (∀ q ∈ tl, q.1 ≠ e2) →
      Q (.str x t) { s with heap := h', toks := tk' }) :
    wpAny (model PG w) (ktrTop dp un gd cn cs L a ccd cl outer) (call (.ref 189) [.ref d, .int 3 tb, .int 4 tf]) Q E s := by
  obtain ⟨a1, a2, a3, a6, a4, a5⟩ := l1
  refine gen_use top_part (ps := []) (rs := []) (pv := []) (rv := []) (np := 0) (nr := 0) (nc := nc) (bs := []) (rest := [(e1, c1), (e2, c2)]) B F X (news_sub N ?_) T hk hd ?_ ?_ ?_ ?_ ?_ ?_ ?_ ?_ ?_ hI hcl trivial trivial rfl ?_ ?_ ?_ ?_ ?_ ?_ hdp ?_
  · intro q hq
    simp only [led4, List.mem_cons, List.not_mem_nil, or_false, List.toArray] at hq ⊢
    rcases hq with h | h | h | h | h | h <;> simp only [h, true_or, or_true]
  · exact Nat.ne_of_gt (by omega)
  · exact Nat.ne_of_gt (by omega)
  · exact a6
  · exact Nat.ne_of_gt (by omega)
  · exact Nat.ne_of_lt (by omega)
  · exact Nat.ne_of_lt (by omega)
  · refine List.forall_mem_cons.mpr ⟨Nat.ne_of_lt (by show @LT.lt Nat _ e1 d; omega), List.forall_mem_cons.mpr ⟨Nat.ne_of_lt (by show @LT.lt Nat _ e2 d; omega), List.forall_mem_nil _⟩⟩
  · refine List.forall_mem_cons.mpr ⟨Nat.ne_of_lt (by show @LT.lt Nat _ e1 pa; omega), List.forall_mem_cons.mpr ⟨Nat.ne_of_lt (by show @LT.lt Nat _ e2 pa; omega), List.forall_mem_nil _⟩⟩
  · refine List.forall_mem_cons.mpr ⟨Nat.ne_of_lt (by show @LT.lt Nat _ e1 ra; omega), List.forall_mem_cons.mpr ⟨Nat.ne_of_lt (by show @LT.lt Nat _ e2 ra; omega), List.forall_mem_nil _⟩⟩
  · decide
  · decide
  · decide
  · decide
  · decide
  · decide
  · intro x pl' lf' ps' rs' pv' rv' np' nr' tl rest' bs' t h' tk' o' t1' t2' er eb ft b1 b2 b3 b4 b5 b6 F' N' hd' hp hr hpl hrl _ _ _
    subst er
    subst eb
    rw [List.append_nil] at hp hr
    refine hret x pl' lf' ps' rs' pv' rv' np' nr' tl t h' tk' o' t1' t2' hcl b1 b2 b3 (by simpa using b4) (by simpa using b5) (by simpa using b6) F' (news_sub N' ?_) hd' hp hr hpl hrl (fun q hq => Nat.ne_of_gt (ft q hq).1) (fun q hq => Nat.ne_of_gt (ft q hq).2.1) (fun q hq => Nat.ne_of_gt (ft q hq).2.2.1) (fun q hq => Nat.ne_of_gt (ft q hq).2.2.2.1) (fun q hq => Nat.ne_of_gt ((ft q hq).2.2.2.2 (e1, c1) (.head _))) (fun q hq => Nat.ne_of_gt ((ft q hq).2.2.2.2 (e2, c2) (.tail _ (.head _))))
    intro q hq
    simp only [List.mem_cons, List.mem_append, List.not_mem_nil, or_false] at hq ⊢
    rcases hq with h | h | h | h | h | h | h <;> simp only [h, true_or, or_true]

noncomputable def mTail : List Str := ["\"", ")\"", "\"(", ""]
theorem mTail_len : (mTail.all fun x => decide (x.length ≤ 3)) = true := by decide +kernel
theorem tail_item {prog : Program} {w : World} {A : Around} {E : Value → Shared → Prop} {s : Shared} {value slice : PySem.Expr} {h₀ : Heap} {L l : Addr} {i : Int} {u k1 k2 k3 k4 : Tok} {Q : Value → Shared → Prop} {news : List (Addr × Obj)}
    (N : News h₀ L s.heap news) (hm : (l, { cls := .type "tuple", data := .seq #[.str "\"" k1, .str ")\"" k2, .str "\"(" k3, .str "" k4] }) ∈ news) (h0 : 0 ≤ i) (h1 : i < 4) (h : ∀ y t', y.length ≤ 3 → okT y → Q (.str y t') s)
    (hs : subscripted slice false (.ref l) (.int i u) = operate [.ref l, .int i u] (getItem (.ref l) (.int i u)) := by with_unfolding_all rfl) :
    wpAny (model prog w) A (subscriptTail value slice (.ref l) (.int i u)) Q E s :=
  menu_item (ws := mTail) ⟨_, ⟨_, (N _ hm).1, rfl, _, rfl⟩, .cons _ _ (.cons _ _ (.cons _ _ (.cons _ _ .nil)))⟩ mTail_len h0 h1 (Int.lt_trans h1 (by decide)) (fun t' hl => h _ t' hl (okT_menu (by decide +kernel) _)) hs
/-! TextFault made: the class has no __init__ of its own; SpotFault's and FdError's are walked -/
noncomputable abbrev tupL (vs : List Value) : Obj := { cls := .type "tuple", data := .seq vs.toArray }
noncomputable abbrev excO (t : Addr) (d : Option Addr) : Obj := { cls := .ref 81, dict := d, data := .fields #[.ref t, .none, .none, .none, .bool false, .none] }
noncomputable abbrev ftail : List Value := [.ref 69, .ref 40, .type "Exception", .type "BaseException", .type "object"]

section
variable {w : World} {A : Around} {R : Result → Shared → Prop} {h : Heap} {g : Array GenState} {d : Drawn} {t : Nat} {os : OsState}
theorem fault_new {rest : List Value} (X : (KK w.params).In h) (hrest : rest.length ≤ sizeLine)
    (hq : R (.ok (.ret (.ref (h.objs.size + 1)))) ⟨(h.push (tupL rest)).push (excO h.objs.size none), g, d, t, os⟩) :
    codeAny (model PG w) A (.builtin "Exception.__new__" ⟨.ref 81 :: rest, []⟩) R ⟨h, g, d, t, os⟩ := by
  have F := PySem.F.excBase_Exception
  have hends := F.ends
  have hC := X 81 _ (by k_is)
  refine codeAny_builtinAt F.entry ?_
  unfold Builtin.«BaseException.__new__»
  refine _root_.PySem.wpAt_bind ?_
  show _root_.PySem.wpAt _ _ _ (stack >>= _) _ _ _
  refine _root_.PySem.wpAt_bind (_root_.PySem.wpAt_stack fun p below => _root_.PySem.wpAt_of_wpAny ?_)
  wp_walk
  refine _root_.PySem.wpAt_of_wpAny ?_
  rw [F.owner]
  have c1 : (Value.ref 81 :: ftail).contains (.type "Exception") = true := by decide +kernel
  have c2 : (Value.ref 81 :: ftail).contains (.type "AttributeError") = false := by decide +kernel
  have c3 : (Value.ref 81 :: ftail).contains (.type "NameError") = false := by decide +kernel
  repeat (first | with_reducible refine wpAny_madeHere_exc F.canon hC ?_ | with_reducible refine wpAny_loadPart_at hC ?_ | (with_reducible refine wpAny_isSubtype_exc hC ?_; first | rw [c1] | rw [c2] | rw [c3]) | wp_step)
  show R _ _
  rw [Heap.size_push]
  exact hq
end

section
variable {w : World} {A : Around} {R : Result → Shared → Prop} {h : Heap} {g : Array GenState} {d : Drawn} {t : Nat} {os : OsState}
theorem fault_core {rest : List Value} (X : (KK w.params).In h) (hrest : rest.length ≤ sizeLine)
    (hq : codeAny (model PG w) (A.under (.builtin "type.__call__" ⟨.ref 81 :: rest, []⟩)) (.call (.ref 59) ⟨.ref (h.objs.size + 1) :: rest, []⟩) (InitBack (h.objs.size + 1) R) ⟨(h.push (tupL rest)).push (excO h.objs.size none), g, d, t, os⟩) :
    codeAny (model PG w) A (.call (.ref 81) ⟨rest, []⟩) R ⟨h, g, d, t, os⟩ := by
  have F := PySem.F.excBase_Exception
  have hC := X 81 _ (by k_is)
  have X' : (KK w.params).In ((h.push (tupL rest)).push (excO h.objs.size none)) := X.keeps fun b o e => Heap.get?_push_of_some _ (Heap.get?_push_of_some _ e)
  have he : ((h.push (tupL rest)).push (excO h.objs.size none)).get? (h.objs.size + 1) = some (excO h.objs.size none) := by heap_get
  have hC' := X' 81 _ (by k_is)
  have typ : Looks (model PG w) h (isInstance (.ref 81) (.type "type")) true := looks_instIn X (by k_is)
  have call : Looks (model PG w) h (specialOf (.ref 81) "__call__") (some (.builtin "type.__call__")) := looks_specialIn X (by k_is)
  have i1 : Looks (model PG w) ((h.push (tupL rest)).push (excO h.objs.size none)) (typeLookup (.ref 81) "__init__") (some (.ref 59)) := looks_findIn X' (by k_is)
  have b1 : Looks (model PG w) ((h.push (tupL rest)).push (excO h.objs.size none)) (bindSpecial (.ref 59) (.ref (h.objs.size + 1))) (.ref 59, [.ref (h.objs.size + 1)]) := bind_fn X' _ (by k_is)
  have t1 : Looks (model PG w) ((h.push (tupL rest)).push (excO h.objs.size none)) (typeOf (.ref (h.objs.size + 1))) (.ref 81) := (Looks.ld he).andThen .now
  refine codeAny_of_tree ?_
  show wpAny _ _ (callAny (.ref 81) _) _ _ _
  refine nd_load hC ?_
  show wpAny _ _ (callAny.viaDunder (.ref 81) _) _ _ _
  unfold callAny.viaDunder
  refine wpAny_bind (call.at ?_)
  dsimp only
  rw [tc_bind]
  refine wpAny_bind (wpAny_pure (wpAny_bind (wpAny_pure ?_)))
  refine wpAny_pure (a := Fin.again (.call (.builtin "type.__call__") ⟨.ref 81 :: rest, []⟩)) (And.intro rfl ?_)
  refine codeAny_call_builtin_at (Code.quiet_builtin _ (by decide +kernel)) entry_typeCall (check_slot tc_kind tc_split typ (tc_args _ _ _) ?_)
  unfold Builtin.«type.__call__»
  repeat (first | with_reducible refine wpAny_loadPart_at hC ?_ | with_reducible refine wpAny_madeBy_exc hC ?_ | wp_step)
  refine codeAny_call_builtin_code (Code.quiet_builtin _ F.quiet) ?_
  have c1 : (Value.ref 81 :: ftail).contains (.type "Exception") = true := by decide +kernel
  have hstar := F.noStar
  simp only [checkBuiltinCall, F.newKind, F.newSplit, F.newRow]
  repeat (first | with_reducible refine wpAny_loadPart_at hC ?_ | (with_reducible refine wpAny_isSubtype_exc hC ?_; rw [c1]) | with_reducible refine wpAny_staticBase_exc hC ?_ | with_reducible refine wpAny_madeBy_exc hC ?_ | simp only [bne_self_eq_false, Bool.false_eq_true, if_false] | wp_step)
  refine fault_new X hrest ?_
  have c4 : (Value.ref 81 :: ftail).contains (.ref 81) = true := by decide +kernel
  dsimp only
  unfold isInstance
  refine wpAny_bind (wpAny_bind (t1.here ?_))
  refine wpAny_isSubtype_exc hC' ?_
  rw [c4]
  simp only [Bool.not_true, Bool.false_eq_true, if_false]
  unfold callSpecial? specialOf
  repeat (first | with_reducible refine wpAny_call ?_ | lk)
  refine codeAny_mono hq fun r s' z => ?_
  rcases r with e | (v | _ | _ | _) <;> first | exact z | exact z.elim | skip
  obtain ⟨rfl, z⟩ := z
  exact wpAny_pure (wpAny_pure z)
end

section
variable {w : World} {A : Around} {E : Value → Shared → Prop} {s : Shared} {h₀ : Heap} {L : Addr} {m : Str → Option Value} {news : List (Addr × Obj)} {Q : Value → Shared → Prop}
theorem fault_cls {rest : List Value} (F : Fr h₀ L s.heap m) (X₀ : (KK w.params).In h₀) (N : News h₀ L s.heap news) (hrest : rest.length ≤ sizeLine)
    (h : ∀ e t h', Fr h₀ L h' m → News h₀ L h' ((e, excO t none) :: (t, tupL rest) :: news) → (∀ p ∈ news, p.1 < t) → t < e →
      codeAny (model PG w) (A.under (.builtin "type.__call__" ⟨.ref 81 :: rest, []⟩)) (.call (.ref 59) ⟨.ref e :: rest, []⟩) (InitBack e fun r s' => match r with | .ok (.ret v) => Q v s' | .ok _ => False | .error e => E e s') { s with heap := h' }) :
    wpAny (model PG w) A (call (.ref 81) rest) Q E s := by
  obtain ⟨hh, g, d, t, os⟩ := s
  refine wpAny_call (fault_core (X₀.keeps F.keep) hrest (h _ hh.objs.size _ ((F.push _).push _) ?_ (fun p hp => Heap.lt_size (N p hp).1) (Nat.lt_succ_self _)))
  have := (N.push F (tupL rest)).push (F.push _) (excO hh.objs.size none)
  rwa [Heap.size_push] at this
end
section
open PySem.W (InstAt)
theorem fault_inst0 {h₀ h : Heap} {L e t : Addr} {news : List (Addr × Obj)} (N : News h₀ L h news) (m : (e, excO t none) ∈ news) : PySem.W.InstAt h e (excO t none) 81 none := ⟨(N _ m).1, rfl, rfl, trivial⟩
theorem fault_inst1 {h₀ h : Heap} {L e t D : Addr} {es : List DictEntry} {n : Nat} {news : List (Addr × Obj)} (N : News h₀ L h news) (m : (e, excO t (some D)) ∈ news) (m2 : (D, dictOf es n) ∈ news) : PySem.W.InstAt h e (excO t (some D)) 81 (some (dictOf es n)) := ⟨(N _ m).1, rfl, rfl, (N _ m2).1⟩
end
noncomputable abbrev mwO (e : Addr) : Obj := { cls := .type "method-wrapper", data := .fields #[.builtin "Exception.__init__", .ref e] }
theorem slot_wd : Slot "wrapper_descriptor" "__get__" "wrapper_descriptor.__get__" := .of (owner := "wrapper_descriptor") (n := "__get__") (by rw [typeLookup_type, builtinLookup_eq_fast]; kernel_rfl) (by decide +kernel) (by decide +kernel) (by decide +kernel)
  (by first | exact .inl (by decide +kernel) | exact .inr (by decide +kernel)) (by rw [isSubtype_type]; kernel_rfl)
theorem entry_wd : entryFor table "wrapper_descriptor.__get__" = some Builtin.«wrapper_descriptor.__get__» := entryFor_of_tree (by kernel_rfl)
theorem args_wd (a b c : Value) : argsOk "wrapper_descriptor.__get__" ⟨[a, b, c], []⟩ := by unfold argsOk; kernel_rfl
section
variable {w : World} {A : Around} {E : Value → Shared → Prop} {h : Heap} {g : Array GenState} {d : Drawn} {t : Nat} {os : OsState}
theorem wd_run {e tt : Addr} {dd : Option Addr} {Q : Fin → Shared → Prop} (X : (KK w.params).In h) (he : h.get? e = some (excO tt dd))
    (hq : Q (.done (.ret (.ref h.objs.size))) ⟨h.push (mwO e), g, d, t, os⟩) :
    wpAny (model PG w) A (Builtin.«wrapper_descriptor.__get__» ⟨[.builtin "Exception.__init__", .ref e, .ref 81], []⟩) Q E ⟨h, g, d, t, os⟩ := by
  have hC := X 81 _ (by k_is)
  have t1 : Looks (model PG w) h (typeOf (.ref e)) (.ref 81) := (Looks.ld he).andThen .now
  have c1 : (Value.ref 81 :: ftail).contains (.type "Exception") = true := by decide +kernel
  unfold Builtin.«wrapper_descriptor.__get__»
  refine wpAny_bind (wpAny_of_eq (a := (.builtin "Exception.__init__", some (.ref e), some (.ref 81))) (by kernel_rfl) ?_)
  dsimp only
  repeat lk
  exact hq
theorem sup_ga {K : Frag} {l₀ l : List Value} {so e : Addr} {tk : Tok} {Q : Fin → Shared → Prop} (X : K.In h) (hso : h.get? so = some { cls := .type "super", dict := none, data := .fields #[.ref 40, .ref e, .ref 81], slots := #[] }) (hne : e ≠ 81)
    (hno : Looks (model PG w) h (opaqueClassAbove (.ref 81)) none) (hC : Looks (model PG w) h (mroOf (.ref 81)) l₀) (hl : (l₀.dropWhile (· != .ref 40)).drop 1 = l) (hf : alongIn K "__init__" l = some (some (.builtin "Exception.__init__")))
    (ty : Looks (model PG w) h (typeOf (.builtin "Exception.__init__")) (.type "wrapper_descriptor"))
    (run : ∀ {A : Around} {Q : Fin → Shared → Prop}, Q (.done (.ret (.ref h.objs.size))) ⟨h.push (mwO e), g, d, t, os⟩ → wpAny (model PG w) A (Builtin.«wrapper_descriptor.__get__» ⟨[.builtin "Exception.__init__", .ref e, .ref 81], []⟩) Q E ⟨h, g, d, t, os⟩)
    (hq : Q (.done (.ret (.ref h.objs.size))) ⟨h.push (mwO e), g, d, t, os⟩) :
    wpAny (model PG w) A (Builtin.«super.__getattribute__» ⟨[.ref so, .str "__init__" tk], []⟩) Q E ⟨h, g, d, t, os⟩ := by
  have hdt : ({ cls := .type "super", dict := none, data := .fields #[.ref 40, .ref e, .ref 81], slots := #[] } : Obj).data = .fields #[.ref 40, .ref e, .ref 81] := rfl
  have f0 : (#[.ref 40, .ref e, .ref 81] : Array Value)[0]? = some (.ref 40) := rfl
  have f1 : (#[.ref 40, .ref e, .ref 81] : Array Value)[1]? = some (.ref e) := rfl
  have f2 : (#[.ref 40, .ref e, .ref 81] : Array Value)[2]? = some (.ref 81) := rfl
  have hnb : (Value.ref e == Value.ref 81) = false := by simp [hne]
  have lw : typeLookup (.type "wrapper_descriptor") "__get__" = pure (some (.builtin "wrapper_descriptor.__get__")) := slot_wd.lookup
  unfold Builtin.«super.__getattribute__»
  repeat (first
    | (with_reducible refine wpAny_field hso hdt f0 ?_) | (with_reducible refine wpAny_field hso hdt f1 ?_) | (with_reducible refine wpAny_field hso hdt f2 ?_)
    | (with_reducible refine ks_wpAny_notOpaque hno ?_)
    | (with_reducible refine Looks.at hC ?_; rw [hl])
    | (refine ks_forIn_along X (fun _ _ => rfl) rfl ?_ hf)
    | (with_reducible refine wpAny_bind (Looks.at ty ?_))
    | (with_reducible refine wpAny_bind (wpAny_of_eq lw ?_))
    | (with_reducible refine ⟨_, rfl, ?_⟩)
    | wp_step
    | dsimp only)
  rw [hnb]
  simp only [Bool.false_eq_true, if_false]
  refine codeAny_call_builtin slot_wd.plain entry_wd (check_slot (i := "wrapper_descriptor.__get__") (owner := "wrapper_descriptor") (n := "__get__") (by decide +kernel) (by decide +kernel) (ty.andThen (Looks.of_pure (by rw [isSubtype_type]; kernel_rfl))) (args_wd _ _ _) ?_)
  refine run ?_
  exact wpAny_pure (wpAny_pure hq)
theorem sup_method {so e tt : Addr} {dd : Option Addr} {pl : Sem Bool} {Q : Value × List Value → Shared → Prop} (X : (KK w.params).In h) (he : h.get? e = some (excO tt dd)) (hso : h.get? so = some (ks_superObj 40 e 81)) (hne : e ≠ 81)
    (hq : Q (.ref h.objs.size, []) ⟨h.push (mwO e), g, d, t + 1, os⟩) :
    wpAny (model PG w) A (getMethod (.ref so) "__init__" pl) Q E ⟨h, g, d, t, os⟩ := by
  have hlk := PySem.F.ks_slot_super_ga.lookup
  have hcan := PySem.F.ks_canon_super_ga
  have hT : ∀ t', (⟨h, g, d, t', os⟩ : Shared).TypeIs (.ref so) "super" := fun _ => ⟨_, hso, rfl⟩
  have hno : Looks (model PG w) h (opaqueClassAbove (.ref 81)) none := looks_opaque X (by k_is)
  have hC : Looks (model PG w) h (mroOf (.ref 81)) (.ref 81 :: ftail) := (looks_clsIn X (by k_is)).andThen .now
  have hf : alongIn (KK w.params) "__init__" [.type "Exception", .type "BaseException", .type "object"] = some (some (.builtin "Exception.__init__")) := by
    have h0 : fastBuiltinOwn "Exception" (Str.ofString "__init__") = some (.builtin "Exception.__init__") := by kernel_rfl
    simp only [alongIn, ownIn, h0]
  have ty : Looks (model PG w) h (typeOf (.builtin "Exception.__init__")) (.type "wrapper_descriptor") := Looks.of_pure (by show builtinType _ = _; rw [builtinType_eq_fast]; kernel_rfl)
  unfold getMethod
  refine wpAny_bind (wpAny_specialOf (hT _) hlk ?_)
  show wpAny _ _ (if (Manifest.canonical "super.__getattribute__" != "object.__getattribute__") = true then _ else _) _ _ _
  rw [if_pos hcan]
  unfold getAttr getAttrBy
  refine wpAny_bind (wpAny_bind (wpAny_mkText (wpAny_holding (wpAny_bind (wpAny_typeOf (hT _) (wpAny_bind (wpAny_of_eq hlk ?_)))))))
  show wpAny _ _ (getAttrByItsOwn (.ref so) (.str _ t) (.type "super") (.builtin "super.__getattribute__") true false) _ _ _
  unfold getAttrByItsOwn hookBefore callGetattribute boundAndCalled
  refine wpAny_bind (wpAny_of_eq (show (if onTheHeap (.type "super") then typeLookup (.type "super") "__getattr__" else pure none) = pure none from rfl) ?_)
  refine wpAny_bind (wpAny_attempt (wpAny_holding ?_))
  show wpAny _ _ (bindSpecial (.builtin "super.__getattribute__") (.ref so) >>= _) _ _ _
  refine wpAny_bind (wpAny_of_eq (PySem.F.ks_slot_super_ga.bind _) ?_)
  refine wpAny_mono (Q := fun v s' => v = .ref h.objs.size ∧ s' = ⟨h.push (mwO e), g, d, t + 1, os⟩) (E := fun _ _ => False)
    (wpAny_call_entry PySem.F.ks_slot_super_ga (hT _) PySem.F.ks_entry_super_ga (sup_ga X hso hne hno hC (by decide +kernel) hf ty (fun hq => wd_run X he hq) ⟨_, rfl, rfl, rfl⟩) (PySem.F.ks_gaArgs_super _ _)) (fun v s' hv => ?_) fun _ _ z => z.elim
  obtain ⟨rfl, rfl⟩ := hv
  exact wpAny_pure (wpAny_pure hq)
end

section
variable {w : World} {A : Around} {E : Value → Shared → Prop} {s : Shared} {h₀ : Heap} {L : Addr} {m : Str → Option Value} {news : List (Addr × Obj)} {gg : Obj → List (Addr × Obj)} {Q : Value → Shared → Prop}
theorem mw_call {q e tt : Addr} {v : Value} (F : Fr h₀ L s.heap m) (X₀ : (KK w.params).In h₀) (N : News h₀ L s.heap news) (hq : (q, mwO e) ∈ news) (U : UpdF e (excO tt none) news gg)
    (hret : ∀ t' h', Fr h₀ L h' m → News h₀ L h' ((t', tupL [v]) :: gg (excO t' none)) → (∀ p ∈ news, p.1 < t') → Q .none { s with heap := h' }) :
    wpAny (model PG w) A (call (.ref q) [v]) Q E s := by
  obtain ⟨pre, post, rfl, hg, ha, hb⟩ := U.split
  have hqo := (N _ hq).1
  have heo := (N (e, excO tt none) (by simp)).1
  obtain ⟨hh, g, d, t, os⟩ := s
  have F2 := F.push (tupL [v])
  have N2 := N.push F (tupL [v])
  have heo2 := (N2 (e, excO tt none) (by simp)).1
  have kf : (excO tt none).data = .fields #[.ref tt, .none, .none, .none, .bool false, .none] := rfl
  have F0 := PySem.F.excBase_Exception
  have hC : hh.get? 81 = _ := (X₀.keeps F.keep) 81 _ (by k_is)
  refine wpAny_call (codeAny_of_tree ?_)
  show wpAny _ _ (callAny (.ref q) _) _ _ _
  refine nd_load hqo ?_
  show wpAny _ _ ((checkBoundCall "Exception.__init__" ⟨[.ref e, v], []⟩) >>= fun _ => (again (.builtin "Exception.__init__" ⟨[.ref e, v], []⟩) >>= fun r => pure r)) _ _ _
  refine wpAny_bind ?_
  unfold checkBoundCall
  rw [F0.initRow, F0.initKind]
  show wpAny _ _ (Bind.checkArgs "Exception.__init__" ⟨.positional, "*", "Exception", .self, [⟨"args", .varPos, false⟩]⟩ ⟨[.ref e, v], []⟩) _ _ _
  have hshort := F0.noStar
  repeat (first | with_reducible refine wpAny_load hC ?_ | wp_step)
  refine ⟨plainId_quiet F0.init.plain _, codeAny_builtin F0.initEntry ?_⟩
  obtain ⟨FU, NU⟩ := news_upd (d := e) (f := Obj.mapFields (·.setIfInBounds 0 (.ref hh.objs.size))) (o := excO tt none) (o' := excO hh.objs.size none) (pre := (hh.objs.size, tupL [v]) :: pre) (post := post) F2 (by simpa using N2) (fun p hp => by
    rcases List.mem_cons.mp hp with rfl | hp
    · exact fun z => absurd (Heap.lt_size heo) (by rw [← z]; exact Nat.lt_irrefl _)
    · exact ha p hp) hb rfl rfl
  unfold Builtin.«BaseException.__init__» Builtin.BaseException.bexcPut
  repeat (first | (with_reducible refine wpAny_field heo2 kf rfl ?_) | (with_reducible refine wpAny_setField heo2 kf (by decide) ?_) | wp_step)
  refine hret _ _ FU ?_ (fun p hp => Heap.lt_size (N p hp).1)
  rw [hg]
  exact NU
end
section
variable {w : World} {A : Around} {E : Value → Shared → Prop} {s : Shared} {h₀ : Heap} {L : Addr} {m : Str → Option Value} {news : List (Addr × Obj)} {gg : Obj → List (Addr × Obj)} {R : Result → Shared → Prop}
theorem mw_callWith {pos : Pos} {q e : Addr} {first : List Value} {env : Env} {x : PySem.Expr} {rest : List PySem.Expr} {Q : Value → Shared → Prop}
    (h : wpAny (model PG w) A (spliced (backTo pos (starEach (x :: rest) env))) (fun vs s₁ => s₁.heap.get? q = some (mwO e) ∧ wpAny (model PG w) A (call (.ref q) (first ++ vs)) Q E s₁) E s)
    (he : starEach (x :: rest) env = (false, eval x env) :: starEach rest env := by rfl) (hplain : (backTo pos (starEach rest env)).any (·.1) = false := by rfl) :
    wpAny (model PG w) A (callWith pos (.ref q) first (backTo pos (starEach (x :: rest) env)) []) Q E s := by
  rw [he] at h ⊢
  have hp : (backTo pos ((false, eval x env) :: starEach rest env)).any (·.1) = false := by show (false || (backTo pos (starEach rest env)).any (·.1)) = false; rw [hplain]; rfl
  have h' : wpAny (model PG w) A (evalArgs (.ref q) true (backTo pos ((false, eval x env) :: starEach rest env)) []) (fun a s₁ => s₁.heap.get? q = some (mwO e) ∧ wpAny (model PG w) A (call (.ref q) (first ++ a.pos) a.kw) Q E s₁) E s := evalArgs_plain h
  unfold callWith
  refine wpAny_bind (wpAny_holding (wpAny_mono h' (fun x s₁ h₁ => wpAny_bind (wpAny_standAt ?_)) fun _ _ x => x))
  obtain ⟨ho, hcall⟩ := h₁
  simp only [hp, List.any_nil, Bool.or_false]
  refine wpAny_bind (m := keeperOf (.ref q)) ?_
  unfold keeperOf
  refine wpAny_bind (wpAny_load ho ?_)
  simp only [show (Value.type "method-wrapper" != Value.type "method") = true by decide, show (Value.type "method-wrapper" == Value.type "builtin_function_or_method" || Value.type "method-wrapper" == Value.type "method-wrapper") = true by decide, if_true]
  refine wpAny_pure ?_
  exact wpAny_bind (wpAny_mono hcall (fun r s₂ hr => wpAny_bind (wpAny_holding (wpAny_point (wpAny_pure hr)))) fun _ _ x => x)

theorem exc_open {e tt : Addr} {dd : Option Addr} {name : Str} {tk : Tok} {v : Value} (X : (KK w.params).In s.heap) (he : s.heap.get? e = some (excO tt dd)) (ht : findIn (KK w.params) (.ref 81) name = some none)
    (h : ∀ b, wpAny (model PG w) A.in1 (Builtin.ObjectAttr.storeInOwnDict (.ref e) (.ref 81) (.str name tk) name v b)
      (fun fin s' => match fin with | .done f => R (.ok f) s' | .again c' => c'.quiet = true ∧ codeAny (model PG w) A c' R s') (fun e s' => R (.error e) s') s) :
    codeAny (model PG w) A (.call (.builtin "object.__setattr__") ⟨[.ref e, .str name tk, v], []⟩) R s := by
  have SF := PySem.F.store_object
  have t1 : Looks (model PG w) s.heap (typeOf (.ref e)) (.ref 81) := (Looks.ld he).andThen .now
  have sub : Looks (model PG w) s.heap (isInstance (.ref e) (.type "object")) true := t1.andThen (looks_mroIn X (by k_is))
  refine codeAny_call_builtin SF.slot.plain SF.entry (@check_slot (model PG w) _ _ s "object.__setattr__" "object" "__setattr__" (.ref e) [.str name tk, v] [] _ SF.kind SF.split sub (SF.args (.ref e) (.str name tk) v) ?_)
  have hm : Looks (model PG w) s.heap (mroOf (.ref 81)) (.ref 81 :: ftail) := (looks_clsIn X (by k_is)).andThen .now
  rw [osa_eq, refuse_eq]
  refine wpAny_bind (wpAny_bind (t1.here (wpAny_bind (hm.here ?_))))
  rw [refuseLoop_ref, refuseLoop_ref, refuseLoop_ref, PySem.F.store_Exception.passes]
  refine wpAny_pure (wpAny_bind (t1.here (wpAny_bind ((looks_findIn X ht).here (wpAny_bind (wpAny_pure ?_))))))
  exact h _

theorem dict_store {D : Addr} {name : Str} {tk : Tok} {v : Value} {pre post : List (Addr × Obj)} {es es' : List DictEntry} {n n' : Nat} {Q : PySem.Fin → Shared → Prop} (F : Fr h₀ L s.heap m) (N : News h₀ L s.heap (pre ++ (D, dictOf es n) :: post))
    (h1 : ∀ p ∈ pre, p.1 ≠ D) (h2 : ∀ p ∈ post, p.1 ≠ D) (hl : (getL name es).isSome = true)
    (e : (putL name (PyData.keyHash w.params name) (.str name s.toks) v es, putN name es n) = (es', n')) (hz : es'.length ≤ 1000)
    (h : ∀ h', Fr h₀ L h' m → News h₀ L h' (pre ++ (D, dictOf es' n') :: post) → Q (.done (.ret .none)) { s with heap := h', toks := s.toks + 1 }) :
    wpAny (model PG w) A (Builtin.ObjectAttr.storeInDict D (.str name tk) name v) Q E s := by
  obtain ⟨e1, e2⟩ := Prod.mk.inj e
  have ep : Obj.putName name (PyData.keyHash w.params name) (.str name s.toks) v (dictOf es n) = dictOf es' n' := by rw [putName_dict, e1, e2]
  obtain ⟨U1, U2⟩ := news_upd (f := Obj.putName name (PyData.keyHash w.params name) (.str name s.toks) v) F N h1 h2 ep rfl
  have Do := (N (D, dictOf es n) (by simp)).1
  have D' := (U2 (D, dictOf es' n') (by simp)).1
  unfold Builtin.ObjectAttr.storeInDict Builtin.ObjectAttr.newKeyGuard
  refine wpAny_bind (wpAny_pure (wpAny_bind ?_))
  unfold nsSet
  refine wpAny_bind (wpAny_bind (wpAny_askSetting (wpAny_pure (wpAny_bind (wpAny_mkText (wpAny_bind (wpAny_loadPart Do ?_)))))))
  have c : (!es.toArray.any (·.key.isStr name) && es.toArray.any (·.refKey)) = false := by
    unfold getL at hl
    rw [List.any_toArray, List.any_toArray]
    split at hl
    · rename_i en he
      rw [List.any_eq_true.mpr ⟨en, List.mem_of_find?_eq_some he, List.find?_some he⟩]; rfl
    · split at hl
      · cases hl
      · rename_i z; rw [Bool.not_eq_true] at z; rw [z, Bool.and_false]
  dsimp only
  rw [aRefKeyMayBeTheName_at, c]
  refine wpAny_updatePart Do ?_
  refine wpAny_bind (wpAny_lookBehind D' (pastItsLine_dict (by rw [List.size_toArray, sizeLine_eq]; omega)) ?_)
  exact wpAny_pure (h _ U1 U2)
end

section
variable {w : World} {A : Around} {E : Value → Shared → Prop} {s : Shared} {h₀ : Heap} {L : Addr} {m : Str → Option Value} {news : List (Addr × Obj)} {gg : Obj → List (Addr × Obj)} {Q : Unit → Shared → Prop}
theorem exc_set1 {e tt D : Addr} {name : Str} {v : Value} {es es' : List DictEntry} {n n' : Nat} (F : Fr h₀ L s.heap m) (X₀ : (KK w.params).In h₀) (N : News h₀ L s.heap news) (he : (e, excO tt (some D)) ∈ news) (U : UpdF D (dictOf es n) news gg)
    (ht : findIn (KK w.params) (.ref 81) name = some none) (hl : (getL name es).isSome = true)
    (ep : (putL name (PyData.keyHash w.params name) (.str name (s.toks + 1)) v es, putN name es n) = (es', n')) (hz : es'.length ≤ 1000)
    (h : ∀ h', Fr h₀ L h' m → News h₀ L h' (gg (dictOf es' n')) → Q () { s with heap := h', toks := s.toks + 2 }) :
    wpAny (model PG w) A (setAttr (.ref e) name v) Q E s := by
  have X := X₀.keeps F.keep
  obtain ⟨pre, post, rfl, hg, ha, hb⟩ := U.split
  have I := fault_inst1 N he (show (D, dictOf es n) ∈ _ by simp)
  have heo := (N _ he).1
  have hC := X 81 _ (by k_is)
  refine set_plain X I (by k_is) ?_
  refine exc_open (s := { s with toks := s.toks + 1 }) X heo ht fun b => ?_
  refine wpAny_bind (wpAny_pure (wpAny_bind (wpAny_bind (wpAny_loadPart heo (wpAny_bind (wpAny_bind (wpAny_load hC (wpAny_pure (wpAny_pure (a := some D) ?_)))))))))
  refine dict_store (tk := s.toks) (s := { s with toks := s.toks + 1 }) F N ha hb hl ep hz fun h' F' N' => ?_
  rw [hg] at h
  exact h h' F' N'
theorem exc_set0 {e tt : Addr} {name : Str} {v : Value} (F : Fr h₀ L s.heap m) (X₀ : (KK w.params).In h₀) (N : News h₀ L s.heap news) (U : UpdF e (excO tt none) news gg)
    (ht : findIn (KK w.params) (.ref 81) name = some none)
    (h : ∀ D h', Fr h₀ L h' m → News h₀ L h' ((D, dictOf [⟨PyData.keyHash w.params name, .str name (s.toks + 1), v⟩] 1) :: gg (excO tt (some D))) → (∀ p ∈ news, p.1 < D) → Q () { s with heap := h', toks := s.toks + 2 }) :
    wpAny (model PG w) A (setAttr (.ref e) name v) Q E s := by
  have X := X₀.keeps F.keep
  obtain ⟨pre, post, rfl, hg, ha, hb⟩ := U.split
  have he : (e, excO tt none) ∈ pre ++ (e, excO tt none) :: post := by simp
  have I := fault_inst0 N he
  have heo := (N _ he).1
  have hC := X 81 _ (by k_is)
  have F2 := F.push (dictOf [] 0)
  have N2 := N.push F (dictOf [] 0)
  obtain ⟨F3, N3⟩ := news_upd (d := e) (f := fun o => { o with dict := some s.heap.objs.size }) (o := excO tt none) (o' := excO tt (some s.heap.objs.size)) (pre := (s.heap.objs.size, dictOf [] 0) :: pre) (post := post) F2 (by simpa using N2) (fun p hp => by
    rcases List.mem_cons.mp hp with rfl | hp
    · exact fun z => absurd (Heap.lt_size heo) (by rw [← z]; exact Nat.lt_irrefl _)
    · exact ha p hp) hb rfl rfl
  have hne : s.heap.objs.size ≠ e := fun z => absurd (Heap.lt_size heo) (by rw [← z]; exact Nat.lt_irrefl _)
  refine set_plain X I (by k_is) ?_
  refine exc_open (s := { s with toks := s.toks + 1 }) X heo ht fun b => ?_
  refine wpAny_bind (wpAny_pure (wpAny_bind (wpAny_bind (wpAny_loadPart heo (wpAny_bind (wpAny_bind (wpAny_load hC (wpAny_pure ?_))))))))
  show wpAny _ _ (alloc (dictOf [] 0) >>= fun d => update e (fun o => { o with dict := some d }) >>= fun _ => dictMade (.ref 81) e d) _ _ _
  have heo2 : (s.heap.push (dictOf [] 0)).get? e = some (excO tt none) := Heap.get?_push_of_some _ heo
  refine wpAny_bind (wpAny_alloc (wpAny_bind (wpAny_update heo2 (wpAny_pure (a := some s.heap.objs.size) ?_))))
  refine dict_store (tk := s.toks) (s := { s with heap := (s.heap.push (dictOf [] 0)).update e (fun o => { o with dict := some s.heap.objs.size }), toks := s.toks + 1 }) (pre := []) (post := pre ++ (e, excO tt (some s.heap.objs.size)) :: post) F3 N3 (fun _ h => nomatch h) ?_ rfl rfl (Nat.le_of_ble_eq_true rfl) fun h' F' N' => ?_
  · intro p hp
    rcases List.mem_append.mp hp with q | q
    · exact fun z => absurd (Heap.lt_size (N p (List.mem_append_left _ q)).1) (by rw [z]; exact Nat.lt_irrefl _)
    · rcases List.mem_cons.mp q with rfl | q
      · exact hne.symm
      · exact fun z => absurd (Heap.lt_size (N p (List.mem_append_right _ (.tail _ q))).1) (by rw [z]; exact Nat.lt_irrefl _)
  · refine h _ h' F' ?_ fun p hp => Heap.lt_size (N p hp).1
    rw [hg]
    exact N'
end
noncomputable def MwAt (q e : Addr) (h : Heap) : Prop := h.get? q = some (mwO e)
section
variable {w : World} {A : Around} {E : Value → Shared → Prop} {s : Shared} {h₀ : Heap} {L : Addr} {m : Str → Option Value} {news : List (Addr × Obj)}
theorem mw_at {q e : Addr} {h : Heap} (N : News h₀ L h news) (hm : (q, mwO e) ∈ news) : MwAt q e h := (N _ hm).1
theorem mw_callWithN {pos : Pos} {q e : Addr} {first : List Value} {env : Env} {x : PySem.Expr} {rest : List PySem.Expr} {Q : Value → Shared → Prop} (_N : News h₀ L s.heap news) (_hm : (q, mwO e) ∈ news)
    (h : wpAny (model PG w) A (spliced (backTo pos (starEach (x :: rest) env))) (fun vs s₁ => MwAt q e s₁.heap ∧ wpAny (model PG w) A (call (.ref q) (first ++ vs)) Q E s₁) E s)
    (he : starEach (x :: rest) env = (false, eval x env) :: starEach rest env := by rfl) (hplain : (backTo pos (starEach rest env)).any (·.1) = false := by rfl) :
    wpAny (model PG w) A (callWith pos (.ref q) first (backTo pos (starEach (x :: rest) env)) []) Q E s := mw_callWith (e := e) h he hplain
theorem sup_line {so e tt : Addr} {dd : Option Addr} {pl : Sem Bool} {Q : Value × List Value → Shared → Prop} (F : Fr h₀ L s.heap m) (X₀ : (KK w.params).In h₀) (N : News h₀ L s.heap news) (he : (e, excO tt dd) ∈ news) (hso : (so, ks_superObj 40 e 81) ∈ news)
    (h : ∀ q h', Fr h₀ L h' m → News h₀ L h' ((q, mwO e) :: news) → (∀ p ∈ news, p.1 < q) → Q (.ref q, []) { s with heap := h', toks := s.toks + 1 }) :
    wpAny (model PG w) A (getMethod (.ref so) "__init__" pl) Q E s := by
  have X := X₀.keeps F.keep
  have heo := (N _ he).1
  have hC := X 81 _ (by k_is)
  obtain ⟨hh, g, d, t, os⟩ := s
  refine sup_method X heo (N _ hso).1 (fun z => by rw [z] at heo; rw [heo] at hC; cases hC) ?_
  exact h _ _ (F.push _) (N.push F _) fun p hp => Heap.lt_size (N p hp).1
end
section
local macro_rules | `(tactic| k_inst) => `(tactic| first | (refine' fault_inst1 ?N ?h1 ?h2; (case N => k_asm); (case h1 => k_mem); (case h2 => k_mem)) | (refine' fault_inst0 ?N ?h1; (case N => k_asm); (case h1 => k_mem)))
local macro_rules | `(tactic| k_room) => `(tactic| ktr_room)
noncomputable abbrev excD (w : World) (T : Str) (tt : Tok) (b : Int) (tb k1 k2 : Tok) : Obj := dictOf [⟨PyData.keyHash w.params "what", .str "what" k1, .str T tt⟩, ⟨PyData.keyHash w.params "spot", .str "spot" k2, .int b tb⟩] 2
noncomputable abbrev FaultRet (w : World) (h₀ : Heap) (L : Addr) (m : Str → Option Value) (s : Shared) (Q : Value → Shared → Prop) (T : Str) (tt : Tok) (b : Int) (tb : Tok) (news : List (Addr × Obj)) : Prop :=
  ∀ (e D t : Addr) (k1 k2 : Tok) (h' : Heap) (tk' : Nat), Fr h₀ L h' m → News h₀ L h' ((e, excO t (some D)) :: (D, excD w T tt b tb k1 k2) :: (t, tupL [.str T tt]) :: news) →
    (∀ q ∈ news, @LT.lt Nat _ q.1 e ∧ @LT.lt Nat _ q.1 D ∧ @LT.lt Nat _ q.1 t) → @LT.lt Nat _ e t → @LT.lt Nat _ t D → Q (.ref e) { s with heap := h', toks := tk' }
theorem fault_end {w : World} {h₀ : Heap} {L : Addr} {m : Str → Option Value} {s : Shared} {Q : Value → Shared → Prop} {T : Str} {tt : Tok} {b : Int} {tb : Tok} {news : List (Addr × Obj)} {D t' e t : Addr} {k1 k2 : Tok} {x1 x2 x3 x4 x5 : Addr × Obj} {h' : Heap} {tk' : Nat}
    (hret : FaultRet w h₀ L m s Q T tt b tb news) (F : Fr h₀ L h' m) (N : News h₀ L h' ((D, excD w T tt b tb k1 k2) :: (t', tupL [.str T tt]) :: x1 :: x2 :: x3 :: x4 :: (e, excO t' (some D)) :: x5 :: news)) (l : AllLt t news) (l2 : @LT.lt Nat _ t e) (l3 : @LT.lt Nat _ e t') (l4 : @LT.lt Nat _ t' D) : Q (.ref e) { s with heap := h', toks := tk' } := by
  refine hret e D t' k1 k2 h' tk' F (news_sub N fun q hq => ?_) (fun q hq => ?_) l3 l4
  · simp only [List.mem_cons] at hq ⊢
    rcases hq with h | h | h | h <;> simp only [h, true_or, or_true]
  · have := rest_lt l q hq
    refine ⟨Nat.lt_trans this l2, Nat.lt_trans this (Nat.lt_trans l2 (Nat.lt_trans l3 l4)), Nat.lt_trans this (Nat.lt_trans l2 l3)⟩
theorem fault_made {w : World} {p : Program} {loose : List Str} {mean : ExcName → Option Value} {mg mb : Str → Option Value}
  {dp un : Nat} {gd : Option (List Code)} {cn : Str} {cs : Scope} {a : Addr} {ccd : Value} {cl : List (Str × Addr)} {outer : List Env} {A₀ : Around} {base h₀ : Heap} {L : Addr} {m : Str → Option Value} {s : Shared} {Q E : Value → Shared → Prop}
  {T : Str} {b : Int} {tt tb : Tok} {news : List (Addr × Obj)}
  (B : Below A₀ base outer h₀) (F : Fr h₀ L s.heap m) (X : (KK w.params).In h₀) (N : News h₀ L s.heap news) (T' : Top p loose mean mg mb h₀) (hk : cs.kind = .function)
  (hdp : dp + 8 < recursionLimit)
  (hret : FaultRet w h₀ L m s Q T tt b tb news) :
  wpAny (model PG w) (ktrTop dp un gd cn cs L a ccd cl outer) (call (.ref 81) [.str T tt, .int b tb]) Q E s := by
  refine fault_cls F X N (by size_fits) ?_
  intro e t h1 F1 N1 l1 l2
  have r1 : ∀ q ∈ news, q.1 ≠ e := fun q hq => Nat.ne_of_lt (Nat.lt_trans (l1 q hq) l2)
  have l3 : AllLt t news := allLt_in l1
  clear l1
  have l2' : @LT.lt Nat _ t e := l2
  k_dflt (refine' ks_code_super ?k1 ?k2 ?k3 ?k4 ?k5 ?kA ?kF ?kK ?k6 ?k7 ?k8 ?k9 ?kB ?_ ?c1 ?c2 ?c3 ?c4; (case kA => exact rfl); (case kF => exact rfl); (case kK => assumption); (case k1 => k_asm); (case k2 => k_asm); (case k3 => k_asm); (case k4 => k_asm); (case k5 => k_asm); (case k6 => k_is); (case k7 => k_is); (case k8 => ktr_room); (case k9 => exact BindsTo.of_eq rfl); (case kB => exact locs rfl); (case c1 => decide); (case c2 => exact rfl); (case c3 => exact rfl); (case c4 => exact rfl); intro g' L' h' FG' F' N' B' X' T' l1; (try k_lt l1); (try dsimp only); (try k_fold))
  k_with_none
  k_with "execs cons" => (first | (k_here; k_gentoks) | ((with_reducible refine wpAny_execs_cons ?_); (try dsimp only); (try k_fold)))
  k_with "getMethod ref" => (k_here; k_dflt (refine sup_line (by k_asm) (by k_asm) (by k_asm) (by k_mem) (by k_mem) ?_; intro qq₉ hq₉ Fq₉ Nq₉ l1k₉; (try k_lt l1k₉)))
  k_with "callWith ref" => (k_here; k_dflt (refine mw_callWithN (by k_asm) (by k_mem) ?_))
  k_with "And" => ((with_reducible show MwAt _ _ _ ∧ _); k_dflt (refine ⟨mw_at (by k_asm) (by k_mem), ?_⟩); (try dsimp only [List.nil_append, List.cons_append]))
  k_with "call ref" => (k_here; k_dflt (refine mw_call (by k_asm) (by k_asm) (by k_asm) (by k_mem) (by k_updF) ?_; intro tq₉ hq₉ Fq₉ Nq₉ l1k₉; (try dsimp only at Nq₉); (try k_lt l1k₉)))
  k_with "setAttr ref" => (k_here; k_dflt (first
    | (refine exc_set1 (by k_asm) (by k_asm) (by k_asm) (by k_mem) (by k_updF) (by k_is) (by exact rfl) (by k_put) (by exact Nat.le_of_ble_eq_true rfl) ?_; intro hq₉ Fq₉ Nq₉; (try dsimp only at Nq₉))
    | (refine exc_set0 (by k_asm) (by k_asm) (by k_asm) (by k_updF) (by k_is) ?_; intro Dq₉ hq₉ Fq₉ Nq₉ l1k₉; (try dsimp only at Nq₉); (try k_lt l1k₉))))
  k_steps
  rename News h₀ L _ _ => kN
  exact fault_end hret (by k_asm) kN l3 l2' (by omega) (by omega)
end
theorem calm22 {M : Model} {A : Around} {E : Value → Shared → Prop} {s : Shared} {env : Env} {Q : Flow → Shared → Prop} (h : Q .next s) : wpAny M A (execs [] env) Q E s := by
  k_with_none
  w_top off
  walk1
  exact h
/-! a raised TextFault on its way: as the library's stations, its own dict kept in sight -/
noncomputable def TrD (h base : Heap) (e D t : Addr) (fl : Value) : Prop :=
  ∃ oe vs T oT ts, h.get? e = some oe ∧ (oe.cls = .ref 81 ∧ vs[0]? = some (.ref t)) ∧ oe.data = .fields vs ∧ vs[1]? = some (.ref T) ∧ base.get? T = none ∧ T ≠ e ∧ h.get? T = some oT ∧ oT.data = .fields ts ∧ ts[3]? = some fl ∧ oe.dict = some D
theorem TrD.traced {h base : Heap} {e D t : Addr} {fl : Value} (x : TrD h base e D t fl) : h.TracedAtW base e (.ref 81) (.ref t) fl :=
  let ⟨oe, vs, T, oT, ts, a1, a2, a3, a4, a5, a6, a7, a8, a9, _⟩ := x; ⟨oe, vs, T, oT, ts, a1, a2, a3, a4, a5, a6, a7, a8, a9⟩
noncomputable def FlyD (base : Heap) (l : List Env) (e D t : Addr) (fl : Value) (h : Heap) : Prop := base.StaysIn h ∧ base.get? e = none ∧ h.FunFrames base l ∧ TrD h base e D t fl
theorem FlyD.flying {base h : Heap} {l : List Env} {e D t : Addr} (x : FlyD base l e D t .none h) : Heap.FlyingW base l e (.ref 81) (.ref t) h := ⟨x.1, x.2.1, x.2.2.1, x.2.2.2.traced⟩
theorem FlyD.drop {base h : Heap} {env : Env} {l : List Env} {e D t : Addr} {fl : Value} (x : FlyD base (env :: l) e D t fl h) : FlyD base l e D t fl h :=
  let ⟨a, b, ⟨_, _, c⟩, d⟩ := x; ⟨a, b, c, d⟩

section
variable {M : Model} {A : Around} {E : Value → Shared → Prop} {s : Shared} {base : Heap} {env : Env} {outer : List Env} {L e D t : Addr}
theorem fly_entry {oe : Obj} {vs : Array Value} {head : Value} {hadNext : Bool} {Q : Unit → Shared → Prop}
    (hfr : A.frames = some (env :: outer)) (hl : s.heap.FunFrames base (env :: outer)) (hf : env.frame = some L) (hkb : base.StaysIn s.heap) (hen : base.get? e = none)
    (he : s.heap.get? e = some oe) (hd : oe.data = .fields vs) (hsz : 1 < vs.size)
    (k : ∀ (T : Addr) (oT : Obj) (ts : Array Value) (h' : Heap), h'.get? e = some (Obj.mapFields (·.setIfInBounds 1 (.ref T)) oe) → T ≠ e → base.get? T = none → h'.get? T = some oT → oT.data = .fields ts → ts[3]? = some (rawInt L) →
      base.StaysIn h' → h'.FunFrames base (env :: outer) → s.heap.UpToSlots h' → Q () { s with heap := h' }) :
    wpAny M A (do let a ← frameOf env; let pl ← entryPlaceOf L hadNext; let b ← EntryCells.newEntry head a .none (rawInt L) .none pl; setField (.ref e) 1 b) Q E s := by
  have hne : ∀ b o, s.heap.get? b = some o → (∀ vs, o.data ≠ .fields vs) → b ≠ e := fun b o hb hnf z => by
    rw [z, he] at hb
    exact hnf vs (Option.some.inj hb ▸ hd)
  have heN : e ∉ (env :: outer).filterMap (·.frame) := fun hm => by
    obtain ⟨_, o, ho, hnf⟩ := hl.mem hm
    exact hne e o ho hnf rfl
  refine wpAny_bind (wpAny_frameOf_fun hfr hl hf fun g hg => wpAny_bind (wpAny_entryPlaceOf fun pl hpl => ?_))
  obtain ⟨hgsz, hgk, hgs⟩ := hg
  have heg : g.get? e = some oe := (hgk e heN).trans he
  have hkg : base.StaysIn g := fun b o hb => (hgk b fun hm => by rw [(hl.mem hm).1] at hb; cases hb).trans (hkb b o hb)
  unfold EntryCells.newEntry newFields
  refine wpAny_bind (wpAny_newObj_type ?_ (hpl.sizeOk5 _ _ _ _ _))
  generalize hto : ([head, .ref L, .none, rawInt L, .none] ++ (if pl.isEmpty then List.replicate 6 Value.none else pl)).toArray = ta
  have h3 : ta[3]? = some (rawInt L) := by
    rw [← hto]
    first | (simp; done) | (rcases hpl with rfl | ⟨_, _, _, _, _, _, _, rfl⟩ <;> simp)
  have hep := Heap.get?_push_of_some (h := g) { cls := .type "traceback", dict := none, data := .fields ta } heg
  refine wpAny_setField hep hd hsz ?_
  have hTe : g.objs.size ≠ e := Nat.ne_of_gt (Heap.lt_size heg)
  have hd' := Obj.data_mapFields hd (·.setIfInBounds 1 (Value.ref g.objs.size))
  have keep : ∀ b o, b ≠ e → g.get? b = some o → ((g.push { cls := .type "traceback", dict := none, data := .fields ta }).update e (Obj.mapFields (·.setIfInBounds 1 (Value.ref g.objs.size)))).get? b = some o :=
    fun b o hb ho => (Heap.get?_update_other _ _ (Ne.symm hb)).trans (Heap.get?_push_of_some _ ho)
  refine k g.objs.size _ ta _ (Heap.get?_update_self _ hep (Obj.isFreed_of_fields hd')) hTe hkg.fresh ((Heap.get?_update_other _ _ (Ne.symm hTe)).trans (Heap.get?_push_size g rfl)) rfl h3 ?_ ?_ ?_
  · exact fun b o hb => keep b o (fun z => by rw [z, hen] at hb; cases hb) (hkg b o hb)
  · refine hl.of_keeps fun b o hb hnf => ?_
    obtain ⟨sl, hs⟩ := hgs b o hb
    exact ⟨_, keep b _ (hne b o hb hnf) hs, rfl⟩
  · intro b o hb hnf
    obtain ⟨sl, hs⟩ := hgs b o hb
    exact ⟨sl, keep b _ (hne b o hb hnf) hs⟩

theorem fly_flight {l : List Env} {fl : Value} {Q : Unit → Shared → Prop} (x : FlyD base l e D t fl s.heap)
    (k : ∀ h', FlyD base l e D t .none h' → s.heap.UpToSlots h' → Q () { s with heap := h' }) : wpAny M A (setFlight (.ref e) none) Q E s := by
  obtain ⟨hkb, hen, hl, oe, vs, T, oT, ts, he, hc, hd, h1, hnT, hTe, hT, hdT, h3, hD⟩ := x
  have other : ∀ b, b ≠ T → (s.heap.update T (Obj.mapFields (·.setIfInBounds 3 ((none : Option Addr).elim Value.none fun f => rawInt f)))).get? b = s.heap.get? b := fun b hb => Heap.get?_update_other _ _ (Ne.symm hb)
  have hne : ∀ b o, s.heap.get? b = some o → (∀ vs, o.data ≠ .fields vs) → b ≠ T := fun b o hb hnf z => by
    rw [z, hT] at hb
    exact hnf ts (Option.some.inj hb ▸ hdT)
  have hsz : 3 < ts.size := (Array.getElem?_eq_some_iff.mp h3).1
  unfold setFlight
  refine wpAny_bind (wpAny_field he hd h1 ?_)
  rw [if_pos (show (Value.ref T != Value.none) = true from by simp)]
  refine wpAny_setField hT hdT hsz (k _ ⟨fun b o hb => (other b fun z => by rw [z, hnT] at hb; cases hb).trans (hkb b o hb), hen, hl.of_keeps fun b o hb hnf => ⟨o, (other b (hne b o hb hnf)).trans hb, rfl⟩, ?_⟩ fun b o hb hnf => ⟨o.slots, (other b (hne b o hb hnf)).trans hb⟩)
  exact ⟨oe, vs, T, _, _, (other e (Ne.symm hTe)).trans he, hc, hd, h1, hnT, hTe, Heap.get?_update_self _ hT (Obj.isFreed_of_fields (Obj.data_mapFields hdT _)), Obj.data_mapFields hdT _, by simp [hsz], hD⟩

/-- one frame more is noted -/
theorem fly_note {Q : Unit → Shared → Prop} (hfr : A.frames = some (env :: outer)) (hf : env.frame = some L) (x : FlyD base (env :: outer) e D t .none s.heap)
    (k : ∀ h', FlyD base (env :: outer) e D t (rawInt L) h' → s.heap.UpToSlots h' → Q () { s with heap := h' }) : wpAny M A (noteFrame (.ref e) env) Q E s := by
  obtain ⟨hkb, hen, hl, oe, vs, T, oT, ts, he, hc, hd, h1, hnT, hTe, hT, hdT, h3, hD⟩ := x
  have other : ∀ b, b ≠ T → (s.heap.update T (Obj.mapFields (·.setIfInBounds 3 Value.none))).get? b = s.heap.get? b := fun b hb => Heap.get?_update_other _ _ (Ne.symm hb)
  have hne : ∀ b o, s.heap.get? b = some o → (∀ vs, o.data ≠ .fields vs) → b ≠ T := fun b o hb hnf z => by
    rw [z, hT] at hb
    exact hnf ts (Option.some.inj hb ▸ hdT)
  have hv1 : 1 < vs.size := (Array.getElem?_eq_some_iff.mp h1).1
  unfold noteFrame
  simp only [hf]
  refine wpAny_bind (wpAny_field he hd h1 ?_)
  rw [if_pos (show (Value.ref T != Value.none) = true from by simp)]
  refine wpAny_bind (wpAny_field hT hdT h3 ?_)
  rw [if_neg (show ¬ ((Value.none == rawInt L) = true) from by simp [rawInt])]
  refine wpAny_bind (wpAny_setField hT hdT (Array.getElem?_eq_some_iff.mp h3).1 ?_)
  refine fly_entry hfr (hl.of_keeps fun b o hb hnf => ⟨o, (other b (hne b o hb hnf)).trans hb, rfl⟩) hf (fun b o hb => (other b fun z => by rw [z, hnT] at hb; cases hb).trans (hkb b o hb)) hen ((other e (Ne.symm hTe)).trans he) hd hv1
    fun T' oT' ts' h' q1 q2 q3 q4 q5 q6 q7 q8 q9 => k h' ⟨q7, hen, q8, _, _, T', oT', ts', q1, ⟨(Obj.cls_mapFields _ _).trans hc.1, ?_⟩, Obj.data_mapFields hd _, by simp [hv1], q3, q2, q4, q5, q6, ?_⟩ fun b o hb hnf => q9 b o ((other b (hne b o hb hnf)).trans hb) hnf
  · rw [Array.getElem?_setIfInBounds_ne (by decide)]
    exact hc.2
  · obtain ⟨oc, od, odt, osl⟩ := oe
    cases odt <;> first | exact hD | (cases hd; exact hD)

/-- the first frame that it leaves -/
theorem fly_first {Q : Unit → Shared → Prop} (hfr : A.frames = some (env :: outer)) (hf : env.frame = some L) (hkb : base.StaysIn s.heap) (hen : base.get? e = none) (hl : s.heap.FunFrames base (env :: outer)) (he : s.heap.get? e = some (excO t (some D)))
    (k : ∀ h', FlyD base outer e D t .none h' → s.heap.UpToSlots h' → Q () { s with heap := h' }) : wpAny M A (leaving env (.ref e)) Q E s := by
  have hd : (excO t (some D)).data = .fields #[.ref t, .none, .none, .none, .bool false, .none] := rfl
  unfold leaving noteFrame
  simp only [hf]
  refine wpAny_bind (wpAny_bind (wpAny_field he hd (x := .none) rfl ?_))
  rw [if_neg (by decide)]
  refine fly_entry hfr hl hf hkb hen he hd (show 1 < 6 by decide) fun T oT ts h' q1 q2 q3 q4 q5 q6 q7 q8 q9 => ?_
  refine fly_flight (l := env :: outer) (D := D) (t := t) (fl := rawInt L) ⟨q7, hen, q8, _, _, T, oT, ts, q1, ⟨rfl, rfl⟩, rfl, rfl, q3, q2, q4, q5, q6, rfl⟩ fun h'' y u => ?_
  exact k h'' y.drop (q9.trans u)
theorem fly_next {Q : Unit → Shared → Prop} (hfr : A.frames = some (env :: outer)) (hf : env.frame = some L) (x : FlyD base (env :: outer) e D t .none s.heap)
    (k : ∀ h', FlyD base outer e D t .none h' → s.heap.UpToSlots h' → Q () { s with heap := h' }) : wpAny M A (leaving env (.ref e)) Q E s := by
  unfold leaving
  refine wpAny_bind (fly_note hfr hf x fun h' y u => ?_)
  exact fly_flight y fun h'' y' u' => k h'' y'.drop (u.trans u')
end
noncomputable def RaisedD (base : Heap) (l : List Env) (e D t : Addr) (news : List (Addr × Obj)) (h : Heap) : Prop :=
  ∃ B : Heap, base.StaysIn B ∧ (∀ q ∈ news, B.get? q.1 = some q.2 ∧ base.get? q.1 = none) ∧ FlyD B l e D t .none h
section
variable {M : Model} {A : Around} {E : Value → Shared → Prop} {s' : Shared} {base g g₂ : Heap} {outer : List Env} {L a e D t : Addr} {m : Str → Option Value} {name : Str} {scope : Scope} {cd : Value} {Q : Unit → Shared → Prop} {news : List (Addr × Obj)}
theorem leave_raiseD (K : Below A base outer g) (F : Fr g L s'.heap m) (N : News g L s'.heap ((e, excO t (some D)) :: news)) (hne : ∀ q ∈ news, q.1 ≠ e)
    (hQ : ∀ h', RaisedD base outer e D t news h' → g.UpToSlots h' → Q () { s' with heap := h' }) (hk : scope.kind = .function := by rfl) :
    wpAny M (A.deeper (envOf name scope L a cd)) (leaving (envOf name scope L a cd) (.ref e)) Q E s' := by
  have K' := K.push (name := name) (a := a) (cd := cd) F hk
  have he := (N _ (.head _)).1
  have fresh : ∀ q ∈ (e, excO t (some D)) :: news, base.get? q.1 = none := fun q hq => fresh_of_stays K.stays (N q hq).2.2
  have offL : ∀ q ∈ (e, excO t (some D)) :: news, q.1 ∉ (envOf name scope L a cd :: outer).filterMap (·.frame) := fun q hq hm => by
    obtain ⟨env, hv, hf⟩ := List.mem_filterMap.mp hm
    rcases List.mem_cons.mp hv with rfl | hv
    · exact (N q hq).2.1 (Option.some.inj hf).symm
    · obtain ⟨o, ho, _⟩ := (K.frames.mem (List.mem_filterMap.mpr ⟨env, hv, hf⟩)).2
      rw [(N q hq).2.2] at ho
      cases ho
  have st : base.StaysIn (hideAll s'.heap (e :: (envOf name scope L a cd :: outer).filterMap (·.frame))) := fun b o q => hideAll_get _ (K'.stays b o q) fun hm => by
    rcases List.mem_cons.mp hm with rfl | hm
    · rw [fresh _ (.head _)] at q; cases q
    · rw [(K'.frames.mem hm).1] at q; cases q
  refine fly_first (base := hideAll s'.heap (e :: (envOf name scope L a cd :: outer).filterMap (·.frame))) (D := D) (t := t) K'.stack rfl (fun b o q => of_hideAll _ q) (hideAll_none _ (.head _)) (funFrames_hide K'.frames fun env hv b hb => .tail _ (List.mem_filterMap.mpr ⟨env, hv, hb⟩)) he fun h' x u => ?_
  refine hQ h' ⟨_, st, fun q hq => ⟨hideAll_get _ (N q (.tail _ hq)).1 fun hm => ?_, fresh q (.tail _ hq)⟩, x⟩ ((Heap.UpToSlots.of_keeps F.keep).trans u)
  rcases List.mem_cons.mp hm with z | hm
  · exact hne q hq z
  · exact offL q (.tail _ hq) hm
theorem leave_onD (K : Below A base outer g) (F : Fr g L g₂ m) (R : RaisedD base (envOf name scope L a cd :: outer) e D t news s'.heap) (hsm : g₂.UpToSlots s'.heap)
    (hQ : ∀ h', RaisedD base outer e D t news h' → g.UpToSlots h' → Q () { s' with heap := h' }) :
    wpAny M (A.deeper (envOf name scope L a cd)) (leaving (envOf name scope L a cd) (.ref e)) Q E s' := by
  obtain ⟨B, hB, hl, x⟩ := R
  exact fly_next (Around.frames_deeper K.stack) rfl x fun h' y u => hQ h' ⟨B, hB, hl, y⟩ ((Heap.UpToSlots.of_keeps F.keep).trans (hsm.trans u))
end

/-- the raise of a made TextFault -/
noncomputable def MadeE (w : World) (E : Value → Shared → Prop) (v : Value) (s₁ : Shared) : Prop := (KK w.params).In s₁.heap ∧ ∃ e t D, v = .ref e ∧ s₁.heap.get? e = some (excO t (some D)) ∧ E (.ref e) s₁
theorem madeE_of {w : World} {h₀ : Heap} {L : Addr} {m : Str → Option Value} {E : Value → Shared → Prop} {s₁ : Shared} {e t D : Addr} {news : List (Addr × Obj)} (F : Fr h₀ L s₁.heap m) (X₀ : (KK w.params).In h₀) (N : News h₀ L s₁.heap ((e, excO t (some D)) :: news)) (h : E (.ref e) s₁) : MadeE w E (.ref e) s₁ :=
  ⟨X₀.keeps F.keep, e, t, D, rfl, (N _ (.head _)).1, h⟩
section
variable {w : World} {A : Around} {E : Value → Shared → Prop} {s : Shared} {env : Env}
theorem raise_own {f : PySem.Expr} {args : List PySem.Expr} {cpos pos : Pos} {Q : Flow → Shared → Prop} (hh : A.handled = none)
    (h : wpAny (model PG w) A (eval (.Call f args [] cpos) env) (MadeE w E) E s) : wpAny (model PG w) A (exec (.Raise (some (.Call f args [] cpos)) none pos) env) Q E s := by
  rw [arm_exec_Raise]
  refine wpAny_bind (wpAny_standAt ?_)
  unfold raiseStmt
  have c1 : (Value.ref 81 :: ftail).contains (.type "BaseException") = true := by decide +kernel
  simp only [evalOpt, Option.map]
  refine wpAny_bind (wpAny_mono (wpAny_bind (wpAny_mono h (fun v s₁ h₁ => wpAny_bind (wpAny_standAt (wpAny_pure h₁))) fun _ _ x => x)) (fun v s₁ h₁ => ?_) fun _ _ x => x)
  obtain ⟨X, e, t, D, rfl, he, hE⟩ := h₁
  have hC := X 81 _ (by k_is)
  obtain ⟨hp, g, d, tk, os⟩ := s₁
  repeat (first | with_reducible refine wpAny_loadPart_at he ?_ | with_reducible refine wpAny_loadPart_at hC ?_ | (with_reducible refine wpAny_isSubtype_exc hC ?_; rw [c1]) | wp_step)
  exact wpAny_raiseNew_none hh hE
end
/-! signs of a text, as the scanner reads them -/
noncomputable def one (c : Nat) : Str := ⟨#[c]⟩
noncomputable def two (T : Str) (y : Nat) : Str := Txt.slice T (some (y : Int)) (some ((y : Int) + 2))
theorem one_len (c : Nat) : (one c).length = 1 := rfl
theorem ch_get {T : Str} {y : Nat} (h : y < T.length) : T.cps[y]? = some (ch T y) := by
  unfold ch
  rw [Array.getD_eq_getD_getElem?, Array.getElem?_eq_getElem h]
  rfl
theorem ch_out {T : Str} {y : Nat} (h : T.length ≤ y) : ch T y = 0 := by
  unfold ch
  rw [Array.getD_eq_getD_getElem?, Array.getElem?_eq_none h]
  rfl
theorem item_one {T : Str} {y : Nat} (h : y < T.length) : Txt.item T (y : Int) = one (ch T y) := by
  unfold Txt.item Txt.charAt one seqIndex?
  have h1 : ¬ ((y : Int) < 0) := by omega
  simp only [if_neg h1]
  have h2 : (decide (0 ≤ (y : Int)) && decide ((y : Int) < (T.length : Int))) = true := by simp; omega
  rw [if_pos h2]
  simp only [Option.bind_some, Int.toNat_natCast, ch_get h, Option.getD_some]
theorem one_beq (c k : Nat) : (one c == one k) = decide (c = k) := by
  by_cases h : c = k
  · subst h; simp
  · rw [decide_eq_false h]
    have hne : one c ≠ one k := fun e => h (by simpa [one] using e)
    simpa using hne
theorem in_blanks (c : Nat) : (!(Builtin.Str.occurrences (Str.ofString " \t\x0d\n") (one c) 0 (Str.ofString " \t\x0d\n").length 1).isEmpty) = isBlank c := by
  show (!(Builtin.Str.occurrences (Str.ofString " \t\x0d\n") ⟨#[c]⟩ 0 (Str.ofString " \t\x0d\n").length 1).isEmpty) = isBlank c
  rw [StrLaws.found_one, show (Str.ofString " \t\x0d\n").cps.toList = [32, 9, 13, 10] by decide +kernel]
  unfold isBlank
  rw [Bool.eq_iff_iff]
  simp only [List.mem_cons, List.not_mem_nil, or_false, decide_eq_true_eq, Bool.or_eq_true, beq_iff_eq, or_assoc]
theorem two_list {T : Str} {y : Nat} (h : y < T.length) : (two T y).cps.toList = if y + 1 < T.length then [ch T y, ch T (y + 1)] else [ch T y] := by
  have e1 : T.cps.toList.length = T.length := Array.length_toList
  have dr : T.cps.toList.drop y = ch T y :: T.cps.toList.drop (y + 1) := by
    rw [List.drop_eq_getElem_cons (by rw [e1]; exact h)]
    congr 1
    have := ch_get h
    rw [← Array.getElem?_toList, List.getElem?_eq_getElem (by rw [e1]; exact h)] at this
    exact Option.some.inj this
  by_cases h2 : y + 1 < T.length
  · rw [if_pos h2]
    have hs := PyProof.Rows.slice_closesL (x := T) (i := (y : Int)) (j := (y : Int) + 2) (by omega) (by omega) (by omega)
    unfold two
    rw [eq_of_beq hs]
    have dr2 : T.cps.toList.drop (y + 1) = ch T (y + 1) :: T.cps.toList.drop (y + 1 + 1) := by
      rw [List.drop_eq_getElem_cons (by rw [e1]; exact h2)]
      congr 1
      have := ch_get h2
      rw [← Array.getElem?_toList, List.getElem?_eq_getElem (by rw [e1]; exact h2)] at this
      exact Option.some.inj this
    show ((T.cps.toList.drop ((y : Int)).toNat).take (((y : Int) + 2) - (y : Int)).toNat) = _
    rw [Int.toNat_natCast, show (((y : Int) + 2) - (y : Int)).toNat = 2 by omega, dr, dr2]
    rfl
  · rw [if_neg h2]
    have hn : T.length = y + 1 := by omega
    have ei : Builtin.Str.strSliceIndices (some (y : Int)) (some ((y : Int) + 2)) 1 T.length = Builtin.Str.strSliceIndices (some (y : Int)) (some ((y : Int) + 1)) 1 T.length := by
      unfold Builtin.Str.strSliceIndices
      rw [hn]
      have a1 : ¬ ((y : Int) + 2 < 0) := by omega
      have a2 : ¬ ((y : Int) + 1 < 0) := by omega
      have a3 : max (0 : Int) (min ((y : Int) + 2) ((y + 1 : Nat) : Int)) = max (0 : Int) (min ((y : Int) + 1) ((y + 1 : Nat) : Int)) := by omega
      simp only [show (1 : Int) > 0 by decide, if_true, if_neg a1, if_neg a2, a3]
    have et : two T y = Txt.slice T (some (y : Int)) (some ((y : Int) + 1)) := by unfold two Txt.slice; rw [ei]
    have hs := PyProof.Rows.slice_closesL (x := T) (i := (y : Int)) (j := (y : Int) + 1) (by omega) (by omega) (by omega)
    rw [et, eq_of_beq hs]
    show ((T.cps.toList.drop ((y : Int)).toNat).take (((y : Int) + 1) - (y : Int)).toNat) = _
    rw [Int.toNat_natCast, show (((y : Int) + 1) - (y : Int)).toNat = 1 by omega, dr]
    rfl
theorem two_len (T : Str) (y : Nat) : (two T y).length ≤ T.length := Txt.slice_le _ _ _
theorem two_beq {T : Str} {y a b : Nat} (h : y < T.length) (hb : b ≠ 0) : (two T y == (⟨#[a, b]⟩ : Str)) = decide (ch T y = a ∧ ch T (y + 1) = b) := by
  have hl := two_list h
  have key : (two T y == (⟨#[a, b]⟩ : Str)) = ((two T y).cps.toList == [a, b]) := by
    rw [Bool.eq_iff_iff, beq_iff_eq, beq_iff_eq]
    refine ⟨fun e => by rw [e], fun e => ?_⟩
    apply Str.ext'
    exact Array.ext' e
  rw [key, hl]
  by_cases h2 : y + 1 < T.length
  · rw [if_pos h2, Bool.eq_iff_iff]
    simp
  · rw [if_neg h2, decide_eq_false (by rw [ch_out (T := T) (y := y + 1) (by omega)]; omega)]
    simp

/-! the first star and stroke behind a place -/
noncomputable def starS : Str := Str.ofString "*/"
theorem starS_is : starS = ⟨#[42, 47]⟩ := by decide +kernel
theorem star_at {T : Str} {e i : Nat} (he : e ≤ T.length) : StrLaws.At T starS e i ↔ i + 2 ≤ e ∧ ch T i = 42 ∧ ch T (i + 1) = 47 := by
  unfold StrLaws.At
  rw [StrLaws.subAt_eq, starS_is]
  show i + 2 ≤ e ∧ ((T.cps.toList.drop i).take 2 == [42, 47]) = true ↔ _
  have e1 : T.cps.toList.length = T.length := Array.length_toList
  constructor
  · rintro ⟨h1, h2⟩
    refine ⟨h1, ?_⟩
    have c1 : i < T.cps.toList.length := by rw [e1]; omega
    have c2 : i + 1 < T.cps.toList.length := by rw [e1]; omega
    rw [List.drop_eq_getElem_cons c1, List.drop_eq_getElem_cons c2] at h2
    simp only [List.take_succ_cons, List.take_zero, beq_iff_eq, List.cons.injEq, and_true] at h2
    have g1 := ch_get (T := T) (y := i) (by omega)
    have g2 := ch_get (T := T) (y := i + 1) (by omega)
    rw [← Array.getElem?_toList, List.getElem?_eq_getElem c1] at g1
    rw [← Array.getElem?_toList, List.getElem?_eq_getElem c2] at g2
    exact ⟨(Option.some.inj g1).symm.trans h2.1, (Option.some.inj g2).symm.trans h2.2⟩
  · rintro ⟨h1, h2, h3⟩
    refine ⟨h1, ?_⟩
    have c1 : i < T.cps.toList.length := by rw [e1]; omega
    have c2 : i + 1 < T.cps.toList.length := by rw [e1]; omega
    rw [List.drop_eq_getElem_cons c1, List.drop_eq_getElem_cons c2]
    have g1 := ch_get (T := T) (y := i) (by omega)
    have g2 := ch_get (T := T) (y := i + 1) (by omega)
    rw [← Array.getElem?_toList, List.getElem?_eq_getElem c1] at g1
    rw [← Array.getElem?_toList, List.getElem?_eq_getElem c2] at g2
    simp only [List.take_succ_cons, List.take_zero, beq_iff_eq, List.cons.injEq, and_true]
    exact ⟨(Option.some.inj g1).trans h2, (Option.some.inj g2).trans h3⟩
theorem starEnd_none {T : Str} {e : Nat} : ∀ k s, (∀ i, s ≤ i → i + 2 ≤ e → ¬ (ch T i = 42 ∧ ch T (i + 1) = 47)) → starEnd T e k s = none
  | 0, _, _ => rfl
  | k + 1, s, h => by
    unfold starEnd
    by_cases h1 : s + 2 ≤ e
    · rw [if_pos h1, if_neg (h s (Nat.le_refl _) h1)]
      exact starEnd_none k (s + 1) fun i hi => h i (by omega)
    · rw [if_neg h1]
theorem starEnd_some {T : Str} {e a : Nat} (ha : a + 2 ≤ e) (hc : ch T a = 42 ∧ ch T (a + 1) = 47) : ∀ k s, s ≤ a → a - s < k → (∀ i, s ≤ i → i < a → ¬ (ch T i = 42 ∧ ch T (i + 1) = 47)) → starEnd T e k s = some a
  | 0, _, _, h, _ => absurd h (Nat.not_lt_zero _)
  | k + 1, s, hs, hk, h => by
    unfold starEnd
    rw [if_pos (by omega)]
    by_cases h2 : s = a
    · subst h2; rw [if_pos hc]
    · rw [if_neg (h s (Nat.le_refl _) (by omega))]
      exact starEnd_some ha hc k (s + 1) (by omega) (by omega) fun i hi hi2 => h i (by omega) hi2
theorem occ_star {T : Str} {e s k : Nat} (he : e ≤ T.length) (hk : e - s ≤ k) (hse : s ≤ e + 1) :
    (match Builtin.Str.occurrences T starS s e 1 with | j :: _ => (j : Int) | [] => -1) = match starEnd T e k s with | some c => (c : Int) | none => -1 := by
  rw [StrLaws.occ_eq]
  have mem : ∀ i, i ∈ List.range' s (e + 1 - s) ↔ s ≤ i ∧ i < e + 1 := by
    intro i; rw [List.mem_range'_1]; omega
  rcases StrLaws.occ_first T starS e 1 (Nat.le_refl _) (List.range' s (e + 1 - s)) s (fun i hi => ((mem i).mp hi).1) with ⟨h0, hn⟩ | ⟨pre, a, post, eq, h0, ha, hn⟩
  · rw [h0, starEnd_none]
    intro i hi hi2 hc
    exact hn i ((mem i).mpr ⟨hi, by omega⟩) ((star_at he).mpr ⟨hi2, hc⟩)
  · obtain ⟨h1, h2⟩ := (star_at he).mp ha
    have hsa : s ≤ a := ((mem a).mp (by rw [eq]; simp)).1
    have hpre : ∀ i, s ≤ i → i < a → i ∈ pre := by
      intro i hi hia
      have hm : i ∈ pre ++ a :: post := eq ▸ (mem i).mpr ⟨hi, by omega⟩
      have hsort : (pre ++ a :: post).Pairwise (· < ·) := eq ▸ List.pairwise_lt_range'
      rcases List.mem_append.mp hm with q | q
      · exact q
      · rcases List.mem_cons.mp q with rfl | q
        · exact absurd hia (Nat.lt_irrefl _)
        · have := (List.pairwise_cons.mp (List.pairwise_append.mp hsort).2.1).1 i q
          omega
    rw [starEnd_some h1 h2 k s hsa (by omega) fun i hi hia hc => hn i (hpre i hi hia) ((star_at he).mpr ⟨by omega, hc⟩)]
    generalize (forIn (List.range' s (e + 1 - s)) ((#[] : Array Nat), s) (StrLaws.occBody T starS e 1)).run.fst = arr at *
    rw [← Array.getElem?_toList] at h0
    cases q : arr.toList with
    | nil => rw [q] at h0; cases h0
    | cons j r => rw [q] at h0; have := Option.some.inj h0; simp only [this]
section
variable {w : World} {A : Around} {E : Value → Shared → Prop} {s : Shared} {Q : Value → Shared → Prop}
theorem find4 {T : Str} {y e k : Nat} {t u v z : Tok} (he : e ≤ T.length) (hk : e - y ≤ k) (hy : y ≤ e + 1) (hq : Q (.int (match starEnd T e k y with | some c => (c : Int) | none => -1) s.toks) { s with toks := s.toks + 1 }) :
    wpAny (model PG w) A (call (.builtin "str.find") [.str T t, .str (Str.ofString "*/") u, .int (y : Int) v, .int (e : Int) z]) Q E s := by
  have g : Gives (Builtin.«str.find» ⟨[.str T t, .str (Str.ofString "*/") u, .int (y : Int) v, .int (e : Int) z], []⟩) (.int (match starEnd T e k y with | some c => (c : Int) | none => -1)) := by
    rw [← occ_star he hk hy]
    have e1 : (max 0 (if (y : Int) < 0 then (y : Int) + (T.length : Int) else (y : Int))).toNat = y := by rw [if_neg (by omega)]; omega
    have e2 : min (max 0 (if (e : Int) < 0 then (e : Int) + (T.length : Int) else (e : Int))).toNat T.length = e := by rw [if_neg (by omega)]; omega
    show Gives (match Builtin.Str.occurrences T (Str.ofString "*/") (max 0 (if (y : Int) < 0 then (y : Int) + (T.length : Int) else (y : Int))).toNat (min (max 0 (if (e : Int) < 0 then (e : Int) + (T.length : Int) else (e : Int))).toNat T.length) 1 with | k :: _ => retInt k | [] => (do rule "str.find.not-found"; retInt (-1))) _
    rw [e1, e2]
    show Gives _ (.int (match Builtin.Str.occurrences T (Str.ofString "*/") y e 1 with | j :: _ => (j : Int) | [] => -1))
    cases Builtin.Str.occurrences T (Str.ofString "*/") y e 1 with
    | nil => exact .rule (.of_eq rfl)
    | cons k _ => exact .of_eq rfl
  exact call_gives PySem.F.slot_str_find (typeIs_str _ _ _) PySem.F.entry_str_find (PySem.F.args_str_find_4 _ _ _ _) g hq
end
section
variable {w : World} {A : Around} {E : Value → Shared → Prop} {s : Shared} {Q : Value → Shared → Prop} {h₀ : Heap} {L : Addr} {m : Str → Option Value} {news : List (Addr × Obj)} {value slice : PySem.Expr} {T : Str} {t u : Tok} {y : Nat}
theorem sc_item (hy : y < T.length) (hT : T.length ≤ 90000) (h : ∀ t', Q (.str (one (ch T y)) t') { s with toks := s.toks + 1 })
    (hs : subscripted slice false (.str T t) (.int (y : Int) u) = operate [.str T t, .int (y : Int) u] (getItem (.str T t) (.int (y : Int) u)) := by with_unfolding_all rfl)
    (ht : ∀ r, letTemporaryGo value (.str T t) r = pure () := by intro _; with_unfolding_all rfl) :
    wpAny (model PG w) A (subscriptTail value slice (.str T t) (.int (y : Int) u)) Q E s := by
  refine item_str (by unfold fitsSsize; simp; omega) (by omega) (by omega) (fun _ => ?_) hs ht
  rw [item_one hy]
  exact h _
theorem in_blanks_q {c : Nat} (h : Q (.bool (isBlank c)) s) : wpAny (model PG w) A (compareOp .In (.str (one c) u) (.str (Str.ofString " \t\x0d\n") t)) Q E s := by
  refine PyProof.Rows.in_str ?_
  rw [in_blanks]
  exact h
theorem eq_one {c k : Nat} {x : Str} (hx : x = one k) (h : Q (.bool (decide (c = k))) s) : wpAny (model PG w) A (compareOp .Eq (.str (one c) u) (.str x t)) Q E s := by
  subst hx
  refine PyProof.Rows.eq_str ?_
  rw [one_beq]
  exact h
theorem eq_two {a b : Nat} {x : Str} (hx : x = ⟨#[a, b]⟩) (hb : b ≠ 0) (hy : y < T.length) (h : Q (.bool (decide (ch T y = a ∧ ch T (y + 1) = b))) s) : wpAny (model PG w) A (compareOp .Eq (.str (Txt.slice T (some (y : Int)) (some ((y : Int) + 2))) u) (.str x t)) Q E s := by
  subst hx
  refine PyProof.Rows.eq_str ?_
  rw [show Txt.slice T (some (y : Int)) (some ((y : Int) + 2)) = two T y from rfl, two_beq hy hb]
  exact h
theorem starEnd_le {e : Nat} : ∀ k s c, starEnd T e k s = some c → c + 2 ≤ e
  | 0, s, c, h => by simp [starEnd] at h
  | k + 1, s, c, h => by
    unfold starEnd at h
    split at h
    · split at h
      · cases h; assumption
      · exact starEnd_le k (s + 1) c h
    · cases h
theorem find_star {e : Nat} {v z : Tok} (he : e ≤ T.length) (hy : y < e)
    (h1 : starEnd T e (e - y) (y + 2) = none → ∀ t', Q (.int (-1) t') { s with toks := s.toks + 1 })
    (h2 : ∀ c : Nat, starEnd T e (e - y) (y + 2) = some c → y + 2 ≤ c → c + 2 ≤ e → ∀ t', Q (.int (c : Int) t') { s with toks := s.toks + 1 }) :
    wpAny (model PG w) A (call (.builtin "str.find") [.str T t, .str (Str.ofString "*/") u, .int ((y : Int) + 2) v, .int (e : Int) z]) Q E s := by
  rw [show (y : Int) + 2 = ((y + 2 : Nat) : Int) by omega]
  refine find4 (k := e - y) he (by omega) (by omega) ?_
  cases hc : starEnd T e (e - y) (y + 2) with
  | none => exact h1 hc _
  | some c => exact h2 c hc (starEnd_ge T e _ _ _ hc) (starEnd_le _ _ _ hc) _
theorem lit_pc : Str.ofString "%" = one 37 := by decide +kernel
theorem lit_bs : Str.ofString "\\" = one 92 := by decide +kernel
theorem lit_dq : Str.ofString "\"" = one 34 := by decide +kernel
theorem lit_cl : Str.ofString ")" = one 41 := by decide +kernel
theorem lit_op : Str.ofString "(" = one 40 := by decide +kernel
theorem lit_nl : Str.ofString "\n" = one 10 := by decide +kernel
theorem lit_rem : Str.ofString "/*" = ⟨#[47, 42]⟩ := by decide +kernel
theorem lit_part : Str.ofString "\\(" = ⟨#[92, 40]⟩ := by decide +kernel
end

section
variable {prog : Program} {w : World} {A : Around} {E : Value → Shared → Prop} {env : Env} {test : PySem.Expr} {body orelse : List Stmt} {Q : Flow → Shared → Prop}
noncomputable def WPost {σ : Type} (Inv : σ → Heap → Prop) (meas : σ → Nat) (y : σ) (Q : Flow → Shared → Prop) (s : Shared) (f : Flow) (s₂ : Shared) : Prop :=
  match f with
  | .ret v => Q (.ret v) s₂
  | .brk => Q .next s₂
  | _ => ∃ (y' : σ) (h' : Heap) (tk : Nat), s₂ = { s with heap := h', toks := tk } ∧ Inv y' h' ∧ meas y' < meas y
theorem while_ind {σ : Type} (Inv : σ → Heap → Prop) (meas : σ → Nat) (hE : PassesOwn (model prog w) A env E) (s : Shared)
    (turn : ∀ y h tk, Inv y h → wpAny (model prog w) A (isTrue test env (eval test env))
      (fun b s₂ => WhlIf b (wpAny (model prog w) A (execs body env) (WPost Inv meas y Q s) E s₂) (wpAny (model prog w) A (execs orelse env) Q E s₂)) E { s with heap := h, toks := tk }) :
    ∀ (k : Nat) (y : σ) (h : Heap) (tk : Nat), meas y < k → Inv y h → WhlRest prog w A E env test body orelse Q k { s with heap := h, toks := tk }
  | 0, _, _, _, hk, _ => absurd hk (Nat.not_lt_zero _)
  | k + 1, y, h, tk, hk, hy => by
    refine whl_turn hE (wpAny_mono (turn y h tk hy) (fun b s₂ hb => ?_) fun _ _ x => x)
    unfold WhlIf at hb ⊢
    split
    · rename_i hbt
      rw [if_pos hbt] at hb
      refine wpAny_mono hb (fun f s₃ hf => ?_) fun _ _ x => x
      have nx : (∃ (y' : σ) (h' : Heap) (tk : Nat), s₃ = { s with heap := h', toks := tk } ∧ Inv y' h' ∧ meas y' < meas y) → WhlRest prog w A E env test body orelse Q k s₃ := by
        rintro ⟨y', h', tk', rfl, hy', hm⟩
        exact while_ind Inv meas hE s turn k y' h' tk' (by omega) hy'
      cases f with
      | next => exact nx hf
      | cont => exact nx hf
      | brk => exact hf
      | ret v => exact hf
    · rename_i hbt
      rw [if_neg hbt] at hb
      exact hb
theorem while_go {σ : Type} (Inv : σ → Heap → Prop) (meas : σ → Nat) {s : Shared} {pos : Pos} (hE : PassesOwn (model prog w) A env E) (y : σ) (hy : Inv y s.heap)
    (turn : ∀ y h tk, Inv y h → wpAny (model prog w) A (isTrue test env (eval test env))
      (fun b s₂ => WhlIf b (wpAny (model prog w) A (execs body env) (WPost Inv meas y Q s) E s₂) (wpAny (model prog w) A (execs orelse env) Q E s₂)) E { s with heap := h, toks := tk }) :
    wpAny (model prog w) A (exec (.While test body orelse pos) env) Q E s :=
  whl_start (meas y + 1) (while_ind Inv meas hE s turn (meas y + 1) y s.heap s.toks (Nat.lt_succ_self _) hy)
end
noncomputable abbrev scD (w : World) (T : Str) (tt : Tok) (sp : Int) (ts : Tok) (e : Int) (te : Tok) (vd : Value) (k1 k2 k3 k4 : Tok) : Obj :=
  dictOf [⟨PyData.keyHash w.params "text", .str "text" k1, .str T tt⟩, ⟨PyData.keyHash w.params "spot", .str "spot" k2, .int sp ts⟩, ⟨PyData.keyHash w.params "end", .str "end" k3, .int e te⟩, ⟨PyData.keyHash w.params "depth", .str "depth" k4, vd⟩] 4
noncomputable def skM (x : Addr) (u : Str → Option Value) : Str → Option Value := fun y => if y = ("close" : Str) then u y else if y = "self" then some (.ref x) else none
theorem skM_start {h₀ h : Heap} {L x : Addr} {m : Str → Option Value} (F : Fr h₀ L h m) (hm : ∀ y, m y = if y = ("self" : Str) then some (.ref x) else none := by intro y; first | rfl | (by_cases q : y = ("self" : Str) <;> simp [q]; done)) : Fr h₀ L h (skM x fun _ => none) := by
  have e : m = skM x fun _ => none := by
    funext y
    rw [hm y]
    unfold skM
    by_cases q : y = ("close" : Str)
    · rw [if_pos q, if_neg (by rw [q]; decide)]
    · rw [if_neg q]
  rw [← e]
  exact F
theorem skM_close {h₀ h : Heap} {L x : Addr} {u : Str → Option Value} {v : Value} (F : Fr h₀ L h (fun y => if y = ("close" : Str) then some v else if y = ("close" : Str) then u y else if y = "self" then some (.ref x) else none)) : Fr h₀ L h (skM x fun _ => some v) := by
  have e : (fun y => if y = ("close" : Str) then some v else if y = ("close" : Str) then u y else if y = "self" then some (.ref x) else none) = skM x fun _ => some v := by
    funext y
    unfold skM
    by_cases q : y = ("close" : Str)
    · rw [if_pos q, if_pos q]
    · rw [if_neg q, if_neg q, if_neg q]
  rw [← e]
  exact F
section
variable {prog : Program} {w : World} {A : Around} {E : Value → Shared → Prop} {env : Env} {test : PySem.Expr} {body orelse : List Stmt} {Q : Flow → Shared → Prop} {h₀ : Heap} {L x dx : Addr} {rest : List (Addr × Obj)} {T : Str} {tt te k1 k2 k3 k4 : Tok} {e : Nat} {vd : Value} {s : Shared}
noncomputable def ScEnd (w : World) (h₀ : Heap) (L x dx : Addr) (rest : List (Addr × Obj)) (T : Str) (tt : Tok) (e : Nat) (te : Tok) (vd : Value) (k1 k2 k3 k4 : Tok) (P : Nat → Prop) (y : Nat) (s s₂ : Shared) : Prop :=
  ∃ (y' : Nat) (ty : Tok) (u : Str → Option Value) (h' : Heap) (tk : Nat), s₂ = { s with heap := h', toks := tk } ∧ Fr h₀ L h' (skM x u) ∧ News h₀ L h' ((x, instObj 167 dx) :: (dx, scD w T tt y' ty e te vd k1 k2 k3 k4) :: rest) ∧ P y' ∧ y < e ∧ y < y'
noncomputable def ScPost (w : World) (h₀ : Heap) (L x dx : Addr) (rest : List (Addr × Obj)) (T : Str) (tt : Tok) (e : Nat) (te : Tok) (vd : Value) (k1 k2 k3 k4 : Tok) (P : Nat → Prop) (y : Nat) (Q : Flow → Shared → Prop) (s : Shared) (f : Flow) (s₂ : Shared) : Prop :=
  match f with
  | .ret v => Q (.ret v) s₂
  | .brk => Q .next s₂
  | _ => ScEnd w h₀ L x dx rest T tt e te vd k1 k2 k3 k4 P y s s₂
theorem sc_go (P : Nat → Prop) {pos : Pos} {u₀ : Str → Option Value} {sp : Nat} {ts : Tok} (hE : PassesOwn (model prog w) A env E) (F : Fr h₀ L s.heap (skM x u₀)) (N : News h₀ L s.heap ((x, instObj 167 dx) :: (dx, scD w T tt sp ts e te vd k1 k2 k3 k4) :: rest)) (hP : P sp)
    (turn : ∀ (y : Nat) (ty : Tok) (u : Str → Option Value) (h : Heap) (tk : Nat), P y → Fr h₀ L h (fun y => if y = ("close" : Str) then u y else if y = "self" then some (.ref x) else none) → News h₀ L h ((x, instObj 167 dx) :: (dx, scD w T tt y ty e te vd k1 k2 k3 k4) :: rest) →
      ∀ P9 : Flow → Shared → Prop, (∀ f s₂, ScPost w h₀ L x dx rest T tt e te vd k1 k2 k3 k4 P y Q { s with heap := h, toks := tk } f s₂ → P9 f s₂) →
      wpAny (model prog w) A (isTrue test env (eval test env)) (fun b s₂ => WhlIf b (wpAny (model prog w) A (execs body env) P9 E s₂) (wpAny (model prog w) A (execs orelse env) Q E s₂)) E { s with heap := h, toks := tk }) :
    wpAny (model prog w) A (exec (.While test body orelse pos) env) Q E s := by
  refine while_go (σ := Nat × Tok) (fun y h => ∃ u, Fr h₀ L h (skM x u) ∧ News h₀ L h ((x, instObj 167 dx) :: (dx, scD w T tt y.1 y.2 e te vd k1 k2 k3 k4) :: rest) ∧ P y.1) (fun y => e - y.1) hE (sp, ts) ⟨u₀, F, N, hP⟩ ?_
  rintro ⟨y, ty⟩ h tk ⟨u, F7, N7, hy⟩
  refine wpAny_mono (turn y ty u h tk hy F7 N7 _ fun _ _ h => h) (fun b s₂ hb => ?_) fun _ _ x => x
  unfold WhlIf at hb ⊢
  split
  · rename_i hbt
    rw [if_pos hbt] at hb
    refine wpAny_mono hb (fun f s₃ hf => ?_) fun _ _ x => x
    have nx : ScEnd w h₀ L x dx rest T tt e te vd k1 k2 k3 k4 P y { s with heap := h, toks := tk } s₃ → ∃ (y' : Nat × Tok) (h' : Heap) (tk : Nat), s₃ = { s with heap := h', toks := tk } ∧ (∃ u, Fr h₀ L h' (skM x u) ∧ News h₀ L h' ((x, instObj 167 dx) :: (dx, scD w T tt y'.1 y'.2 e te vd k1 k2 k3 k4) :: rest) ∧ P y'.1) ∧ e - y'.1 < e - y := by
      rintro ⟨y', ty', u', h', tk', rfl, F', N', p1, p2, p3⟩
      exact ⟨(y', ty'), h', tk', rfl, ⟨u', F', N', p1⟩, by show e - y' < e - y; omega⟩
    cases f with
    | next => exact nx hf
    | cont => exact nx hf
    | brk => exact hf
    | ret v => exact hf
  · rename_i hbt
    rw [if_neg hbt] at hb
    exact hb
end
theorem whlif_dec {c : Prop} [Decidable c] {T F : Prop} (t : c → T) (f : ¬ c → F) : WhlIf (decide c) T F := by
  unfold WhlIf
  by_cases h : c
  · rw [if_pos (by simpa using h)]; exact t h
  · rw [if_neg (by simpa using h)]; exact f h
/-! what the calls of skip and inner_end hand on -/
noncomputable abbrev scL (w : World) (x dx : Addr) (T : Str) (tt : Tok) (sp : Int) (ts : Tok) (e : Int) (te : Tok) (vd : Value) (k1 k2 k3 k4 : Tok) (rest : List (Addr × Obj)) : List (Addr × Obj) :=
  (x, instObj 167 dx) :: (dx, scD w T tt sp ts e te vd k1 k2 k3 k4) :: rest
/-- a TextFault told at a place, on its way to the caller -/
noncomputable def FaultTo (w : World) (base : Heap) (l : List Env) (h₀ : Heap) (L : Addr) (m : Str → Option Value) (s : Shared) (E : Value → Shared → Prop) (rest : List (Addr × Obj)) (n : Nat) : Prop :=
  ∀ (e D t : Addr) (what : Str) (tt tb k1 k2 : Tok) (g' h' : Heap) (tk' : Nat), RaisedD base l e D t ((D, excD w what tt n tb k1 k2) :: rest) h' → (∀ q ∈ rest, @LT.lt Nat _ q.1 D) → Fr h₀ L g' m → g'.UpToSlots h' → E (.ref e) { s with heap := h', toks := tk' }
theorem RaisedD.sub {base : Heap} {l : List Env} {e D t : Addr} {n1 n2 : List (Addr × Obj)} {h : Heap} (x : RaisedD base l e D t n1 h) (hs : ∀ q ∈ n2, q ∈ n1) : RaisedD base l e D t n2 h :=
  let ⟨B, a, b, c⟩ := x; ⟨B, a, fun q hq => b q (hs q hq), c⟩
section
variable {w : World} {h₀ : Heap} {L x dx : Addr} {rest : List (Addr × Obj)} {T : Str} {tt te k1 k2 k3 k4 ty : Tok} {e : Nat} {vd : Value} {P : Nat → Prop} {Q : Flow → Shared → Prop} {s : Shared} {h' : Heap} {tk y y' : Nat} {u : Str → Option Value} {v : Int}
theorem sc_end (F : Fr h₀ L h' (fun y => if y = ("close" : Str) then u y else if y = "self" then some (.ref x) else none)) (N : News h₀ L h' ((x, instObj 167 dx) :: (dx, scD w T tt v ty e te vd k1 k2 k3 k4) :: rest)) (hv : v = (y' : Int)) (hP : P y') (h1 : y < e) (h2 : y < y') :
    ScPost w h₀ L x dx rest T tt e te vd k1 k2 k3 k4 P y Q s .next { s with heap := h', toks := tk } := by
  subst hv
  exact ⟨y', ty, u, h', tk, rfl, F, N, hP, h1, h2⟩
theorem sc_endC {vc : Value} (F : Fr h₀ L h' (fun y => if y = ("close" : Str) then some vc else if y = ("close" : Str) then u y else if y = "self" then some (.ref x) else none)) (N : News h₀ L h' ((x, instObj 167 dx) :: (dx, scD w T tt v ty e te vd k1 k2 k3 k4) :: rest)) (hv : v = (y' : Int)) (hP : P y') (h1 : y < e) (h2 : y < y') :
    ScPost w h₀ L x dx rest T tt e te vd k1 k2 k3 k4 P y Q s .next { s with heap := h', toks := tk } := by
  subst hv
  exact ⟨y', ty, _, h', tk, rfl, skM_close F, N, hP, h1, h2⟩
end
theorem lineEnd_here {T : Str} {e z : Nat} (h : e ≤ z ∨ ch T z = 10) : ∀ k, lineEnd T e k z = z
  | 0 => rfl
  | k + 1 => by
    unfold lineEnd
    rw [if_neg (by omega)]
theorem lineEnd_on {T : Str} {e z : Nat} (h : z < e) (hc : ch T z ≠ 10) : lineEnd T e (e - z) z = lineEnd T e (e - (z + 1)) (z + 1) := by
  obtain ⟨j, hj⟩ : ∃ j, e - z = j + 1 := ⟨e - z - 1, by omega⟩
  rw [hj, show e - (z + 1) = j by omega]
  conv => lhs; unfold lineEnd
  rw [if_pos ⟨h, hc⟩]
theorem whlif_sign {c : Nat} {X F : Prop} (t : c ≠ 10 → X) (f : c = 10 → F) : WhlIf (!([Str.ofString "", Str.ofString "\n"].any fun x => x == one c)) X F := by
  have e0 : (Str.ofString "" == one c) = false := by
    rw [show Str.ofString "" = (⟨#[]⟩ : Str) by decide +kernel]
    exact beq_eq_false_iff_ne.mpr fun h => by simp [one] at h
  have e1 : (Str.ofString "\n" == one c) = decide (10 = c) := by rw [lit_nl, one_beq]
  have e : (!([Str.ofString "", Str.ofString "\n"].any fun x => x == one c)) = decide (c ≠ 10) := by
    simp only [List.any_cons, List.any_nil, e0, e1, Bool.or_false, Bool.false_or]
    by_cases h : c = 10
    · subst h; rfl
    · rw [decide_eq_false (fun q => h q.symm), decide_eq_true h]; rfl
  rw [e]
  exact whlif_dec t fun h => f (Decidable.not_not.mp h)
section
variable {w : World} {h₀ : Heap} {L x dx : Addr} {rest news : List (Addr × Obj)} {T : Str} {tt te k1 k2 k3 k4 ty : Tok} {e : Nat} {vd : Value} {P : Nat → Prop} {Q : Flow → Shared → Prop} {s : Shared} {h' : Heap} {tk y c : Nat} {u : Str → Option Value} {v : Int}
theorem sc_end1 (F : Fr h₀ L h' (fun y => if y = ("close" : Str) then u y else if y = "self" then some (.ref x) else none)) (N : News h₀ L h' ((x, instObj 167 dx) :: (dx, scD w T tt ((y : Int) + 1) ty e te vd k1 k2 k3 k4) :: rest)) (hP : P (y + 1)) (h1 : y < e) :
    ScPost w h₀ L x dx rest T tt e te vd k1 k2 k3 k4 P y Q s .next { s with heap := h', toks := tk } :=
  sc_end F N (by omega) hP h1 (Nat.lt_succ_self _)
theorem sc_end2 {vc : Value} (F : Fr h₀ L h' (fun y => if y = ("close" : Str) then some vc else if y = ("close" : Str) then u y else if y = "self" then some (.ref x) else none)) (N : News h₀ L h' ((x, instObj 167 dx) :: (dx, scD w T tt ((c : Int) + 2) ty e te vd k1 k2 k3 k4) :: rest)) (hP : P (c + 2)) (h1 : y < e) (h2 : y < c + 2) :
    ScPost w h₀ L x dx rest T tt e te vd k1 k2 k3 k4 P y Q s .next { s with heap := h', toks := tk } :=
  sc_endC F N (by omega) hP h1 h2
/-- the line's end is reached -/
theorem sc_line {z : Nat} {sp : Nat} {u' : Str → Option Value} (hc : ch T y = 37) (hss : SS T e y = SS T e sp) (hy : sp ≤ y) (h1 : y < e) (hz : lineEnd T e (e - z) z = lineEnd T e (e - y) y) (hz3 : z ≤ e) (hz4 : e ≤ z ∨ ch T z = 10)
    (F : Fr h₀ L h' (fun y => if y = ("close" : Str) then u' y else if y = "self" then some (.ref x) else none)) (N : News h₀ L h' ((x, instObj 167 dx) :: (dx, scD w T tt (z : Int) ty e te vd k1 k2 k3 k4) :: rest)) :
    ScPost w h₀ L x dx rest T tt e te vd k1 k2 k3 k4 (fun y => SS T e y = SS T e sp ∧ sp ≤ y ∧ y ≤ e) y Q s .next { s with heap := h', toks := tk } := by
  rw [lineEnd_here hz4] at hz
  have hlt := lineEnd_gt T e h1 (show ch T y ≠ 10 by omega)
  exact sc_end (y' := z) F N rfl ⟨by rw [hz, ← SS_line h1 hc]; exact hss, by omega, hz3⟩ h1 (by omega)
theorem SS_some {z : Nat} (h : z < e) (hc : ch T z = 47 ∧ ch T (z + 1) = 42) (hs : starEnd T e (e - z) (z + 2) = some c) : SS T e z = SS T e (c + 2) := by rw [SS_star h hc.1 hc.2, hs]
theorem SS_none {z : Nat} (h : z < e) (hc : ch T z = 47 ∧ ch T (z + 1) = 42) (hs : starEnd T e (e - z) (z + 2) = none) : SS T e z = .fault z := by rw [SS_star h hc.1 hc.2, hs]
end
theorem fault_leave {M : Model} {w : World} {A : Around} {E' : Value → Shared → Prop} {base g h₀ hh : Heap} {outer : List Env} {L L' a e D t : Addr} {m m' : Str → Option Value} {name : Str} {scope : Scope} {cd : Value} {s : Shared} {tk : Nat} {E : Value → Shared → Prop} {rest ns : List (Addr × Obj)} {n : Nat} {what : Str} {tt tb k1 k2 : Tok} {vs : List Value}
    (K : Below A base outer g) (F : Fr g L' hh m') (N : News g L' hh ((e, excO t (some D)) :: (D, excD w what tt (n : Int) tb k1 k2) :: (t, tupL vs) :: ns))
    (lt : ∀ q ∈ ns, @LT.lt Nat _ q.1 e ∧ @LT.lt Nat _ q.1 D ∧ @LT.lt Nat _ q.1 t) (l8 : @LT.lt Nat _ e t) (l7 : @LT.lt Nat _ t D) (FG : Fr h₀ L g m) (hr : FaultTo w base outer h₀ L m s E rest n) (hs : ∀ q ∈ rest, q ∈ ns) (hk : scope.kind = .function := by rfl) :
    wpAny M (A.deeper (envOf name scope L' a cd)) (leaving (envOf name scope L' a cd) (.ref e)) (fun _ s'' => E (.ref e) s'') E' { s with heap := hh, toks := tk } := by
  refine leave_raiseD (s' := { s with heap := hh, toks := tk }) K F N (fun q hq z => ?_) (fun h9 R' U' => ?_) hk
  · rcases List.mem_cons.mp hq with rfl | hq
    · exact absurd (Nat.lt_trans l8 l7) (by rw [show D = e from z]; exact Nat.lt_irrefl _)
    · rcases List.mem_cons.mp hq with rfl | hq
      · exact absurd l8 (by rw [show t = e from z]; exact Nat.lt_irrefl _)
      · exact absurd (lt q hq).1 (by rw [z]; exact Nat.lt_irrefl _)
  · refine hr e D t what tt tb k1 k2 g h9 tk (R'.sub fun q hq => ?_) (fun q hq => (lt q (hs q hq)).2.1) FG U'
    rcases List.mem_cons.mp hq with rfl | hq
    · exact .head _
    · exact .tail _ (.tail _ (hs q hq))
section
local macro_rules | `(tactic| k_room) => `(tactic| ktr_room)

theorem skip_spec {w : World} {p : Program} {loose : List Str} {mean : ExcName → Option Value} {mg mb : Str → Option Value}
  {dp un : Nat} {gd : Option (List Code)} {cn : Str} {cs : Scope} {a : Addr} {ccd : Value} {cl : List (Str × Addr)} {outer : List Env} {A₀ : Around} {base h₀ : Heap} {L : Addr} {m : Str → Option Value} {s : Shared} {Q E : Value → Shared → Prop}
  {x dx : Addr} {rest : List (Addr × Obj)} {k1 k2 k3 k4 tt ts te : Tok} {T : Str} {sp e : Nat} {vd : Value}
  (B : Below A₀ base outer h₀) (F : Fr h₀ L s.heap m) (X : (KK w.params).In h₀) (N : News h₀ L s.heap (scL w x dx T tt sp ts e te vd k1 k2 k3 k4 rest)) (T' : Top p loose mean mg mb h₀) (hk : cs.kind = .function)
  (hxd : @Ne Nat x dx) (r1 : ∀ q ∈ rest, q.1 ≠ dx) (hse : sp < e) (he : e ≤ T.length) (hT : T.length ≤ 90000) (hdp : dp + 12 < recursionLimit)
  (hret : ∀ (n : Nat) (tn : Tok) (h' : Heap) (tk' : Nat), SS T e sp = .close n → sp ≤ n → n ≤ e → Fr h₀ L h' m → News h₀ L h' (scL w x dx T tt n tn e te vd k1 k2 k3 k4 rest) → Q .none { s with heap := h', toks := tk' })
  (hraise : ∀ n : Nat, SS T e sp = .fault n → FaultTo w base (envX cn cs L a ccd cl :: outer) h₀ L m s E rest n) :
  wpAny (model PG w) (ktrTop dp un gd cn cs L a ccd cl outer) (call (.ref 115) [.ref x]) Q E s := by
  dsimp only [scL] at N
  obtain ⟨sh, sg, sd, st, so⟩ := s
  dsimp only at F N hret hraise ⊢
  refine wpAny_call ?_
  k_dflt ktr_enter
  k_with_none
  k_with "execs cons" => (first | (k_here; k_gentoks) | ((with_reducible refine wpAny_execs_cons ?_); (try dsimp only); (try k_fold)))
  k_with "exec While Compare cons nil" => (k_here; refine halt ?_)
  k_with "WhlIf" => ((with_reducible refine whlif_dec ?_ ?_) <;> intro hwq₉)
  k_with "last subscriptTail" => (k_here; (with_reducible show wpAny _ _ (subscriptTail _ _ (Value.str _ _) (Value.int _ _)) _ _ _); k_dflt (refine sc_item (by omega) (by omega) ?_); intro t9k₉)
  k_with "subscriptTail" => (k_here; (with_reducible show wpAny _ _ (subscriptTail _ _ (Value.str _ _) (Value.int _ _)) _ _ _); k_dflt (refine sc_item (by omega) (by omega) ?_); intro t9k₉)
  k_with "compareOp In str str" => (k_here; (with_reducible refine in_blanks_q ?_))
  k_with "compareOp Eq str str" => (k_here; first | (with_reducible refine eq_one lit_pc ?_) | (with_reducible refine eq_one lit_bs ?_) | (with_reducible refine eq_one lit_dq ?_) | (with_reducible refine eq_one lit_cl ?_) | (with_reducible refine eq_one lit_op ?_) | (with_reducible refine eq_two lit_rem (by decide) (by omega) ?_) | (with_reducible refine eq_two lit_part (by decide) (by omega) ?_))
  k_with "call builtin:str.find" => (k_here; k_dflt (refine find_star (by omega) (by omega) (fun hf9k₉ t9k₉ => ?_) (fun c9k₉ hf9k₉ hf8k₉ hf7k₉ t9k₉ => ?_)))
  k_with "exec Raise some none" => (k_here; k_dflt (refine raise_own (by rfl) ?_))
  k_with "call ref" => (k_here; (with_reducible show wpAny _ _ (call (Value.ref 81) _) _ _ _); k_dflt (refine fault_made (by k_asm) (by k_asm) (by k_asm) (by k_asm) (by k_asm) (by exact rfl) (by first | (show _ + 1 + 8 < _; omega) | ktr_room) ?_); intro e9k₉ D9k₉ t9k₉ k19k₉ k29k₉ h9k₉ tk9k₉ Fq₉ Nq₉ lt9k₉ lt8k₉ lt7k₉)
  k_with "MadeE" => (k_here; k_dflt (refine madeE_of (by k_asm) (by k_asm) (by k_asm) ?_); (try dsimp only))
  k_with "WhlIf" => ((with_reducible refine whlif_sign ?_ ?_) <;> intro hwq₉)
  k_steps
  unfold Halt
  rename News _ _ _ _ => kN
  rename Fr _ _ _ (fun _ => _) => kF
  k_dflt (refine' sc_go (fun y => SS T e y = SS T e sp ∧ sp ≤ y ∧ y ≤ e) ?hE (skM_start kF fun y => by
    show List.lookup y [(Str.ofString "self", Value.ref x)] = _
    by_cases q : y = ("self" : Str)
    · simp [List.lookup, q]
    · rw [List.lookup_cons, if_neg q]
      rw [show (y == Str.ofString "self") = false from beq_eq_false_iff_ne.mpr q]
      rfl) kN ⟨rfl, Nat.le_refl _, Nat.le_of_lt hse⟩ ?turn)
  case hE => first | passes_own | with_unfolding_all passes_own
  case turn =>
    clear kN kF
    rintro y ty u h tk ⟨hss, hy, hye⟩ F7 N7 P9 hP9
    k_steps
    · rename isBlank _ = true => hb
      refine hP9 _ _ ?_
      exact sc_end1 (by k_asm) (by assumption) ⟨(SS_blank (by omega) hb).symm.trans hss, by omega, by omega⟩ (by omega)
    · unfold Halt
      rename ch T y = 37 => hc
      rename News _ _ _ _ => kN
      k_dflt (refine' sc_go (u₀ := u) (fun z => lineEnd T e (e - z) z = lineEnd T e (e - y) y ∧ y ≤ z ∧ z ≤ e) ?hE F7 kN ⟨rfl, Nat.le_refl _, hye⟩ ?turn2)
      case hE => first | passes_own | with_unfolding_all passes_own
      case turn2 =>
        clear kN
        rintro z tz u2 h2 tk2 ⟨hz1, hz2, hz3⟩ F8 N8 P8 hP8
        k_steps
        · refine hP8 _ _ ?_
          exact sc_end1 (by k_asm) (by first | assumption | exact news_sub (by assumption) (fun q hq => .tail _ hq)) ⟨(lineEnd_on (by omega) (by assumption)).symm.trans hz1, by omega, by omega⟩ (by omega)
        · refine hP9 _ _ ?_
          exact sc_line hc hss hy (by omega) hz1 hz3 (by omega) (by k_asm) (by first | assumption | exact news_sub (by assumption) (fun q hq => .tail _ hq))
        · refine hP9 _ _ ?_
          exact sc_line hc hss hy (by omega) hz1 hz3 (by omega) (by k_asm) (by first | assumption | exact news_sub (by assumption) (fun q hq => .tail _ hq))
    · rename starEnd _ _ _ _ = none => hc
      have hcut := hss.symm.trans (SS_none (by omega) (by assumption) hc)
      k_dflt (refine' fault_leave ?K ?F ?N (by assumption) (by assumption) (by assumption) ?FG (hraise y hcut) (fun q hq => .tail _ (.tail _ hq)))
      case K => k_asm
      case F => k_asm
      case N => k_asm
      case FG => k_asm
    · rename starEnd _ _ _ _ = some _ => hc
      refine hP9 _ _ ?_
      exact sc_end2 (by k_asm) (by assumption) ⟨(SS_some (by omega) (by assumption) hc).symm.trans hss, by omega, by omega⟩ (by omega) (by omega)
    · try dsimp only
      k_steps
      refine hP9 _ _ ?_
      unfold ScPost
      try dsimp only
      k_steps
      exact hret y _ _ _ (hss.symm.trans (SS_stop (by omega) (by first | assumption | simp_all) (by assumption) (by assumption))) hy hye (by k_asm) (by first | assumption | exact news_sub (by assumption) (fun q hq => .tail _ hq))
    · exact hret y _ _ _ (hss.symm.trans (SS_end (by omega))) hy hye (by k_asm) (by first | assumption | exact news_sub (by assumption) (fun q hq => .tail _ hq))
end
theorem calm29 {M : Model} {A : Around} {E : Value → Shared → Prop} {s : Shared} {env : Env} {Q : Flow → Shared → Prop} (h : Q .next s) : wpAny M A (execs [] env) Q E s := by
  k_with_none
  w_top off
  walk1
  exact h
/-! inner_end: the loop's state -/
noncomputable def sgn (b : Bool) : Str := one (if b = true then 34 else 40)
noncomputable def wsOf (w : List Bool) : List Str := (w.map sgn).reverse
noncomputable abbrev inM (x : Addr) (y : Int) (ty : Tok) (wa : Addr) (b : Int) (tb : Tok) (u : Str → Option Value) : Str → Option Value := fun z => if z = ("spot" : Str) then some (.int y ty) else if z = ("within" : Str) then some (.ref wa) else if z = ("self" : Str) then some (.ref x) else if z = ("begin" : Str) then some (.int b tb) else u z
theorem in_norm {h₀ h : Heap} {L x wa : Addr} {y b : Int} {ty tb : Tok} {m : Str → Option Value} (F : Fr h₀ L h m) (h1 : m "spot" = some (.int y ty)) (h2 : m "within" = some (.ref wa)) (h3 : m "self" = some (.ref x)) (h4 : m "begin" = some (.int b tb)) : Fr h₀ L h (inM x y ty wa b tb m) := by
  have e : m = inM x y ty wa b tb m := by
    funext z
    unfold inM
    by_cases q1 : z = ("spot" : Str)
    · rw [if_pos q1, q1, h1]
    · rw [if_neg q1]
      by_cases q2 : z = ("within" : Str)
      · rw [if_pos q2, q2, h2]
      · rw [if_neg q2]
        by_cases q3 : z = ("self" : Str)
        · rw [if_pos q3, q3, h3]
        · rw [if_neg q3]
          by_cases q4 : z = ("begin" : Str)
          · rw [if_pos q4, q4, h4]
          · rw [if_neg q4]
  rw [← e]
  exact F
section
variable {prog : Program} {w : World} {A : Around} {E : Value → Shared → Prop} {env : Env} {test : PySem.Expr} {body orelse : List Stmt} {Q : Flow → Shared → Prop} {h₀ : Heap} {L x dx : Addr} {rest : List (Addr × Obj)} {T : Str} {tt te ts k1 k2 k3 k4 tb : Tok} {e b : Nat} {sp : Int} {vd : Value} {s : Shared}
noncomputable def WA (wa x dx : Addr) (rest : List (Addr × Obj)) : Prop := @LT.lt Nat _ x wa ∧ @LT.lt Nat _ dx wa ∧ AllLt wa rest
noncomputable def InEnd (w : World) (h₀ : Heap) (L x dx : Addr) (rest : List (Addr × Obj)) (T : Str) (tt : Tok) (sp : Int) (ts : Tok) (e : Nat) (te : Tok) (vd : Value) (k1 k2 k3 k4 : Tok) (b : Nat) (tb : Tok) (R : Told) (y : Nat) (s s₂ : Shared) : Prop :=
  ∃ (y' : Nat) (ty : Tok) (wl : List Bool) (vs : List Value) (wa : Addr) (nw : Nat) (u : Str → Option Value) (h' : Heap) (tk : Nat), s₂ = { s with heap := h', toks := tk } ∧ Fr h₀ L h' (inM x y' ty wa b tb u) ∧
    News h₀ L h' ((wa, listOf vs.toArray nw) :: scL w x dx T tt sp ts e te vd k1 k2 k3 k4 rest) ∧ WA wa x dx rest ∧ StrsAre vs (wsOf wl) ∧ wl.getLast? = some false ∧ wl.length ≤ y' + 1 ∧ GG T e b y' wl = R ∧ y < e ∧ y < y'
noncomputable def InPost (w : World) (h₀ : Heap) (L x dx : Addr) (rest : List (Addr × Obj)) (T : Str) (tt : Tok) (sp : Int) (ts : Tok) (e : Nat) (te : Tok) (vd : Value) (k1 k2 k3 k4 : Tok) (b : Nat) (tb : Tok) (R : Told) (y : Nat) (Q : Flow → Shared → Prop) (s : Shared) (f : Flow) (s₂ : Shared) : Prop :=
  match f with
  | .ret v => Q (.ret v) s₂
  | .brk => Q .next s₂
  | _ => InEnd w h₀ L x dx rest T tt sp ts e te vd k1 k2 k3 k4 b tb R y s s₂
theorem in_go (R : Told) {pos : Pos} {u₀ : Str → Option Value} {y₀ : Nat} {ty₀ : Tok} {wl₀ : List Bool} {vs₀ : List Value} {wa₀ : Addr} {nw₀ : Nat} (hE : PassesOwn (model prog w) A env E) (F : Fr h₀ L s.heap (inM x y₀ ty₀ wa₀ b tb u₀)) (N : News h₀ L s.heap ((wa₀, listOf vs₀.toArray nw₀) :: scL w x dx T tt sp ts e te vd k1 k2 k3 k4 rest))
    (hwa : WA wa₀ x dx rest) (hvs : StrsAre vs₀ (wsOf wl₀)) (hwl : wl₀.getLast? = some false) (hlen : wl₀.length ≤ y₀ + 1) (hR : GG T e b y₀ wl₀ = R)
    (turn : ∀ (y : Nat) (ty : Tok) (wb : Bool) (wl : List Bool) (vs : List Value) (wa : Addr) (nw : Nat) (u : Str → Option Value) (h : Heap) (tk : Nat), Fr h₀ L h (inM x y ty wa b tb u) → News h₀ L h ((wa, listOf vs.toArray nw) :: (x, instObj 167 dx) :: (dx, scD w T tt sp ts e te vd k1 k2 k3 k4) :: rest) →
      @LT.lt Nat _ x wa → @LT.lt Nat _ dx wa → AllLt wa rest → (∀ q ∈ rest, q.1 ≠ wa) → StrsAre vs (wsOf (wb :: wl)) → vs.length = wl.length + 1 → wl.length ≤ y → (wb :: wl).getLast? = some false → GG T e b y (wb :: wl) = R →
      wpAny (model prog w) A (isTrue test env (eval test env)) (fun b' s₂ => WhlIf b' (wpAny (model prog w) A (execs body env) (InPost w h₀ L x dx rest T tt sp ts e te vd k1 k2 k3 k4 b tb R y Q { s with heap := h, toks := tk }) E s₂) (wpAny (model prog w) A (execs orelse env) Q E s₂)) E { s with heap := h, toks := tk }) :
    wpAny (model prog w) A (exec (.While test body orelse pos) env) Q E s := by
  refine while_go (σ := Nat) (fun y h => ∃ (ty : Tok) (wl : List Bool) (vs : List Value) (wa : Addr) (nw : Nat) (u : Str → Option Value), Fr h₀ L h (inM x y ty wa b tb u) ∧ News h₀ L h ((wa, listOf vs.toArray nw) :: scL w x dx T tt sp ts e te vd k1 k2 k3 k4 rest) ∧ WA wa x dx rest ∧ StrsAre vs (wsOf wl) ∧ wl.getLast? = some false ∧ wl.length ≤ y + 1 ∧ GG T e b y wl = R) (fun y => e - y) hE y₀ ⟨ty₀, wl₀, vs₀, wa₀, nw₀, u₀, F, N, hwa, hvs, hwl, hlen, hR⟩ ?_
  rintro y h tk ⟨ty, wl, vs, wa, nw, u, F7, N7, hwa, hvs, hwl, hlen, hR⟩
  obtain ⟨wb, wl, rfl⟩ : ∃ a r, wl = a :: r := by cases wl with | nil => cases hwl | cons a r => exact ⟨a, r, rfl⟩
  have hl := hvs.length
  rw [show (wsOf (wb :: wl)).length = wl.length + 1 by simp [wsOf]] at hl
  refine wpAny_mono (turn y ty wb wl vs wa nw u h tk F7 N7 hwa.1 hwa.2.1 hwa.2.2 (fun q hq => Nat.ne_of_lt (rest_lt hwa.2.2 q hq)) hvs hl (by simpa using hlen) hwl hR) (fun b' s₂ hb => ?_) fun _ _ x => x
  unfold WhlIf at hb ⊢
  split
  · rename_i hbt
    rw [if_pos hbt] at hb
    refine wpAny_mono hb (fun f s₃ hf => ?_) fun _ _ x => x
    have nx : InEnd w h₀ L x dx rest T tt sp ts e te vd k1 k2 k3 k4 b tb R y { s with heap := h, toks := tk } s₃ → ∃ (y' : Nat) (h' : Heap) (tk : Nat), s₃ = { s with heap := h', toks := tk } ∧ (∃ (ty : Tok) (wl : List Bool) (vs : List Value) (wa : Addr) (nw : Nat) (u : Str → Option Value), Fr h₀ L h' (inM x y' ty wa b tb u) ∧ News h₀ L h' ((wa, listOf vs.toArray nw) :: scL w x dx T tt sp ts e te vd k1 k2 k3 k4 rest) ∧ WA wa x dx rest ∧ StrsAre vs (wsOf wl) ∧ wl.getLast? = some false ∧ wl.length ≤ y' + 1 ∧ GG T e b y' wl = R) ∧ e - y' < e - y := by
      rintro ⟨y', ty', wl', vs', wa', nw', u', h', tk', rfl, F', N', p0, p1, p2, p3, p4, p5, p6⟩
      exact ⟨y', h', tk', rfl, ⟨ty', wl', vs', wa', nw', u', F', N', p0, p1, p2, p3, p4⟩, by omega⟩
    cases f with
    | next => exact nx hf
    | cont => exact nx hf
    | brk => exact hf
    | ret v => exact hf
  · rename_i hbt
    rw [if_neg hbt] at hb
    exact hb
end
theorem strs_start (t : Tok) : StrsAre [.str (Str.ofString "(") t] (wsOf [false]) := by
  rw [lit_op]
  exact .cons _ _ .nil
theorem strs_split : ∀ {l : List Str} {vs : List Value} {z : Str}, StrsAre vs (l ++ [z]) → ∃ us t, vs = us ++ [.str z t] ∧ StrsAre us l
  | [], vs, z, h => by
    cases h with
    | cons _ t r => cases r with | nil => exact ⟨[], t, rfl, .nil⟩
  | y :: l, vs, z, h => by
    cases h with
    | cons _ t r =>
      obtain ⟨us, t', rfl, h'⟩ := strs_split r
      exact ⟨.str y t :: us, t', rfl, .cons _ _ h'⟩
theorem strs_add : ∀ {l : List Str} {us : List Value} {z : Str} {t : Tok}, StrsAre us l → StrsAre (us ++ [.str z t]) (l ++ [z])
  | _, _, _, _, .nil => .cons _ _ .nil
  | _, _, _, _, .cons y t r => .cons y t (strs_add r)
theorem wsOf_cons (b : Bool) (w : List Bool) : wsOf (b :: w) = wsOf w ++ [sgn b] := by simp [wsOf]
theorem wsOf_len (w : List Bool) : (wsOf w).length = w.length := by simp [wsOf]
/-! the stack as a list of the ledger -/
section
variable {w : World} {A : Around} {E : Value → Shared → Prop} {s : Shared} {h₀ : Heap} {L wa : Addr} {m : Str → Option Value} {news news' : List (Addr × Obj)} {us : List Value} {z : Value} {nw : Nat} {Q : Value → Shared → Prop} {value slice : PySem.Expr}
theorem stack_last {u : Tok} (N : News h₀ L s.heap news) (hm : (wa, listOf (us ++ [z]).toArray nw) ∈ news) (hz : us.length ≤ 90000) (h : Q z s)
    (hs : subscripted slice false (.ref wa) (.int (-1) u) = operate [.ref wa, .int (-1) u] (getItem (.ref wa) (.int (-1) u)) := by with_unfolding_all rfl) (hg : ∀ r, letTemporaryGo value (.ref wa) r = pure () := by intro _; with_unfolding_all rfl) :
    wpAny (model PG w) A (subscriptTail value slice (.ref wa) (.int (-1) u)) Q E s := by
  have hl : s.heap.IsList wa (us ++ [z]).toArray := ⟨_, (N _ hm).1, rfl, _, rfl⟩
  have e : (us ++ [z]).toArray.size = us.length + 1 := by simp
  exact subscriptTail_builtin hl.typeIs slot_list_getitem.lookup (wpAny_getItem_list_neg hl (by decide) (by rw [e]; omega) (by decide) (by rw [e, show (-1 + ((us.length + 1 : Nat) : Int)).toNat = us.length by omega]; simp) h) hs hg
theorem stack_pop (F : Fr h₀ L s.heap m) (N : News h₀ L s.heap news) (U : Upd wa (listOf (us ++ [z]).toArray nw) (listOf us.toArray (nw + 1)) news news') (hz : us.length ≤ 90000)
    (h : ∀ h', Fr h₀ L h' m → News h₀ L h' news' → Q z { s with heap := h' }) : wpAny (model PG w) A (call (.builtin "list.pop") [.ref wa]) Q E s :=
  kl_pop F N (p := us) (y := z) (by simpa using kpa_last z us) U (by rw [sizeLine_eq]; simp; omega) h
theorem stack_extend1 {b : Addr} {v : Value} {n2 : Nat} (F : Fr h₀ L s.heap m) (N : News h₀ L s.heap news) (hb : (b, listOf #[v] n2) ∈ news) (U : Upd wa (listOf (us ++ [z]).toArray nw) (listOf ((us ++ [z]) ++ [v]).toArray (nw + 1)) news news') (hz : us.length ≤ 90000)
    (h : ∀ h', Fr h₀ L h' m → News h₀ L h' news' → Q .none { s with heap := h' }) : wpAny (model PG w) A (call (.builtin "list.extend") [.ref wa, .ref b]) Q E s := by
  have e : (us ++ [z]).toArray.size = us.length + 1 := by simp
  have e2 : (#[v] : Array Value).size = 1 := rfl
  refine kl_extend F N hb (l := (us ++ [z]) ++ [v]) (by simp) (by show 1 ≠ 0; decide) U ?_ (by rw [sizeLine_eq]; simp; omega) (by rw [e, e2, sizeLine_eq]; omega) h
  rw [e, e2]
  unfold Builtin.List.listTooLong
  rw [sizeLine_eq]
  simp
  omega
theorem stack_extend0 {b : Addr} {n2 : Nat} (F : Fr h₀ L s.heap m) (N : News h₀ L s.heap news) (hb : (b, listOf #[] n2) ∈ news) (U : Upd wa (listOf (us ++ [z]).toArray nw) (listOf (us ++ [z]).toArray nw) news news') (hz : us.length ≤ 90000)
    (h : ∀ h', Fr h₀ L h' m → News h₀ L h' news' → Q .none { s with heap := h' }) : wpAny (model PG w) A (call (.builtin "list.extend") [.ref wa, .ref b]) Q E s := by
  have e : (us ++ [z]).toArray.size = us.length + 1 := by simp
  have e2 : (#[] : Array Value).size = 0 := rfl
  refine kxn_extend F N hb rfl U ?_ (by rw [sizeLine_eq]; simp; omega) (by rw [e, e2, sizeLine_eq]; omega) h
  rw [e, e2]
  unfold Builtin.List.listTooLong
  rw [sizeLine_eq]
  simp
  omega
theorem pick_init (us : List Value) (z : Value) : (slicePick (us ++ [z]).toArray none (some (-1)) none).toList = us := by
  have e : sliceBounds none (some (-1)) none (us ++ [z]).toArray.size = (((0 : Nat) : Int), ((us.length : Nat) : Int), 1) := by
    simp only [sliceBounds, Option.getD_none, show (1 : Int) > 0 by decide, if_true, show ((-1 : Int) < 0) by decide]
    simp
    omega
  rw [kmk_pick_nat _ e]
  simp
theorem stack_init {u : Tok} (F : Fr h₀ L s.heap m) (N : News h₀ L s.heap news) (hm : (wa, listOf (us ++ [z]).toArray nw) ∈ news) (hz : us.length ≤ 90000)
    (h : ∀ D h', Fr h₀ L h' m → News h₀ L h' ((D, listOf us.toArray 0) :: news) → (∀ p ∈ news, p.1 < D) → Q (.ref D) { s with heap := h' })
    (hs : subscripted slice false (.ref wa) (.ref s.heap.objs.size) = operate [.ref s.heap.objs.size, .ref wa] (getItem (.ref wa) (.ref s.heap.objs.size)) := by with_unfolding_all rfl) (hg : ∀ r, letTemporaryGo value (.ref wa) r = pure () := by intro _; with_unfolding_all rfl) :
    wpAny (model PG w) A (subscriptTail value slice (.ref wa) (.ref s.heap.objs.size)) Q E { s with heap := s.heap.push { cls := .type "slice", data := .fields #[.none, .int (-1) u, .none] } } :=
  kmk_slice_lit F N ⟨_, (N _ hm).1, rfl, _, rfl⟩ .none (.int _ _) (pick_init us z) h hs hg (by rw [sizeLine_eq]; simp; omega)
theorem stack_len {vs : List Value} (N : News h₀ L s.heap news) (hm : (wa, listOf vs.toArray nw) ∈ news) (hz : vs.length ≤ 90000) (h : ∀ t tk, Q (.int (vs.length : Int) t) { s with toks := tk }) : wpAny (model PG w) A (call (.builtin "len") [.ref wa]) Q E s := by
  have hl : s.heap.IsList wa vs.toArray := ⟨_, (N _ hm).1, rfl, _, rfl⟩
  refine PyProof.Rows.len_list hl (by simp; omega) ?_
  rw [List.size_toArray]
  exact h _ _
end

theorem fault_on {M : Model} {w : World} {A : Around} {E' : Value → Shared → Prop} {base g g₂ h₀ hh : Heap} {outer : List Env} {L L' a e D t : Addr} {m m' : Str → Option Value} {name : Str} {scope : Scope} {cd : Value} {s : Shared} {tk : Nat} {E : Value → Shared → Prop} {rest ns : List (Addr × Obj)} {n : Nat} {what : Str} {tt tb k1 k2 : Tok}
    (K : Below A base outer g) (F : Fr g L' g₂ m') (R : RaisedD base (envOf name scope L' a cd :: outer) e D t ((D, excD w what tt (n : Int) tb k1 k2) :: ns) hh)
    (lt : ∀ q ∈ ns, @LT.lt Nat _ q.1 D) (U : g₂.UpToSlots hh) (FG : Fr h₀ L g m) (hr : FaultTo w base outer h₀ L m s E rest n) (hs : ∀ q ∈ rest, q ∈ ns) :
    wpAny M (A.deeper (envOf name scope L' a cd)) (leaving (envOf name scope L' a cd) (.ref e)) (fun _ s'' => E (.ref e) s'') E' { s with heap := hh, toks := tk } := by
  refine leave_onD (s' := { s with heap := hh, toks := tk }) K F R U fun h9 R' U' => ?_
  refine hr e D t what tt tb k1 k2 g h9 tk (R'.sub fun q hq => ?_) (fun q hq => lt q (hs q hq)) FG U'
  rcases List.mem_cons.mp hq with rfl | hq
  · exact .head _
  · exact .tail _ (hs q hq)
section
variable {w : World} {h₀ : Heap} {L x dx wa : Addr} {rest news : List (Addr × Obj)} {T : Str} {tt te ts k1 k2 k3 k4 tb ty : Tok} {e b y : Nat} {sp v : Int} {vd : Value} {s : Shared} {R : Told} {Q : Flow → Shared → Prop} {h' : Heap} {tk nw : Nat} {m' : Str → Option Value} {us : List Value} {wl : List Bool} {t1 t2 : Tok}
theorem in_end {y' : Nat} {wl' : List Bool} {vs : List Value} (F : Fr h₀ L h' m') (h1 : m' "spot" = some (.int v ty)) (h2 : m' "within" = some (.ref wa)) (h3 : m' "self" = some (.ref x)) (h4 : m' "begin" = some (.int b tb))
    (N : News h₀ L h' news) (hm : (wa, listOf vs.toArray nw) ∈ news) (hn : ∀ q ∈ (x, instObj 167 dx) :: (dx, scD w T tt sp ts e te vd k1 k2 k3 k4) :: rest, q ∈ news) (w1 : @LT.lt Nat _ x wa) (w2 : @LT.lt Nat _ dx wa) (w3 : AllLt wa rest) (hvs : StrsAre vs (wsOf wl')) (hg : wl'.getLast? = some false) (hv : v = (y' : Int)) (hl : wl'.length ≤ y' + 1) (hR : GG T e b y' wl' = R) (l1 : y < e) (l2 : y < y') :
    InPost w h₀ L x dx rest T tt sp ts e te vd k1 k2 k3 k4 b tb R y Q s .next { s with heap := h', toks := tk } := by
  subst hv
  exact ⟨y', ty, wl', vs, wa, nw, m', h', tk, rfl, in_norm F h1 h2 h3 h4, news_sub N (fun q hq => (List.mem_cons.mp hq).elim (fun z => z ▸ hm) (hn q)), ⟨w1, w2, w3⟩, hvs, hg, hl, hR, l1, l2⟩
/-- a bracket or a quote opens -/
theorem in_push (hc : ([Str.ofString "(", Str.ofString "\""].any fun x => x == one (ch T y)) = true) (hus : StrsAre us (wsOf wl)) (hg : (false :: wl).getLast? = some false) (hl : wl.length ≤ y) (hR : GG T e b y (false :: wl) = R) (l1 : y < e)
    (F : Fr h₀ L h' m') (h1 : m' "spot" = some (.int v ty)) (h2 : m' "within" = some (.ref wa)) (h3 : m' "self" = some (.ref x)) (h4 : m' "begin" = some (.int b tb)) (hv : v = (y : Int) + 1)
    (N : News h₀ L h' news) (hm : (wa, listOf ((us ++ [Value.str (one 40) t1]) ++ [Value.str (one (ch T y)) t2]).toArray nw) ∈ news) (hn : ∀ q ∈ (x, instObj 167 dx) :: (dx, scD w T tt sp ts e te vd k1 k2 k3 k4) :: rest, q ∈ news) (w1 : @LT.lt Nat _ x wa) (w2 : @LT.lt Nat _ dx wa) (w3 : AllLt wa rest) :
    InPost w h₀ L x dx rest T tt sp ts e te vd k1 k2 k3 k4 b tb R y Q s .next { s with heap := h', toks := tk } := by
  have h40 : StrsAre (us ++ [Value.str (one 40) t1]) (wsOf (false :: wl)) := by rw [wsOf_cons]; exact strs_add hus
  have hc' : ch T y = 40 ∨ ch T y = 34 := by
    simp only [List.any_cons, List.any_nil, Bool.or_false, lit_op, lit_dq, one_beq, Bool.or_eq_true, decide_eq_true_eq] at hc
    omega
  rcases hc' with hc' | hc'
  · rw [hc'] at hm
    refine in_end (y' := y + 1) (wl' := false :: false :: wl) F h1 h2 h3 h4 N hm hn w1 w2 w3 (by rw [wsOf_cons]; exact strs_add h40) (by rw [List.getLast?_cons_cons]; exact hg) (by omega) (by simp; omega) ?_ l1 (by omega)
    rw [← step_open l1 hc']; exact hR
  · rw [hc'] at hm
    refine in_end (y' := y + 1) (wl' := true :: false :: wl) F h1 h2 h3 h4 N hm hn w1 w2 w3 (by rw [wsOf_cons]; exact strs_add h40) (by rw [List.getLast?_cons_cons]; exact hg) (by omega) (by simp; omega) ?_ l1 (by omega)
    rw [← step_quote l1 hc']; exact hR
theorem in_pop (hc : ch T y = 41) (h0 : (us.length : Int) ≠ 0) (hus : StrsAre us (wsOf wl)) (hg : (false :: wl).getLast? = some false) (hl : wl.length ≤ y) (hR : GG T e b y (false :: wl) = R) (l1 : y < e)
    (F : Fr h₀ L h' m') (h1 : m' "spot" = some (.int v ty)) (h2 : m' "within" = some (.ref wa)) (h3 : m' "self" = some (.ref x)) (h4 : m' "begin" = some (.int b tb)) (hv : v = (y : Int) + 1)
    (N : News h₀ L h' news) (hm : (wa, listOf us.toArray nw) ∈ news) (hn : ∀ q ∈ (x, instObj 167 dx) :: (dx, scD w T tt sp ts e te vd k1 k2 k3 k4) :: rest, q ∈ news) (w1 : @LT.lt Nat _ x wa) (w2 : @LT.lt Nat _ dx wa) (w3 : AllLt wa rest) :
    InPost w h₀ L x dx rest T tt sp ts e te vd k1 k2 k3 k4 b tb R y Q s .next { s with heap := h', toks := tk } := by
  have hul := hus.length
  rw [wsOf_len] at hul
  cases wl with
  | nil => exact absurd (by rw [hul]; rfl) h0
  | cons c wl =>
    refine in_end (y' := y + 1) (wl' := c :: wl) F h1 h2 h3 h4 N hm hn w1 w2 w3 hus (by rw [List.getLast?_cons_cons] at hg; exact hg) (by omega) (by omega) ?_ l1 (by omega)
    rw [← step_close l1 hc]; exact hR
theorem in_same (hc : ([Str.ofString "(", Str.ofString "\""].any fun x => x == one (ch T y)) = false) (hc1 : ¬ ch T y = 41) (hc2 : ¬ ch T y = 37) (hc3 : ¬ (ch T y = 47 ∧ ch T (y + 1) = 42)) (hus : StrsAre us (wsOf wl)) (hg : (false :: wl).getLast? = some false) (hl : wl.length ≤ y) (hR : GG T e b y (false :: wl) = R) (l1 : y < e)
    (F : Fr h₀ L h' m') (h1 : m' "spot" = some (.int v ty)) (h2 : m' "within" = some (.ref wa)) (h3 : m' "self" = some (.ref x)) (h4 : m' "begin" = some (.int b tb)) (hv : v = (y : Int) + 1)
    (N : News h₀ L h' news) (hm : (wa, listOf (us ++ [Value.str (one 40) t1]).toArray nw) ∈ news) (hn : ∀ q ∈ (x, instObj 167 dx) :: (dx, scD w T tt sp ts e te vd k1 k2 k3 k4) :: rest, q ∈ news) (w1 : @LT.lt Nat _ x wa) (w2 : @LT.lt Nat _ dx wa) (w3 : AllLt wa rest) :
    InPost w h₀ L x dx rest T tt sp ts e te vd k1 k2 k3 k4 b tb R y Q s .next { s with heap := h', toks := tk } := by
  have h40 : StrsAre (us ++ [Value.str (one 40) t1]) (wsOf (false :: wl)) := by rw [wsOf_cons]; exact strs_add hus
  have hc' : ch T y ≠ 40 ∧ ch T y ≠ 34 := by
    simp only [List.any_cons, List.any_nil, Bool.or_false, lit_op, lit_dq, one_beq, Bool.or_eq_false_iff, decide_eq_false_iff_not] at hc
    omega
  refine in_end (y' := y + 1) (wl' := false :: wl) F h1 h2 h3 h4 N hm hn w1 w2 w3 h40 hg (by omega) (by simp; omega) ?_ l1 (by omega)
  rw [← step_c l1 rfl hc'.1 hc'.2 hc1 hc2 hc3]; exact hR
theorem in_skip {n : Nat} (hc : ch T y = 37 ∨ (ch T y = 47 ∧ ch T (y + 1) = 42)) (hs : SS T e y = .close n) (hus : StrsAre us (wsOf wl)) (hg : (false :: wl).getLast? = some false) (hl : wl.length ≤ y) (hR : GG T e b y (false :: wl) = R) (l1 : y < e)
    (F : Fr h₀ L h' m') (h1 : m' "spot" = some (.int v ty)) (h2 : m' "within" = some (.ref wa)) (h3 : m' "self" = some (.ref x)) (h4 : m' "begin" = some (.int b tb)) (hv : v = (n : Int) - 1 + 1)
    (N : News h₀ L h' news) (hm : (wa, listOf (us ++ [Value.str (one 40) t1]).toArray nw) ∈ news) (hn : ∀ q ∈ (x, instObj 167 dx) :: (dx, scD w T tt sp ts e te vd k1 k2 k3 k4) :: rest, q ∈ news) (w1 : @LT.lt Nat _ x wa) (w2 : @LT.lt Nat _ dx wa) (w3 : AllLt wa rest) :
    InPost w h₀ L x dx rest T tt sp ts e te vd k1 k2 k3 k4 b tb R y Q s .next { s with heap := h', toks := tk } := by
  have h40 : StrsAre (us ++ [Value.str (one 40) t1]) (wsOf (false :: wl)) := by rw [wsOf_cons]; exact strs_add hus
  have hgt := skipF_gt T e l1 hc hs
  refine in_end (y' := n) (wl' := false :: wl) F h1 h2 h3 h4 N hm hn w1 w2 w3 h40 hg (by omega) (by simp; omega) ?_ l1 hgt
  rw [GG_skip l1 rfl hc, hs] at hR; exact hR
theorem in_skip_fault {n : Nat} (hc : ch T y = 37 ∨ (ch T y = 47 ∧ ch T (y + 1) = 42)) (hs : SS T e y = .fault n) (hR : GG T e b y (false :: wl) = R) (l1 : y < e) : R = .fault n := by
  rw [GG_skip l1 rfl hc, hs] at hR; exact hR.symm
theorem in_last (hc : ch T y = 41) (h0 : (us.length : Int) = 0) (hus : StrsAre us (wsOf wl)) (hR : GG T e b y (false :: wl) = R) (l1 : y < e) : R = .close y := by
  have hul := hus.length
  rw [wsOf_len] at hul
  cases wl with
  | nil => rw [step_last l1 hc] at hR; exact hR.symm
  | cons c wl => simp only [List.length_cons] at hul; omega
/-! in a string -/
theorem in_escp (hc : ch T y = 92) (hc2 : ch T y = 92 ∧ ch T (y + 1) = 40) (hus : StrsAre us (wsOf wl)) (hg : (true :: wl).getLast? = some false) (hl : wl.length ≤ y) (hR : GG T e b y (true :: wl) = R) (l1 : y < e)
    (F : Fr h₀ L h' m') (h1 : m' "spot" = some (.int v ty)) (h2 : m' "within" = some (.ref wa)) (h3 : m' "self" = some (.ref x)) (h4 : m' "begin" = some (.int b tb)) (hv : v = (y : Int) + 1 + 1)
    (N : News h₀ L h' news) (hm : (wa, listOf ((us ++ [Value.str (one 34) t1]) ++ [Value.str (Str.ofString "(") t2]).toArray nw) ∈ news) (hn : ∀ q ∈ (x, instObj 167 dx) :: (dx, scD w T tt sp ts e te vd k1 k2 k3 k4) :: rest, q ∈ news) (w1 : @LT.lt Nat _ x wa) (w2 : @LT.lt Nat _ dx wa) (w3 : AllLt wa rest) :
    InPost w h₀ L x dx rest T tt sp ts e te vd k1 k2 k3 k4 b tb R y Q s .next { s with heap := h', toks := tk } := by
  have h34 : StrsAre (us ++ [Value.str (one 34) t1]) (wsOf (true :: wl)) := by rw [wsOf_cons]; exact strs_add hus
  rw [lit_op] at hm
  refine in_end (y' := y + 2) (wl' := false :: true :: wl) F h1 h2 h3 h4 N hm hn w1 w2 w3 (by rw [wsOf_cons]; exact strs_add h34) (by rw [List.getLast?_cons_cons]; exact hg) (by omega) (by simp; omega) ?_ l1 (by omega)
  rw [step_esc l1 hc, if_pos hc2.2] at hR; exact hR
theorem in_esc (hc : ch T y = 92) (hc2 : ¬ (ch T y = 92 ∧ ch T (y + 1) = 40)) (hus : StrsAre us (wsOf wl)) (hg : (true :: wl).getLast? = some false) (hl : wl.length ≤ y) (hR : GG T e b y (true :: wl) = R) (l1 : y < e)
    (F : Fr h₀ L h' m') (h1 : m' "spot" = some (.int v ty)) (h2 : m' "within" = some (.ref wa)) (h3 : m' "self" = some (.ref x)) (h4 : m' "begin" = some (.int b tb)) (hv : v = (y : Int) + 1 + 1)
    (N : News h₀ L h' news) (hm : (wa, listOf (us ++ [Value.str (one 34) t1]).toArray nw) ∈ news) (hn : ∀ q ∈ (x, instObj 167 dx) :: (dx, scD w T tt sp ts e te vd k1 k2 k3 k4) :: rest, q ∈ news) (w1 : @LT.lt Nat _ x wa) (w2 : @LT.lt Nat _ dx wa) (w3 : AllLt wa rest) :
    InPost w h₀ L x dx rest T tt sp ts e te vd k1 k2 k3 k4 b tb R y Q s .next { s with heap := h', toks := tk } := by
  have h34 : StrsAre (us ++ [Value.str (one 34) t1]) (wsOf (true :: wl)) := by rw [wsOf_cons]; exact strs_add hus
  refine in_end (y' := y + 2) (wl' := true :: wl) F h1 h2 h3 h4 N hm hn w1 w2 w3 h34 hg (by omega) (by simp; omega) ?_ l1 (by omega)
  rw [step_esc l1 hc, if_neg (fun q => hc2 ⟨hc, q⟩)] at hR; exact hR
theorem in_unq (hc : ch T y = 34) (hus : StrsAre us (wsOf wl)) (hg : (true :: wl).getLast? = some false) (hl : wl.length ≤ y) (hR : GG T e b y (true :: wl) = R) (l1 : y < e)
    (F : Fr h₀ L h' m') (h1 : m' "spot" = some (.int v ty)) (h2 : m' "within" = some (.ref wa)) (h3 : m' "self" = some (.ref x)) (h4 : m' "begin" = some (.int b tb)) (hv : v = (y : Int) + 1)
    (N : News h₀ L h' news) (hm : (wa, listOf us.toArray nw) ∈ news) (hn : ∀ q ∈ (x, instObj 167 dx) :: (dx, scD w T tt sp ts e te vd k1 k2 k3 k4) :: rest, q ∈ news) (w1 : @LT.lt Nat _ x wa) (w2 : @LT.lt Nat _ dx wa) (w3 : AllLt wa rest) :
    InPost w h₀ L x dx rest T tt sp ts e te vd k1 k2 k3 k4 b tb R y Q s .next { s with heap := h', toks := tk } := by
  have hg' : wl.getLast? = some false := by
    cases wl with
    | nil => simp at hg
    | cons c wl => rw [List.getLast?_cons_cons] at hg; exact hg
  refine in_end (y' := y + 1) (wl' := wl) F h1 h2 h3 h4 N hm hn w1 w2 w3 hus hg' (by omega) (by omega) ?_ l1 (by omega)
  rw [step_unq l1 hc] at hR; exact hR
theorem in_lone (hc : ¬ ch T y = 92) (hc2 : ¬ ch T y = 34) (hus : StrsAre us (wsOf wl)) (hg : (true :: wl).getLast? = some false) (hl : wl.length ≤ y) (hR : GG T e b y (true :: wl) = R) (l1 : y < e)
    (F : Fr h₀ L h' m') (h1 : m' "spot" = some (.int v ty)) (h2 : m' "within" = some (.ref wa)) (h3 : m' "self" = some (.ref x)) (h4 : m' "begin" = some (.int b tb)) (hv : v = (y : Int) + 1)
    (N : News h₀ L h' news) (hm : (wa, listOf (us ++ [Value.str (one 34) t1]).toArray nw) ∈ news) (hn : ∀ q ∈ (x, instObj 167 dx) :: (dx, scD w T tt sp ts e te vd k1 k2 k3 k4) :: rest, q ∈ news) (w1 : @LT.lt Nat _ x wa) (w2 : @LT.lt Nat _ dx wa) (w3 : AllLt wa rest) :
    InPost w h₀ L x dx rest T tt sp ts e te vd k1 k2 k3 k4 b tb R y Q s .next { s with heap := h', toks := tk } := by
  have h34 : StrsAre (us ++ [Value.str (one 34) t1]) (wsOf (true :: wl)) := by rw [wsOf_cons]; exact strs_add hus
  refine in_end (y' := y + 1) (wl' := true :: wl) F h1 h2 h3 h4 N hm hn w1 w2 w3 h34 hg (by omega) (by simp; omega) ?_ l1 (by omega)
  rw [step_q l1 rfl hc hc2] at hR; exact hR
end
section
local macro_rules | `(tactic| k_room) => `(tactic| ktr_room)

theorem inner_spec {w : World} {p : Program} {loose : List Str} {mean : ExcName → Option Value} {mg mb : Str → Option Value}
  {dp un : Nat} {gd : Option (List Code)} {cn : Str} {cs : Scope} {a : Addr} {ccd : Value} {cl : List (Str × Addr)} {outer : List Env} {A₀ : Around} {base h₀ : Heap} {L : Addr} {m : Str → Option Value} {s : Shared} {Q E : Value → Shared → Prop}
  {x dx : Addr} {rest : List (Addr × Obj)} {k1 k2 k3 k4 tt ts te tb : Tok} {T : Str} {sp : Int} {e b : Nat} {vd : Value}
  (B : Below A₀ base outer h₀) (F : Fr h₀ L s.heap m) (X : (KK w.params).In h₀) (N : News h₀ L s.heap (scL w x dx T tt sp ts e te vd k1 k2 k3 k4 rest)) (T' : Top p loose mean mg mb h₀) (hk : cs.kind = .function)
  (he : e ≤ T.length) (hT : T.length ≤ 90000) (hb : b ≤ T.length) (hdp : dp + 20 < recursionLimit)
  (hret : ∀ (n : Nat) (tn : Tok) (h' : Heap) (tk' : Nat), innerEnd T e b = .close n → Fr h₀ L h' m → News h₀ L h' (scL w x dx T tt sp ts e te vd k1 k2 k3 k4 rest) → Q (.int n tn) { s with heap := h', toks := tk' })
  (hraise : ∀ n : Nat, innerEnd T e b = .fault n → FaultTo w base (envX cn cs L a ccd cl :: outer) h₀ L m s E (scL w x dx T tt sp ts e te vd k1 k2 k3 k4 rest) n) :
  wpAny (model PG w) (ktrTop dp un gd cn cs L a ccd cl outer) (call (.ref 143) [.ref x, .int b tb]) Q E s := by
  dsimp only [scL] at N
  refine wpAny_call ?_
  k_dflt ktr_enter
  k_with_none
  k_with "exec While Compare cons nil" => (k_here; refine halt ?_)
  k_with "WhlIf" => ((with_reducible refine whlif_dec ?_ ?_) <;> intro hwq₉)
  k_with "last subscriptTail" => (k_here; (with_reducible show wpAny _ _ (subscriptTail _ _ (Value.str _ _) (Value.int _ _)) _ _ _); k_dflt (refine sc_item (by omega) (by omega) ?_); intro t9k₉)
  k_with "subscriptTail" => (k_here; (with_reducible show wpAny _ _ (subscriptTail _ _ (Value.str _ _) (Value.int _ _)) _ _ _); k_dflt (refine sc_item (by omega) (by omega) ?_); intro t9k₉)
  k_with "compareOp In str str" => (k_here; (with_reducible refine in_blanks_q ?_))
  k_with "compareOp Eq str str" => (k_here; first | (with_reducible refine eq_one lit_pc ?_) | (with_reducible refine eq_one lit_bs ?_) | (with_reducible refine eq_one lit_dq ?_) | (with_reducible refine eq_one lit_cl ?_) | (with_reducible refine eq_one lit_op ?_) | (with_reducible refine eq_two lit_rem (by decide) (by omega) ?_) | (with_reducible refine eq_two lit_part (by decide) (by omega) ?_))
  k_with "call builtin:str.find" => (k_here; k_dflt (refine find_star (by omega) (by omega) (fun hf9k₉ t9k₉ => ?_) (fun c9k₉ hf9k₉ hf8k₉ hf7k₉ t9k₉ => ?_)))
  k_with "exec Raise some none" => (k_here; k_dflt (refine raise_own (by rfl) ?_))
  k_with "call ref" => (k_here; (with_reducible show wpAny _ _ (call (Value.ref 81) _) _ _ _); k_dflt (refine fault_made (by k_asm) (by k_asm) (by k_asm) (by k_asm) (by k_asm) (by exact rfl) (by first | (show _ + 1 + 8 < _; omega) | ktr_room) ?_); intro e9k₉ D9k₉ t9k₉ k19k₉ k29k₉ h9k₉ tk9k₉ Fq₉ Nq₉ lt9k₉ lt8k₉ lt7k₉)
  k_with "MadeE" => (k_here; k_dflt (refine madeE_of (by k_asm) (by k_asm) (by k_asm) ?_); (try dsimp only))
  k_with "WhlIf" => ((with_reducible refine whlif_sign ?_ ?_) <;> intro hwq₉)
  k_with "subscriptTail" => (k_here; (with_reducible show wpAny _ _ (subscriptTail _ _ (Value.ref _) (Value.int (-1) _)) _ _ _); k_dflt (refine stack_last (by k_asm) (by k_mem) (by omega) ?_))
  k_with "call builtin:list.pop" => (k_here; k_dflt (refine stack_pop (by k_asm) (by k_asm) (by k_upd) (by omega) ?_); intro hq₉ Fq₉ Nq₉)
  k_with "call builtin:list.extend" => (k_here; k_dflt (first | (refine stack_extend1 (by k_asm) (by k_asm) (by k_mem) (by k_upd) (by omega) ?_) | (refine stack_extend0 (by k_asm) (by k_asm) (by k_mem) (by k_upd) (by omega) ?_)); intro hq₉ Fq₉ Nq₉)
  k_with "subscriptTail Name Slice ref ref" => (k_here; (with_reducible show wpAny _ _ (subscriptTail _ _ (Value.ref _) (Value.ref _)) _ _ _); k_dflt (refine stack_init (by k_asm) (by k_asm) (by k_mem) (by omega) ?_); intro Dq₉ hq₉ Fq₉ Nq₉ l1k₉; (try k_lt l1k₉))
  k_with "call builtin:len" => (k_here; k_dflt (refine stack_len (by k_asm) (by k_mem) (by omega) ?_); intro tq₉ tkq₉)
  k_with "call ref" => (k_here; (with_reducible show wpAny _ _ (call (Value.ref 115) _) _ _ _); k_dflt (refine skip_spec (by k_asm) (by k_asm) (by k_asm) (by k_asm) (by k_asm) (by exact rfl) (by omega) (by k_all) (by omega) (by omega) (by omega) (by first | (show _ + 1 + 12 < _; omega) | ktr_room) (fun n9k₉ tn9k₉ h9k₉ tk9k₉ hs9k₉ ha9k₉ hb9k₉ Fq₉ Nq₉ => ?_) (fun n9k₉ hs9k₉ => ?_)); (try dsimp only [scL] at Nq₉))
  k_steps
  unfold Halt
  rename News _ _ _ _ => kN
  rename Fr _ _ _ (fun _ => _) => kF
  rename _ ∧ _ ∧ AllLt _ rest => kl
  k_dflt (refine' in_go (innerEnd T e b) ?hE (in_norm kF rfl rfl rfl rfl) (news_sub kN fun q hq => .tail _ hq) kl (strs_start _) (by simp) (by simp) rfl ?turn)
  case hE => first | passes_own | with_unfolding_all passes_own
  case turn =>
    clear kN kF
    intro y ty wb wl vs wa nw u h tk F7 N7 hw1 hw2 hw3 hw4 hvs hvl hwl hlast hR
    rw [wsOf_cons] at hvs
    obtain ⟨us, tz, rfl, hus⟩ := strs_split hvs
    have hul : us.length = wl.length := by have := hus.length; rw [wsOf_len] at this; exact this
    clear hvs hvl
    cases wb
    · have e40 : sgn false = one 40 := rfl
      rw [e40] at N7
      k_steps
      all_goals first
        | (rename News _ _ _ _ => kN
           (try simp only [List.push_toArray] at kN)
           (first
             | k_dflt (refine' in_push (by assumption) hus hlast hwl hR (by omega) ?F ?h1 ?h2 ?h3 ?h4 ?hv kN ?hm ?hn hw1 hw2 hw3)
             | k_dflt (refine' in_pop (by assumption) (by assumption) hus hlast hwl hR (by omega) ?F ?h1 ?h2 ?h3 ?h4 ?hv kN ?hm ?hn hw1 hw2 hw3)
             | k_dflt (refine' in_skip (.inl (by assumption)) (by assumption) hus hlast hwl hR (by omega) ?F ?h1 ?h2 ?h3 ?h4 ?hv kN ?hm ?hn hw1 hw2 hw3)
             | k_dflt (refine' in_skip (.inr (by assumption)) (by assumption) hus hlast hwl hR (by omega) ?F ?h1 ?h2 ?h3 ?h4 ?hv kN ?hm ?hn hw1 hw2 hw3)
             | k_dflt (refine' in_same (by assumption) (by assumption) (by assumption) (by assumption) hus hlast hwl hR (by omega) ?F ?h1 ?h2 ?h3 ?h4 ?hv kN ?hm ?hn hw1 hw2 hw3))
           (case F => k_asm)
           (case h1 => exact rfl)
           (case h2 => exact rfl)
           (case h3 => exact rfl)
           (case h4 => exact rfl)
           (case hv => omega)
           (case hm => k_mem)
           (case hn =>
             intro q hq
             simp only [List.mem_cons] at hq ⊢
             rcases hq with h | h | h <;> simp only [h, true_or, or_true]))
        | (have hcl := in_last (by assumption) (by assumption) hus hR (by omega)
           rename News _ _ _ _ => kN
           try dsimp only
           k_steps
           unfold InPost
           try dsimp only
           k_steps
           rename News _ _ _ _ => kN2
           exact hret y _ _ _ hcl (by k_asm) (news_sub kN2 fun q hq => by
             simp only [scL, List.mem_cons] at hq ⊢
             rcases hq with h | h | h <;> simp only [h, true_or, or_true]))
        | (have hft : innerEnd T e b = Told.fault _ := in_skip_fault (by first | exact .inl (by assumption) | exact .inr (by assumption)) (by assumption) hR (by omega)
           unfold FaultTo
           intro e8 D8 t8 what8 tt8 tb8 k18 k28 g8 h8 tk8 R8 lt8 FG8 U8
           k_dflt (refine' fault_on ?K ?F R8 lt8 U8 ?FG (hraise _ hft) ?hs)
           case K => k_asm
           case F => exact FG8
           case FG => k_asm
           case hs =>
             intro q hq
             simp only [scL, List.mem_cons] at hq ⊢
             rcases hq with h | h | h <;> simp only [h, true_or, or_true])
        | (have hcut : innerEnd T e b = Told.fault b := hR.symm.trans (GG_end (by omega))
           k_dflt (refine' fault_leave ?K ?F ?N (by assumption) (by assumption) (by assumption) ?FG (hraise b hcut) (fun q hq => .tail _ hq))
           case K => k_asm
           case F => k_asm
           case N => k_asm
           case FG => k_asm)
    · have e34 : sgn true = one 34 := rfl
      rw [e34] at N7
      k_steps
      all_goals first
        | (rename News _ _ _ _ => kN
           (try simp only [List.push_toArray] at kN)
           (first
             | k_dflt (refine' in_escp (by assumption) (by assumption) hus hlast hwl hR (by omega) ?F ?h1 ?h2 ?h3 ?h4 ?hv kN ?hm ?hn ?w1 ?w2 ?w3)
             | k_dflt (refine' in_esc (by assumption) (by assumption) hus hlast hwl hR (by omega) ?F ?h1 ?h2 ?h3 ?h4 ?hv kN ?hm ?hn ?w1 ?w2 ?w3)
             | k_dflt (refine' in_unq (by assumption) hus hlast hwl hR (by omega) ?F ?h1 ?h2 ?h3 ?h4 ?hv kN ?hm ?hn ?w1 ?w2 ?w3)
             | k_dflt (refine' in_lone (by assumption) (by assumption) hus hlast hwl hR (by omega) ?F ?h1 ?h2 ?h3 ?h4 ?hv kN ?hm ?hn ?w1 ?w2 ?w3))
           (case F => k_asm)
           (case h1 => exact rfl)
           (case h2 => exact rfl)
           (case h3 => exact rfl)
           (case h4 => exact rfl)
           (case hv => omega)
           (case hm => k_mem)
           (case hn =>
             intro q hq
             simp only [List.mem_cons] at hq ⊢
             rcases hq with h | h | h <;> simp only [h, true_or, or_true])
           (case w1 => omega)
           (case w2 => omega)
           (case w3 => first | assumption | (rename _ ∧ _ ∧ _ ∧ _ ∧ AllLt _ rest => kl9; exact kl9.2.2.2.2)))
        | (have hcut : innerEnd T e b = Told.fault b := hR.symm.trans (GG_end (by omega))
           k_dflt (refine' fault_leave ?K ?F ?N (by assumption) (by assumption) (by assumption) ?FG (hraise b hcut) (fun q hq => .tail _ hq))
           case K => k_asm
           case F => k_asm
           case N => k_asm
           case FG => k_asm)
end
theorem calm31 {M : Model} {A : Around} {E : Value → Shared → Prop} {s : Shared} {env : Env} {Q : Flow → Shared → Prop} (h : Q .next s) : wpAny M A (execs [] env) Q E s := by
  k_with_none
  w_top off
  walk1
  exact h
section
variable {w : World} {A : Around} {E : Value → Shared → Prop} {s : Shared}
/-- a TextFault's own place is read -/
theorem spot_attr {e D : Addr} {oe : Obj} {vs : Array Value} {what : Str} {tt tb k1 k2 : Tok} {b : Int} {expr : Bool} {Q : Value → Shared → Prop} (X : (KK w.params).In s.heap)
    (he : s.heap.get? e = some oe) (hc : oe.cls = .ref 81) (hd : oe.data = .fields vs) (hD : oe.dict = some D) (hDo : s.heap.get? D = some (excD w what tt b tb k1 k2))
    (hq : Q (.int b tb) { s with toks := s.toks + 1 }) : wpAny (model PG w) A (getAttr (.ref e) "spot" expr) Q E s := by
  obtain ⟨h, g, d, t, os⟩ := s
  have FB := PySem.F.attrBase_Exception
  have I : PySem.W.InstAt h e oe 81 (some (excD w what tt b tb k1 k2)) := ⟨he, hc, by obtain ⟨c, di, da, sl⟩ := oe; cases hd; rfl, by rw [hD]; exact hDo⟩
  have L0 := I.type (M := model PG w)
  have L1 : Looks (model PG w) h (typeLookup (.ref 81) "__getattribute__") (some (.builtin "BaseException.__getattribute__")) := looks_findIn X (by k_is)
  have L2 : Looks (model PG w) h (typeLookup (.ref 81) "__getattr__") none := looks_findIn X (by k_is)
  have LF : Looks (model PG w) h (Builtin.ObjectAttr.find (.ref e) (.ref 81) "spot") (.value (.int b tb)) := looks_find (M := model PG w) X I (findObj_own (attr := none) (by k_is) (by k_is) rfl rfl)
  have isb : Looks (model PG w) h (isInstance (.ref e) (.type "BaseException")) true := L0.andThen (looks_mroIn X (by k_is))
  have f3 := FB.ga.bind (.ref e)
  unfold getAttr getAttrBy
  refine wpAny_bind (wpAny_mkText (wpAny_holding (wpAny_bind (L0.at (wpAny_bind (L1.at ?_))))))
  show wpAny _ _ (getAttrByItsOwn (.ref e) (.str "spot" t) (.ref 81) (.builtin "BaseException.__getattribute__") true expr) _ _ _
  unfold getAttrByItsOwn hookBefore callGetattribute boundAndCalled
  refine wpAny_bind ?_
  show wpAny _ _ (typeLookup (.ref 81) "__getattr__") _ _ _
  refine L2.at ?_
  have hx0 : (expr && onTheHeap (Value.builtin "BaseException.__getattribute__")) = false := by cases expr <;> rfl
  rw [hx0]
  refine wpAny_bind (wpAny_attempt (wpAny_holding ?_))
  show wpAny _ _ (bindSpecial (.builtin "BaseException.__getattribute__") (.ref e) >>= _) _ _ _
  refine wpAny_bind (wpAny_of_eq f3 ?_)
  refine wpAny_mono (Q := fun v s' => v = .int b tb ∧ s' = ⟨h, g, d, t + 1, os⟩) (E := fun _ _ => False) ?_ (fun v s' hv => ?_) fun _ _ z => z.elim
  · refine wpAny_call ?_
    refine codeAny_call_builtin FB.ga.plain F.entry_bexc_ga (@check_slot (model PG w) _ _ _ "BaseException.__getattribute__" "BaseException" "__getattribute__" (.ref e) [.str "spot" t] [] _ (by decide +kernel) (by decide +kernel) isb (F.args_bexc_ga (.ref e) (.str "spot" t)) ?_)
    unfold Builtin.«object.__getattribute__»
    refine wpAny_bind (wpAny_pure (wpAny_bind (wpAny_pure (wpAny_bind (L0.at (wpAny_bind (LF.at ?_)))))))
    exact wpAny_pure ⟨rfl, rfl⟩
  · obtain ⟨rfl, rfl⟩ := hv
    exact wpAny_pure hq
end
theorem FlyD.base {base B h : Heap} {l : List Env} {e D t : Addr} {fl : Value} (hB : base.StaysIn B) (x : FlyD B l e D t fl h) : base.StaysIn h ∧ base.get? e = none :=
  ⟨fun b o q => x.1 b o (hB b o q), fresh_of_stays hB x.2.1⟩
section
variable {w : World} {A₀ : Around} {E : Value → Shared → Prop} {s' : Shared} {h₀ h : Heap} {outer : List Env} {L a e D t : Addr} {m mg mb : Str → Option Value} {cn : Str} {cs : Scope} {ccd : Value} {cl : List (Str × Addr)} {p : Program} {loose : List Str}
  {x n : Str} {np pos : Pos} {b₀ : Stmt} {suite : List Stmt} {rest : List ExceptHandler} {news : List (Addr × Obj)} {Q : Flow → Shared → Prop}
theorem caught_D (K : Below A₀ h₀ outer h₀) (F : Fr h₀ L h m) (hsm : h.UpToSlots s'.heap) (R : RaisedD h₀ (envX cn cs L a ccd cl :: outer) e D t news s'.heap)
    (X : (KK w.params).In h₀) (T : TopRead p loose mg mb h₀) (ex : nsIn (KK w.params) mainGlobals x = some (some (.ref 81)))
    (k : ∀ h' oe vs tk, Fr h₀ L h' (fun y => if y = n then some (.ref e) else m y) → News h₀ L h' ((e, oe) :: news) → oe.cls = .ref 81 → oe.dict = some D → oe.data = .fields vs →
      wpAny (model PG w) ((A₀.deeper (envX cn cs L a ccd cl)).mark (some (.ref e))) (execs (b₀ :: suite) (envX cn cs L a ccd cl))
        (fun f s₄ => wpAny (model PG w) (A₀.deeper (envX cn cs L a ccd cl)) (do bindName (envX cn cs L a ccd cl) n .none; unbindBehindTheSuite (envX cn cs L a ccd cl) n pos) (fun _ s₅ => Q f s₅) E s₄)
        (AsSuiteRaised (model PG w) ((A₀.deeper (envX cn cs L a ccd cl)).mark (some (.ref e))) (envX cn cs L a ccd cl) n pos (notedBy (model PG w) ((A₀.deeper (envX cn cs L a ccd cl)).mark (some (.ref e))) (envX cn cs L a ccd cl) (cameBackBy (model PG w) (A₀.deeper (envX cn cs L a ccd cl)) (envX cn cs L a ccd cl) E)))
        { s' with heap := h', toks := tk })
    (hk : cs.kind = .function := by rfl) (hlo : (envX cn cs L a ccd cl).kindOf n = some .local := by rfl) (hx : (envX cn cs L a ccd cl).kindOf x = some .globalImplicit := by rfl) (hd : (x == ("__debug__" : Str)) = false := by decide) :
    wpAny (model PG w) (A₀.deeper (envX cn cs L a ccd cl)) (noteFrame (.ref e) (envX cn cs L a ccd cl))
      (fun _ s₂ => wpAny (model PG w) (A₀.deeper (envX cn cs L a ccd cl)) (setFlight (.ref e) none) (fun _ s₃ =>
        wpAny (model PG w) (A₀.deeper (envX cn cs L a ccd cl)) (handleBy (.ref e) (envX cn cs L a ccd cl) (.ExceptHandler (some (.Name x np)) (some n) (b₀ :: suite) pos :: rest)) Q E s₃) E s₂) E s' := by
  obtain ⟨B, hB, hl, hfl⟩ := R
  have hL : B.get? L = none := by
    obtain ⟨_, ⟨L', _, hf, hn', _⟩, _⟩ := hfl.2.2.1
    obtain rfl : L = L' := Option.some.inj hf
    exact hn'
  refine fly_note (Around.frames_deeper K.stack) rfl hfl fun h₄ hheld₄ hsm₄ => ?_
  refine fly_flight hheld₄ fun h₅ hheld hsm₅' => ?_
  have hsm₅ := hsm₄.trans hsm₅'
  have F₅ := F.of_stays (hheld.base hB).1 (hsm.trans hsm₅)
  have X₅ := X.keeps F₅.keep
  have hC := X₅ 81 _ (by k_is)
  obtain ⟨ob, hob, hobc⟩ : ∃ ob, h₅.get? e = some ob ∧ ob.cls = .ref 81 := let ⟨_, _, _, oe, vs, _, _, _, a1, a2, _⟩ := hheld; ⟨oe, a1, a2.1⟩
  refine wpAny_handleBy_cons (codeAny_handlers_test (nameX_K F₅ X T ex ?_ hk hx hd)) (by intro q; cases q)
  have c1 : (Value.ref 81 :: ftail).contains (.type "BaseException") = true := by decide +kernel
  have c2 : (Value.ref 81 :: ftail).contains (.ref 81) = true := by decide +kernel
  have f := tc_notTuple
  obtain ⟨hp, g, d, tk, os⟩ := s'
  show wpAny _ _ (excMatches (.ref e) (.ref 81)) _ _ _
  unfold excMatches
  repeat (first | (with_reducible refine wpAny_loadPart_at hob ?_; rw [hobc]) | with_reducible refine wpAny_loadPart_at hC ?_ | (with_reducible refine wpAny_isSubtype_exc hC ?_; first | rw [c1] | rw [c2]) | wp_step)
  refine codeAny_handlers_suite_as ?_
  refine fly_flight hheld fun h₆ hfl₆ hsm₆ => ?_
  have F₆ := F.of_stays (hfl₆.base hB).1 ((hsm.trans hsm₅).trans hsm₆)
  obtain ⟨oe, vs, hoe, hoec, hoed, hoeD⟩ : ∃ oe vs, h₆.get? e = some oe ∧ oe.cls = .ref 81 ∧ oe.data = .fields vs ∧ oe.dict = some D := let ⟨_, _, _, oe, vs, T9, oT, ts, a1, a2, a3, a4, a5, a6, a7, a8, a9, a10⟩ := hfl₆; ⟨oe, vs, a1, a2.1, a3, a10⟩
  have N₆ := News.more F₆ News.nil hoe (fun es n q => by rw [hoed] at q; cases q) (hfl₆.base hB).2
  have Nl : News h₀ L h₆ news := fun q hq => ⟨hfl₆.1 _ _ (hl q hq).1, (fun z => by have := (hl q hq).1; rw [z, hL] at this; cases this), (hl q hq).2⟩
  refine storeX_L F₆ (news := (e, oe) :: news) (fun q hq => (List.mem_cons.mp hq).elim (fun z => N₆ q (by rw [z]; exact .head _)) (Nl q)) (fun h₇ F₇ N₇ => ?_) hk hlo
  exact k h₇ oe vs _ F₇ N₇ hoec hoeD hoed
end
/-! the law's own loop over the noted pairs -/
theorem cat_any {prog : Program} {w : World} {A : Around} {E : Value → Shared → Prop} {s : Shared} {x y : Str} {t u : Tok} {Q : Value → Shared → Prop} (hsz : x.length + y.length ≤ 5000)
    (h : ∀ T t' tk, T = x ++ y → T.length = x.length + y.length → Q (.str T t') { s with toks := tk }) : wpAny (model prog w) A (binaryOp .Add (.str x t) (.str y u)) Q E s :=
  PyProof.Rows.add_str (fun t' tk => h _ t' tk rfl (str_len_app _ _)) (by rw [sizeLine_eq]; omega)

noncomputable def TurnPost (h₀ : Heap) (L cF : Addr) (rest : List (Addr × Obj)) (I : Addr) (it : Obj) (d x : Addr) (T : Str) (tT : Tok) (Q : Flow → Shared → Prop) (s₁ : Shared) (f : Flow) (s₂ : Shared) : Prop :=
  match f with
  | .ret v => Q (.ret v) s₂
  | .brk => Q .next s₂
  | _ => ∃ (h' : Heap) (tk : Nat) (m' : Str → Option Value) (oF' : Obj) (vF' : Option Value), s₂ = { s₁ with heap := h', toks := tk } ∧ Fr h₀ L h' m' ∧ News h₀ L h' ((I, it) :: (cF, oF') :: rest) ∧ oF'.data = .cell vF' ∧
      m' "feed" = some (.ref d) ∧ m' "scanner" = some (.ref x) ∧ m' "text" = some (.str T tT)

theorem known3 {m : Str → Option Value} {d x : Addr} {T : Str} {tT : Tok} (h1 : m "feed" = some (.ref d)) (h2 : m "scanner" = some (.ref x)) (h3 : m "text" = some (.str T tT)) :
    m = fun y : Str => if y = "feed" then some (.ref d) else if y = "scanner" then some (.ref x) else if y = "text" then some (.str T tT) else m y := by
  funext y
  split
  · subst y; exact h1
  · split
    · subst y; exact h2
    · split
      · subst y; exact h3
      · rfl

theorem law_loop {w : World} {A : Around} {E : Value → Shared → Prop} {s : Shared} {env : Env} {h₀ : Heap} {target : PySem.Expr} {body : List Stmt} {Q : Flow → Shared → Prop}
    {pa cF d x : Addr} {oF : Obj} {vF : Option Value} {pv : List Value} {np : Nat} {rest tl : List (Addr × Obj)} {ps : List (Int × Int)} {m₀ : Str → Option Value} {T : Str} {tT : Tok} {L : Addr}
    (hL : env.locals = L) (hh : A.handled = none) (F : Fr h₀ L s.heap m₀) (N : News h₀ L s.heap ((cF, oF) :: rest)) (hm : (pa, listOf pv.toArray np) ∈ rest) (hF : oF.data = .cell vF) (hp : PairsIn tl pv ps)
    (hd : m₀ "feed" = some (.ref d)) (hx : m₀ "scanner" = some (.ref x)) (ht : m₀ "text" = some (.str T tT))
    (turn : ∀ (I : Addr) (it oF' : Obj) (vF' : Option Value) (a : Addr) (p1 p2 : Int) (ta tb : Tok) (u : Str → Option Value) (h : Heap) (tk : Nat),
      it.cls = .type "list_iterator" → (∀ q ∈ (cF, oF) :: rest, @LT.lt Nat _ q.1 I) → (p1, p2) ∈ ps → (a, tup2 (.int p1 ta) (.int p2 tb)) ∈ tl → oF'.data = .cell vF' →
      Fr h₀ L h (fun y => if y = "feed" then some (.ref d) else if y = "scanner" then some (.ref x) else if y = "text" then some (.str T tT) else u y) →
      News h₀ L h ((I, it) :: (cF, oF') :: rest) →
      wpAny (model PG w) A (assign target env (.ref a)) (fun _ s₂ => wpAny (model PG w) A (execs body env) (TurnPost h₀ L cF rest I it d x T tT Q { s with heap := h, toks := tk }) E s₂) E { s with heap := h, toks := tk })
    (done : ∀ (oF' : Obj) (vF' : Option Value) (u : Str → Option Value) (h : Heap) (tk : Nat), oF'.data = .cell vF' →
      Fr h₀ L h (fun y => if y = "feed" then some (.ref d) else if y = "scanner" then some (.ref x) else if y = "text" then some (.str T tT) else u y) →
      News h₀ L h ((cF, oF') :: rest) → Q .next { s with heap := h, toks := tk }) :
    wpAny (model PG w) A (pyIter (.ref pa)) (fun it s₂ => TurnsAt PG w A h₀ env target body Q E it s₂) E s := by
  subst hL
  refine iter_listTurns hh F N (List.mem_cons_of_mem _ hm) rfl rfl fun I hI => ?_
  have key : ∀ (vs : List Value) (ps' : List (Int × Int)), PairsIn tl vs ps' → (∀ p ∈ ps', p ∈ ps) → ∀ (m₁ : Str → Option Value) (oF₁ : Obj) (vF₁ : Option Value),
      m₁ "feed" = some (.ref d) → m₁ "scanner" = some (.ref x) → m₁ "text" = some (.str T tT) → oF₁.data = .cell vF₁ →
      ItemsRest PG w A E h₀ env target body Q s [(I, "list_iterator")] [(pa, listOf pv.toArray np)] (vs.map .val) m₁ ((cF, oF₁) :: rest) := by
    intro vs
    induction vs with
    | nil =>
      intro ps' hp' _ m₁ oF₁ vF₁ a1 a2 a3 a4
      refine ItemsRest.zero fun h tk F' N' => ?_
      rw [known3 a1 a2 a3] at F'
      exact done oF₁ vF₁ m₁ h tk a4 F' N'
    | cons v vs ih =>
      intro ps' hp' hs m₁ oF₁ vF₁ a1 a2 a3 a4
      cases ps' with
      | nil => exact hp'.elim
      | cons p ps' =>
        obtain ⟨⟨a, ta, tb, rfl, hma⟩, hr⟩ := hp'
        refine ItemsRest.val fun h tk F' => AllObj.cons fun it hit => AllObj.nil fun N' => ?_
        rw [known3 a1 a2 a3] at F'
        refine wpAny_mono (turn I it oF₁ vF₁ a p.1 p.2 ta tb m₁ h tk hit hI (hs p (.head _)) hma a4 F' N') (fun _ s₂ h₂ => wpAny_mono h₂ (fun f s₃ h₃ => ?_) fun _ _ e => e) fun _ _ e => e
        have fin : (∃ (h' : Heap) (tk' : Nat) (m' : Str → Option Value) (oF' : Obj) (vF' : Option Value), s₃ = { s with heap := h', toks := tk' } ∧ Fr h₀ env.locals h' m' ∧ News h₀ env.locals h' ((I, it) :: (cF, oF') :: rest) ∧ oF'.data = .cell vF' ∧
            m' "feed" = some (.ref d) ∧ m' "scanner" = some (.ref x) ∧ m' "text" = some (.str T tT)) →
            UnrEndW h₀ env.locals { s with heap := h, toks := tk } [(I, it)] (fun m' n' => SubL [(pa, listOf pv.toArray np)] n' ∧ ItemsRest PG w A E h₀ env target body Q s [(I, "list_iterator")] [(pa, listOf pv.toArray np)] (vs.map .val) m' n') s₃ := by
          rintro ⟨h', tk', m', oF', vF', e, F₂, N₂, b4, b1, b2, b3⟩
          refine ⟨h', tk', m', (cF, oF') :: rest, e, F₂, N₂, ?_, ⟨List.mem_cons_of_mem _ hm, trivial⟩, ih ps' hr (fun p hp => hs p (.tail _ hp)) m' oF' vF' b1 b2 b3 b4⟩
          intro p hp q hq
          rw [List.mem_singleton.mp hq]
          rcases List.mem_cons.mp hp with rfl | hp
          · exact Nat.ne_of_lt (hI (cF, oF) (.head _))
          · exact Nat.ne_of_lt (hI p (.tail _ hp))
        cases f with
        | ret v => exact h₃
        | brk => exact h₃
        | next => exact fin h₃
        | cont => exact fin h₃
  exact key pv ps hp (fun _ h => h) m₀ oF vF hd hx ht hF
/-! the told end: both roads of it end here -/
noncomputable def EndG (w : World) (h₀ : Heap) (L : Addr) (m : Str → Option Value) (s : Shared) (d pa ra c e1 e2 : Addr) (o1 : Obj) (pv rv : List Value) (np nr : Nat) (tl : List (Addr × Obj)) (lf : Int) (t2 : Tok) (len : Nat) (s' : Shared) : Prop :=
  ∃ (e : Nat) (te : Tok) (h' : Heap) (tk : Nat) (o' o2' : Obj) (pl' : Int) (t1' : Tok), s' = { s with heap := h', toks := tk } ∧ 3 ≤ e ∧ e ≤ len ∧ Fr h₀ L h' m ∧
    News h₀ L h' ((d, o') :: (pa, listOf pv.toArray np) :: (ra, listOf rv.toArray nr) :: (e1, o1) :: (e2, o2') :: tl) ∧ o'.IsDictOf (strKind PG w) (feedL c pa ra pl' lf t1' t2) ∧ o2'.data = .cell (some (.int e te))
section
variable {w : World} {h₀ : Heap} {L : Addr} {m : Str → Option Value} {s : Shared} {Dt d pa ra c e1 e2 : Addr} {ot o oc o1 o2 : Obj} {pv rv : List Value} {np nr : Nat} {tl : List (Addr × Obj)} {pl lf : Int} {t1 t2 tl0 : Tok} {len : Nat}
theorem end_join {A : Around} {E : Value → Shared → Prop} {t : Sem Flow} {Q : Flow → Shared → Prop} (F : Fr h₀ L s.heap m)
    (N : News h₀ L s.heap ((Dt, ot) :: (d, o) :: (pa, listOf pv.toArray np) :: (ra, listOf rv.toArray nr) :: (c, oc) :: (e1, o1) :: (e2, o2) :: tl)) (hd : o.IsDictOf (strKind PG w) (feedL c pa ra pl lf t1 t2)) (ho : o2.data = .cell (some (.int (len : Nat) tl0)))
    (h1 : wpAny (model PG w) A t (fun f s' => f = .next ∧ EndG w h₀ L m s d pa ra c e1 e2 o1 pv rv np nr tl lf t2 len s') E s)
    (h2 : ∀ (e : Nat) (te : Tok) (h' : Heap) (tk : Nat) (o' o2' : Obj) (pl' : Int) (t1' : Tok), 3 ≤ e → e ≤ len → Fr h₀ L h' m →
      News h₀ L h' ((d, o') :: (pa, listOf pv.toArray np) :: (ra, listOf rv.toArray nr) :: (e1, o1) :: (e2, o2') :: tl) → o'.IsDictOf (strKind PG w) [("cells", .ref c), ("place", .int pl' t1'), ("left", .int lf t2), ("pairs", .ref pa), ("remarks", .ref ra)] →
      o2'.data = .cell (some (.int e te)) → Q .next { s with heap := h', toks := tk }) : wpAny (model PG w) A t Q E s := by
  refine wpAny_mono h1 (fun f s' h => ?_) fun _ _ x => x
  obtain ⟨rfl, e, te, h', tk, o', o2', pl', t1', rfl, a1, a2, a3, a4, a5, a6⟩ := h
  exact h2 e te h' tk o' o2' pl' t1' a1 a2 a3 a4 a5 a6
theorem end_g {e : Int} {te : Tok} {h' : Heap} {tk : Nat} {ot' o' o2' oc' : Obj} {pl' : Int} {t1' : Tok} (h3 : 3 ≤ e) (h4 : e ≤ len) (F : Fr h₀ L h' m) (N : News h₀ L h' ((Dt, ot') :: (d, o') :: (pa, listOf pv.toArray np) :: (ra, listOf rv.toArray nr) :: (c, oc') :: (e1, o1) :: (e2, o2') :: tl))
    (hd : o'.IsDictOf (strKind PG w) (feedL c pa ra pl' lf t1' t2)) (ho : o2'.data = .cell (some (.int e te))) : EndG w h₀ L m s d pa ra c e1 e2 o1 pv rv np nr tl lf t2 len { s with heap := h', toks := tk } := by
  obtain ⟨n, rfl⟩ : ∃ n : Nat, e = n := ⟨e.toNat, by omega⟩
  refine ⟨n, te, h', tk, o', o2', pl', t1', rfl, by omega, by omega, F, news_sub N fun q hq => ?_, hd, ho⟩
  simp only [List.mem_cons] at hq ⊢
  rcases hq with h | h | h | h | h | h <;> simp only [h, true_or, or_true]
end
/-! a list comprehension over pairs of ints, one test, its first name handed back: nothing made but the list -/
theorem ints_snoc {ys : List Value} {l : List Int} {y : Int} {t : Tok} : IntsAre ys l → IntsAre (ys ++ [.int y t]) (l ++ [y])
  | .nil => .cons _ _ .nil
  | .cons z u r => .cons z u (ints_snoc r)
theorem PairsIn.get {tl : List (Addr × Obj)} : ∀ {vs : List Value} {ps : List (Int × Int)} {i : Nat} {v : Value}, PairsIn tl vs ps → vs[i]? = some v → ∃ (p1 p2 : Int) (a : Addr) (ta tb : Tok), ps[i]? = some (p1, p2) ∧ v = .ref a ∧ (a, tup2 (.int p1 ta) (.int p2 tb)) ∈ tl
  | [], [], _, _, _, h => by simp at h
  | v' :: vs, p :: ps, 0, v, h, e => by
    obtain ⟨⟨a, ta, tb, rfl, hm⟩, _⟩ := h
    obtain rfl : Value.ref a = v := by simpa using e
    exact ⟨p.1, p.2, a, ta, tb, rfl, rfl, hm⟩
  | v' :: vs, p :: ps, i + 1, v, h, e => by
    obtain ⟨p1, p2, a, ta, tb, q1, q2, q3⟩ := h.2.get (i := i) (v := v) (by simpa using e)
    exact ⟨p1, p2, a, ta, tb, by simpa using q1, q2, q3⟩
  | [], _ :: _, _, _, h, _ => h.elim
  | _ :: _, [], _, _, h, _ => h.elim

noncomputable abbrev picked (rs : List (Int × Int)) (pr : Int → Int → Bool) : List Int := (rs.filter fun r => pr r.1 r.2).map (·.1)
theorem picked_snoc {rs : List (Int × Int)} {pr : Int → Int → Bool} {i : Nat} {p1 p2 : Int} (h : rs[i]? = some (p1, p2)) : picked (rs.take (i + 1)) pr = picked (rs.take i) pr ++ (if pr p1 p2 = true then [p1] else []) := by
  have e : rs.take (i + 1) = rs.take i ++ [(p1, p2)] := by rw [List.take_add_one, h]; rfl
  unfold picked
  rw [e, List.filter_append, List.map_append]
  cases hp : pr p1 p2 <;> simp [hp]

noncomputable def PickSrc (prog : Program) (w : World) (A : Around) (h₀ : Heap) (L : Addr) (m : Str → Option Value) (env : Env) (ct elt : PySem.Expr) (a b : Str) (scope : Scope) (cl : List (Str × Addr)) (Fin : Shared → List Value → List Int → List (Addr × Obj) → Prop) (xv : Value) (s₁ : Shared) : Prop :=
  ∃ (ax : Addr) (rv : List Value) (nr : Nat) (tl news : List (Addr × Obj)) (rs : List (Int × Int)) (pr : Int → Int → Bool), xv = .ref ax ∧ A.handled = none ∧ Fr h₀ L s₁.heap m ∧ News h₀ L s₁.heap news ∧ (ax, listOf rv.toArray nr) ∈ news ∧ PairsIn tl rv rs ∧ (∀ q ∈ tl, q ∈ news) ∧ rv.length ≤ sizeLine ∧
    (∀ (p1 p2 : Int) (ta tb : Tok) (C : Addr) (oC : Obj) (m₂ : Str → Option Value) (h : Heap) (tk : Nat) (Q' : Bool → Shared → Prop) (E' : Value → Shared → Prop), LCg.NsObj oC m₂ → m₂ a = some (.int p1 ta) → m₂ b = some (.int p2 tb) → Fr h₀ L h m → News h₀ L h ((C, oC) :: news) →
      (∀ tk', Q' (pr p1 p2) { s₁ with heap := h, toks := tk' }) → wpAny (model prog w) A (isTrue ct (compEnvC scope cl C env) (eval ct (compEnvC scope cl C env))) Q' E' { s₁ with heap := h, toks := tk }) ∧
    (∀ (p1 p2 : Int) (ta tb : Tok) (C : Addr) (oC : Obj) (m₂ : Str → Option Value) (h : Heap) (tk : Nat) (Q' : Value → Shared → Prop) (E' : Value → Shared → Prop), LCg.NsObj oC m₂ → m₂ a = some (.int p1 ta) → m₂ b = some (.int p2 tb) → Fr h₀ L h m → News h₀ L h ((C, oC) :: news) →
      (∀ tk', Q' (.int p1 ta) { s₁ with heap := h, toks := tk' }) → wpAny (model prog w) A (eval elt (compEnvC scope cl C env)) Q' E' { s₁ with heap := h, toks := tk }) ∧
    (∀ (g : Heap) (ys : List Value), IntsAre ys (picked rs pr) → Fin { s₁ with heap := g } ys (picked rs pr) news)

section
variable {prog : Program} {w : World} {A : Around} {E : Value → Shared → Prop} {s : Shared} {h₀ : Heap} {L : Addr} {m : Str → Option Value} {env : Env}
theorem pick_block {ct elt iter : PySem.Expr} {a b : Str} {pa pb tp : Pos} {kk : Nat} {scope : Scope} {cl : List (Str × Addr)} {pos : Pos} {s₂ : Shared} {I ax : Addr} {rv : List Value} {nr : Nat} {tl news : List (Addr × Obj)} {rs : List (Int × Int)} {pr : Int → Int → Bool}
    {RR : Value → Addr → Result → Shared → Prop} (hh : A.handled = none)
    (hcell : ∀ y ∈ scope.names, y.2 ≠ .cell) (hkind : scope.kind = .function) (hx : scope.names.lookup a = some .local) (hx₂ : scope.names.lookup b = some .local) (hxx : a ≠ b)
    (hit : s₂.heap.IsListIter I ax 0) (hm : (ax, listOf rv.toArray nr) ∈ news) (hp : PairsIn tl rv rs) (htl : ∀ q ∈ tl, q ∈ news) (hsz : rv.length ≤ sizeLine)
    (F : Fr h₀ L s₂.heap m) (N : News h₀ L s₂.heap news) (hIL : L ≠ I) (hI₀ : h₀.get? I = none) (hIs : I < s₂.heap.objs.size) (off : ∀ p ∈ news, p.1 ≠ I)
    (test : ∀ (p1 p2 : Int) (ta tb : Tok) (C : Addr) (oC : Obj) (m₂ : Str → Option Value) (h : Heap) (tk : Nat) (Q' : Bool → Shared → Prop) (E' : Value → Shared → Prop), LCg.NsObj oC m₂ → m₂ a = some (.int p1 ta) → m₂ b = some (.int p2 tb) → Fr h₀ L h m → News h₀ L h ((C, oC) :: news) →
      (∀ tk', Q' (pr p1 p2) { s₂ with heap := h, toks := tk' }) → wpAny (model prog w) A (isTrue ct (compEnvC scope cl C env) (eval ct (compEnvC scope cl C env))) Q' E' { s₂ with heap := h, toks := tk })
    (hand : ∀ (p1 p2 : Int) (ta tb : Tok) (C : Addr) (oC : Obj) (m₂ : Str → Option Value) (h : Heap) (tk : Nat) (Q' : Value → Shared → Prop) (E' : Value → Shared → Prop), LCg.NsObj oC m₂ → m₂ a = some (.int p1 ta) → m₂ b = some (.int p2 tb) → Fr h₀ L h m → News h₀ L h ((C, oC) :: news) →
      (∀ tk', Q' (.int p1 ta) { s₂ with heap := h, toks := tk' }) → wpAny (model prog w) A (eval elt (compEnvC scope cl C env)) Q' E' { s₂ with heap := h, toks := tk })
    (hRR : ∀ D C h tk m' ys, Fr h₀ L h m → News h₀ L h ((D, LCg.lst ys) :: news) → h.Ns C m' → h₀.get? C = none → h₀.get? D = none → C ≠ L → D ≠ L → C ≠ D → (∀ p ∈ news, p.1 ≠ C) → (∀ p ∈ news, p.1 ≠ D) → IntsAre ys (picked rs pr) → RR (.ref D) C (.ok .next) { s₂ with heap := h, toks := tk }) :
    wpAny (model prog w) A (newList []) (fun acc s₃ => wpAny (model prog w) A (newFunctionEnv scope env.globals cl [] env.qual none .none (some env)) (fun cenv s₄ =>
      codeAny (model prog w) A (.compStart (.ListComp elt [⟨.Tuple [.Name a pa, .Name b pb] kk tp, iter, [ct], 0⟩] scope pos) 0 (.ref I) acc { cenv with scope := relabel scope env }) (RR acc cenv.locals) s₄) E s₃) E s₂ := by
  refine wpAny_newObj_type (wpAny_newFunctionEnv hcell (by intro y hy; simp at hy) (fun h₁ hns₁ hsb₁ => ?_) hkind)
  dsimp only at hns₁ hsb₁ ⊢
  generalize hH2 : s₂.heap.push { cls := .type "list", dict := none, data := .seq ([] : List Value).toArray } = H2 at hns₁ hsb₁ ⊢
  have hC : H2.objs.size = s₂.heap.objs.size + 1 := by rw [← hH2, Heap.size_push]
  have hDC : s₂.heap.objs.size ≠ H2.objs.size := by rw [hC]; exact Nat.ne_of_lt (Nat.lt_succ_self _)
  have below : ∀ b, b < s₂.heap.objs.size → b ≠ H2.objs.size ∧ b ≠ s₂.heap.objs.size := fun b hb => ⟨by rw [hC]; exact Nat.ne_of_lt (Nat.lt_succ_of_lt hb), Nat.ne_of_lt hb⟩
  have old : ∀ b o, s₂.heap.get? b = some o → h₁.get? b = some o := fun b o e => hsb₁.extBut b o (below b (Heap.lt_size e)).1 (Heap.get?_push_of_some _ (hH2 ▸ Heap.get?_push_of_some _ e))
  have hacc : h₁.get? s₂.heap.objs.size = some (LCg.lst []) := hsb₁.extBut _ _ hDC (Heap.get?_push_of_some _ (hH2 ▸ Heap.get?_push_size _ rfl))
  have fresh₀ : ∀ a, s₂.heap.objs.size ≤ a → h₀.get? a = none := fun a ha => by
    cases e : h₀.get? a with
    | none => rfl
    | some o' => exact absurd (Heap.lt_size (F.keep a o' e)) (Nat.not_lt.mpr ha)
  have hD₀ : h₀.get? s₂.heap.objs.size = none := fresh₀ _ (Nat.le_refl _)
  have hC₀ : h₀.get? H2.objs.size = none := fresh₀ _ (by rw [hC]; exact Nat.le_succ _)
  have hLlt : L < s₂.heap.objs.size := F.ns.lt
  have hDL : s₂.heap.objs.size ≠ L := Ne.symm (below L hLlt).2
  have hCL : H2.objs.size ≠ L := Ne.symm (below L hLlt).1
  have hCI : I ≠ H2.objs.size := (below I hIs).1
  have hDI : I ≠ s₂.heap.objs.size := (below I hIs).2
  have offC : ∀ p ∈ news, p.1 ≠ H2.objs.size := fun p hp => (below _ (Heap.lt_size (N p hp).1)).1
  have offD : ∀ p ∈ news, p.1 ≠ s₂.heap.objs.size := fun p hp => (below _ (Heap.lt_size (N p hp).1)).2
  have haI : ax ≠ I := off _ hm
  have isl : ∀ h, News h₀ L h news → h.IsList ax rv.toArray := fun h N' => ⟨_, (N' _ hm).1, rfl, _, rfl⟩
  have W := Walks.list (prog := prog) (w := w) hh I ax haI rv.toArray
  have hn : rv.toArray.size = rv.length := List.size_toArray
  have loop : ∀ s₃ : Shared, s₃ = { s₂ with heap := h₁, toks := s₂.toks + ([] : List (Str × Value)).length } →
      codeAny (model prog w) A (.compLoop (.ListComp elt [⟨.Tuple [.Name a pa, .Name b pb] kk tp, iter, [ct], 0⟩] scope pos) 0 (.ref I) (.ref s₂.heap.objs.size) (compEnvC scope cl H2.objs.size env))
        (RR (.ref s₂.heap.objs.size) H2.objs.size) s₃ := by
    rintro s₃ rfl
    refine kct_loop
      (fun k s' => ∃ h' tk i ys m', s' = { s₂ with heap := h', toks := tk } ∧ i ≤ rv.length ∧ k = rv.length + 1 - i ∧ ys.length ≤ i ∧ h'.IsListIter I ax i ∧ Fr h₀ L h' m ∧ h'.Ns H2.objs.size m' ∧ News h₀ L h' ((s₂.heap.objs.size, LCg.lst ys) :: news) ∧ IntsAre ys (picked (rs.take i) pr)) ?_ (rv.length + 1)
      ⟨h₁, _, 0, [], _, rfl, Nat.zero_le _, rfl, Nat.le_refl _, hit.at fun o e => old _ o e, F.keeps old, hns₁, fun p hp => ?_, .nil⟩
    · rintro k s' ⟨h', tk, i, ys, m', rfl, hi, rfl, hyl, hst', F', hn', N', hys⟩
      have Nn : News h₀ L h' news := fun p hp => N' p (List.mem_cons_of_mem _ hp)
      by_cases hlt : i < rv.length
      · refine W.item i _ _ _ (by rw [hn]; exact hlt) ⟨hst', isl _ Nn⟩ fun v h₂ tk₂ hPv hst₂ hk₂ => ?_
        have hv : rv[i]? = some v := by simpa using hPv
        obtain ⟨p1, p2, t, ta, tb, hrs, rfl, hmt⟩ := hp.get hv
        have N₂ : News h₀ L h₂ ((s₂.heap.objs.size, LCg.lst ys) :: news) := LCg.news_but N' hk₂ fun p hp => by
          rcases List.mem_cons.mp hp with rfl | hp
          · exact Ne.symm hDI
          · exact off p hp
        have ht : h₂.IsTuple t #[.int p1 ta, .int p2 tb] := ⟨_, (N₂ _ (List.mem_cons_of_mem _ (htl _ hmt))).1, rfl, _, rfl⟩
        refine wpAny_letOwnedTupleGo_listiter hst₂.1 ?_
        refine kcp_assign hh ht (lookup_relabel_local hx) (lookup_relabel_local hx₂) (by simp [compEnvC, relabel, hkind]) (hn'.at' fun o e => hk₂ _ o (by simpa using Ne.symm hCI) e) fun h₃ tk₃ hn₃ hk₃ => ?_
        have old3 : ∀ b o, b ≠ H2.objs.size → h₂.get? b = some o → h₃.get? b = some o := hk₃
        obtain ⟨oC, heC, hoC⟩ := LCg.ns_obj hn₃
        have F₂ : Fr h₀ L h₂ m := LCg.fr_but F' hk₂ hIL hI₀
        have F₃ : Fr h₀ L h₃ m := ⟨F₂.ns.at' fun o e => old3 _ o (Ne.symm hCL) e, fun b o e => old3 b o (fun q => by rw [q, hC₀] at e; cases e) (F₂.keep b o e), F₂.above⟩
        have N₃ : News h₀ L h₃ ((s₂.heap.objs.size, LCg.lst ys) :: news) := fun p hp => by
          have z := N₂ p hp
          refine ⟨old3 _ _ ?_ z.1, z.2⟩
          rcases List.mem_cons.mp hp with rfl | hp
          · exact hDC
          · exact offC p hp
        have N₃' : News h₀ L h₃ ((H2.objs.size, oC) :: news) := fun p hp => by
          rcases List.mem_cons.mp hp with rfl | hp
          · exact ⟨heC, hCL, hC₀⟩
          · exact N₃ p (List.mem_cons_of_mem _ hp)
        have it₃ : h₃.IsListIter I ax (i + 1) := hst₂.1.at fun o e => old3 _ o hCI e
        have ea : (fun z : Str => if z = b then some (Value.int p2 tb) else if z = a then some (.int p1 ta) else m' z) a = some (.int p1 ta) := by simp [hxx]
        have eb : (fun z : Str => if z = b then some (Value.int p2 tb) else if z = a then some (.int p1 ta) else m' z) b = some (.int p2 tb) := by simp
        refine test p1 p2 ta tb _ oC _ h₃ tk₃ _ _ hoC ea eb F₃ N₃' fun tk₄ => ?_
        have hpk := picked_snoc (pr := pr) hrs
        cases hpr : pr p1 p2 with
        | false =>
          rw [hpr, if_neg Bool.false_ne_true, List.append_nil] at hpk
          rw [if_neg Bool.false_ne_true]
          exact ⟨rv.length + 1 - (i + 1), by omega, h₃, tk₄, i + 1, ys, _, rfl, hlt, rfl, Nat.le_succ_of_le hyl, it₃, F₃, hn₃, N₃, hpk ▸ hys⟩
        | true =>
          rw [hpr, if_pos rfl] at hpk
          rw [if_pos rfl]
          refine hand p1 p2 ta tb _ oC _ h₃ tk₄ _ _ hoC ea eb F₃ N₃' fun tk₅ => ?_
          refine append_at (hsz := by show ys.toArray.size ≤ sizeLine; rw [List.size_toArray]; exact Nat.le_trans hyl (Nat.le_trans hi hsz)) (N₃ _ List.mem_cons_self).1 fun h₅ hs₅ hD₅ => ?_
          refine ⟨rv.length + 1 - (i + 1), by omega, h₅, tk₅, i + 1, ys ++ [.int p1 ta], _, rfl, hlt, rfl, by rw [List.length_append, List.length_singleton]; omega, it₃.at fun o e => hs₅.extBut _ o hDI e, F₃.change hs₅ hDL hD₀, hn₃.sameBut hs₅ (Ne.symm hDC), fun p hp => ?_, by rw [hpk]; exact ints_snoc hys⟩
          rcases List.mem_cons.mp hp with rfl | hp
          · exact ⟨hD₅.trans (congrArg some (LCg.lst_snoc ys _)), hDL, hD₀⟩
          · exact ⟨hs₅.extBut _ _ (offD p hp) (N₃ p (List.mem_cons_of_mem _ hp)).1, (N₃ p (List.mem_cons_of_mem _ hp)).2⟩
      · obtain rfl : i = rv.length := Nat.le_antisymm hi (Nat.not_lt.mp hlt)
        refine W.done _ _ _ (by rw [hn]; exact ⟨hst', isl _ Nn⟩) fun h₂ tk₂ hk₂ => ?_
        rw [hp.len, List.take_length] at hys
        exact hRR _ _ h₂ tk₂ _ ys (LCg.fr_but F' hk₂ hIL hI₀) (LCg.news_but N' hk₂ fun p hp => by
          rcases List.mem_cons.mp hp with rfl | hp
          · exact Ne.symm hDI
          · exact off p hp) (hn'.at' fun o e => hk₂ _ o (by simpa using Ne.symm hCI) e) hC₀ hD₀ hCL hDL (Ne.symm hDC) offC offD hys
    · rcases List.mem_cons.mp hp with rfl | hp
      · exact ⟨hacc, hDL, hD₀⟩
      · exact ⟨old _ _ (N p hp).1, (N p hp).2⟩
  have Nn₁ : News h₀ L h₁ news := fun p hp => ⟨old _ _ (N p hp).1, (N p hp).2⟩
  exact codeAny_compStart_list (loop _ rfl) (W.self 0 _ _ _ ⟨hit.at fun o e => old _ o e, isl _ Nn₁⟩ (loop _ rfl))
end
noncomputable def FinP (h₀ : Heap) (L : Addr) (m : Str → Option Value) (y : Str) (Q : Flow → Shared → Prop) (s : Shared) (ys : List Value) (l : List Int) (news : List (Addr × Obj)) : Prop :=
  ∀ D h tk, Fr h₀ L h (fun z => if z = y then some (.ref D) else m z) → News h₀ L h ((D, LCg.lst ys) :: news) → (∀ p ∈ news, p.1 ≠ D) → IntsAre ys l → Q .next { s with heap := h, toks := tk }
section
variable {prog : Program} {w : World} {A : Around} {E : Value → Shared → Prop} {s : Shared} {h₀ : Heap} {L : Addr} {m : Str → Option Value} {env : Env}
theorem Assign_pick {ct elt iter : PySem.Expr} {a b y : Str} {pa pb tp py : Pos} {kk : Nat} {scope : Scope} {cl : List (Str × Addr)} {pos spos : Pos} {Q : Flow → Shared → Prop} (hF0 : Fr h₀ L s.heap m) (hLe : env.locals = L)
    (hsw : swapsWith (.ListComp elt [⟨.Tuple [.Name a pa, .Name b pb] kk tp, iter, [ct], 0⟩] scope pos) (some (.Name y py)) spos.line env = pure true)
    (hclos : closureFor scope env = pure cl) (hcell : ∀ z ∈ scope.names, z.2 ≠ .cell) (hkind : scope.kind = .function)
    (hnames : ∀ z ∈ scope.names, z.2 = .local → scope.names.lookup z.1 = some .local) (hx : scope.names.lookup a = some .local) (hx₂ : scope.names.lookup b = some .local) (hxx : a ≠ b)
    (hy : env.kindOf y = some .local) (hp : (env.scope.kind == .class || (env.scope.kind == .module && env.locals != env.globals)) = false)
    (h : wpAny (model prog w) A (eval iter env) (PickSrc prog w A h₀ L m env ct elt a b scope cl (FinP h₀ L m y Q)) E s)
    (hs : ∀ x, foldedSetIterable iter env x = pure x := by intro _; rfl) :
    wpAny (model prog w) A (exec (.Assign [.Name y py] (.ListComp elt [⟨.Tuple [.Name a pa, .Name b pb] kk tp, iter, [ct], 0⟩] scope pos) spos) env) Q E s := by
  subst hLe
  rw [exec_Assign_Name_used _ _ _ _ hsw]
  refine wpAny_bind (wpAny_standAt (wpAny_bind ?_))
  show wpAny _ A (do let _ ← comprehension (.ListComp elt [⟨.Tuple [.Name a pa, .Name b pb] kk tp, iter, [ct], 0⟩] scope pos) scope env _ (newList []) false (eval iter env) (some (assign (.Name y py) env))) _ _ s
  refine wpAny_bind (wpAny_mono (wpAny_comprehension_free (use := some (assign (.Name y py) env)) (Q := fun _ s' => Q .next s') rfl hs hclos hkind hnames
    (wpAny_mono h (fun xv s₁ h₁ => ?_) fun _ _ e => e)) (fun _ s' hq => wpAny_pure (wpAny_pure hq)) fun _ _ e => e)
  obtain ⟨ax, rv, nr, tl, news, rs, pr, rfl, hh, F, N, hm, hpr, htl, hsz, test, hand, fin⟩ := h₁
  have hl : s₁.heap.IsList ax rv.toArray := ⟨_, (N _ hm).1, rfl, _, rfl⟩
  refine wpAny_pyIter_list hl ?_
  have up : ∀ b o, s₁.heap.get? b = some o → (s₁.heap.push { cls := .type "list_iterator", data := .fields #[.ref ax, .int 0 0] }).get? b = some o := fun b o e => Heap.get?_push_of_some _ e
  refine pick_block hh hcell hkind hx hx₂ hxx ⟨_, Heap.get?_push_size _ rfl, rfl, rfl⟩ hm hpr htl hsz (F.keeps up) (N.grown up) (Nat.ne_of_lt F.ns.lt) (next_is_new F) (by rw [Heap.size_push]; exact Nat.lt_succ_self _) (fun p hp => Nat.ne_of_lt (Heap.lt_size (N p hp).1)) test hand ?_
  intro D C h' tk m' ys F' N' hn hC₀ hD₀ hCL hDL hCD offC offD hys
  show wpAny _ A (assign (.Name y py) env (.ref D)) _ _ _
  refine wpAny_assign_Name (wpAny_storeName_local hy F'.ns (fun h₂ hn₂ hs₂ => ?_) hp)
  have hL₀ : h₀.get? env.locals = none := Heap.get?_none_of_le F'.above
  have F₂ : Fr h₀ env.locals h₂ (fun z => if z = y then some (.ref D) else m z) := ⟨hn₂, fun b o e => hs₂.extBut b o (fun q => by rw [q, hL₀] at e; cases e) (F'.keep b o e), F'.above⟩
  refine ⟨m', hn.sameBut hs₂ hCL, fun h'' hs'' => fin s₁.heap ys hys D h'' _ (F₂.change hs'' hCL hC₀) (fun p hp => ?_) offD hys⟩
  have z : h₂.get? p.1 = some p.2 := hs₂.extBut _ _ (N' p hp).2.1 (N' p hp).1
  refine ⟨hs''.extBut _ _ ?_ z, (N' p hp).2⟩
  rcases List.mem_cons.mp hp with rfl | hp
  · exact Ne.symm hCD
  · exact offC p hp
end
theorem PickSrc.intro {prog : Program} {w : World} {A : Around} {h₀ : Heap} {L : Addr} {m : Str → Option Value} {env : Env} {ct elt : PySem.Expr} {a b : Str} {scope : Scope} {cl : List (Str × Addr)} {Fin : Shared → List Value → List Int → List (Addr × Obj) → Prop} {s₁ : Shared}
    {ax : Addr} {rv : List Value} {nr : Nat} {tl news : List (Addr × Obj)} {rs : List (Int × Int)} (pr : Int → Int → Bool) (hh : A.handled = none) (F : Fr h₀ L s₁.heap m) (N : News h₀ L s₁.heap news) (hm : (ax, listOf rv.toArray nr) ∈ news) (hp : PairsIn tl rv rs) (htl : ∀ q ∈ tl, q ∈ news) (hsz : rv.length ≤ sizeLine)
    (test : ∀ (p1 p2 : Int) (ta tb : Tok) (C : Addr) (oC : Obj) (m₂ : Str → Option Value) (h : Heap) (tk : Nat) (Q' : Bool → Shared → Prop) (E' : Value → Shared → Prop), LCg.NsObj oC m₂ → m₂ a = some (.int p1 ta) → m₂ b = some (.int p2 tb) → Fr h₀ L h m → News h₀ L h ((C, oC) :: news) →
      (∀ tk', Q' (pr p1 p2) { s₁ with heap := h, toks := tk' }) → wpAny (model prog w) A (isTrue ct (compEnvC scope cl C env) (eval ct (compEnvC scope cl C env))) Q' E' { s₁ with heap := h, toks := tk })
    (hand : ∀ (p1 p2 : Int) (ta tb : Tok) (C : Addr) (oC : Obj) (m₂ : Str → Option Value) (h : Heap) (tk : Nat) (Q' : Value → Shared → Prop) (E' : Value → Shared → Prop), LCg.NsObj oC m₂ → m₂ a = some (.int p1 ta) → m₂ b = some (.int p2 tb) → Fr h₀ L h m → News h₀ L h ((C, oC) :: news) →
      (∀ tk', Q' (.int p1 ta) { s₁ with heap := h, toks := tk' }) → wpAny (model prog w) A (eval elt (compEnvC scope cl C env)) Q' E' { s₁ with heap := h, toks := tk })
    (fin : ∀ (g : Heap) (ys : List Value), IntsAre ys (picked rs pr) → Fin { s₁ with heap := g } ys (picked rs pr) news) :
    PickSrc prog w A h₀ L m env ct elt a b scope cl Fin (.ref ax) s₁ := ⟨ax, rv, nr, tl, news, rs, pr, rfl, hh, F, N, hm, hp, htl, hsz, test, hand, fin⟩
theorem news_rot {h₀ h : Heap} {L : Addr} {a b c d e f g : Addr × Obj} {tl : List (Addr × Obj)} (N : News h₀ L h (a :: b :: c :: d :: e :: f :: g :: tl)) : News h₀ L h (f :: a :: b :: c :: d :: e :: g :: tl) :=
  news_sub N fun q hq => by
    simp only [List.mem_cons] at hq ⊢
    rcases hq with h | h | h | h | h | h | h | h <;> simp only [h, true_or, or_true]
theorem law_plain2 {cells : List Int} {st' : St} {x tail T1 T : Str} {e : Nat} (hG : partF (gen cells 4).1 3 ⟨0, 6, [], []⟩ = (x, st')) (h1 : T1 = Str.ofString "\"\\(" ++ x) (h2 : T = T1 ++ tail) (hel : e ≤ T.length) :
    ∀ p ∈ st'.pairs, 3 ≤ p.1 ∧ p.1 ≤ p.2 ∧ p.2 < (T.length : Int) ∧ toldOf (innerEnd T e p.1.toNat) = dueOf st' e p := law_plain (st := ⟨0, 6, [], []⟩) rfl rfl hG (by rw [h2, h1]) e
theorem PickSrc.law {prog : Program} {w : World} {A : Around} {h₀ : Heap} {L : Addr} {m : Str → Option Value} {env : Env} {ct elt : PySem.Expr} {a b : Str} {scope : Scope} {cl : List (Str × Addr)} {Fin : Shared → List Value → List Int → List (Addr × Obj) → Prop} {s₁ : Shared}
    {ax : Addr} {rv : List Value} {nr : Nat} {tl news : List (Addr × Obj)} {rs : List (Int × Int)} (p1 : Int) {e : Nat} (he3 : 3 ≤ e) (hh : A.handled = none) (F : Fr h₀ L s₁.heap m) (N : News h₀ L s₁.heap news) (hm : (ax, listOf rv.toArray nr) ∈ news) (hp : PairsIn tl rv rs) (htl : ∀ q ∈ tl, q ∈ news) (hsz : rv.length ≤ sizeLine)
    (test : ∀ (q1 q2 : Int) (ta tb : Tok) (C : Addr) (oC : Obj) (m₂ : Str → Option Value) (h : Heap) (tk : Nat) (Q' : Bool → Shared → Prop) (E' : Value → Shared → Prop), LCg.NsObj oC m₂ → m₂ a = some (.int q1 ta) → m₂ b = some (.int q2 tb) → Fr h₀ L h m → News h₀ L h ((C, oC) :: news) →
      (∀ tk', Q' (decide (p1 ≤ q1 ∧ q1 < (e : Int) ∧ (e : Int) < q2)) { s₁ with heap := h, toks := tk' }) → wpAny (model prog w) A (isTrue ct (compEnvC scope cl C env) (eval ct (compEnvC scope cl C env))) Q' E' { s₁ with heap := h, toks := tk })
    (hand : ∀ (p1 p2 : Int) (ta tb : Tok) (C : Addr) (oC : Obj) (m₂ : Str → Option Value) (h : Heap) (tk : Nat) (Q' : Value → Shared → Prop) (E' : Value → Shared → Prop), LCg.NsObj oC m₂ → m₂ a = some (.int p1 ta) → m₂ b = some (.int p2 tb) → Fr h₀ L h m → News h₀ L h ((C, oC) :: news) →
      (∀ tk', Q' (.int p1 ta) { s₁ with heap := h, toks := tk' }) → wpAny (model prog w) A (eval elt (compEnvC scope cl C env)) Q' E' { s₁ with heap := h, toks := tk })
    (fin : ∀ (g : Heap) (ys : List Value) (l : List Int), l = ((rs.filter fun r => decide (p1 ≤ r.1 ∧ r.1 < (e : Int) ∧ (e : Int) < r.2)).map (·.1)) → l.length ≤ rv.length → IntsAre ys l → Fin { s₁ with heap := g } ys l news) :
    PickSrc prog w A h₀ L m env ct elt a b scope cl Fin (.ref ax) s₁ := PickSrc.intro (fun q1 q2 => decide (p1 ≤ q1 ∧ q1 < (e : Int) ∧ (e : Int) < q2)) hh F N hm hp htl hsz test hand fun g ys h => fin g ys _ rfl (by
    rw [List.length_map, hp.len]
    exact List.length_filter_le _ _) h
theorem ints_item0 {prog : Program} {w : World} {A : Around} {E : Value → Shared → Prop} {s : Shared} {value slice : PySem.Expr} {h₀ : Heap} {L D : Addr} {u : Tok} {Q : Value → Shared → Prop} {news : List (Addr × Obj)} {us : List Value} {l : List Int} {p : Int} {n : Nat}
    (N : News h₀ L s.heap news) (hm : (D, listOf us.toArray n) ∈ news) (hI : IntsAre us (l ++ [p])) (h : ∀ z t, z = (l ++ [p]).getD 0 0 → Q (.int z t) s)
    (hs : subscripted slice false (.ref D) (.int 0 u) = operate [.ref D, .int 0 u] (getItem (.ref D) (.int 0 u)) := by with_unfolding_all rfl) :
    wpAny (model prog w) A (subscriptTail value slice (.ref D) (.int 0 u)) Q E s := by
  have hl : s.heap.IsList D us.toArray := ⟨_, (N _ hm).1, rfl, _, rfl⟩
  obtain ⟨z, r, e⟩ : ∃ z r, l ++ [p] = z :: r := by cases l with | nil => exact ⟨_, _, rfl⟩ | cons a l => exact ⟨_, _, rfl⟩
  rw [e] at hI h
  obtain ⟨t, us', rfl, _⟩ := hI.cons_inv
  exact tail_any hl.typeIs slot_list_getitem.lookup (wpAny_getItem_list hl (by decide) (by decide) (by simp) (h z t rfl)) hs
theorem and3_dec {a b c : Prop} [Decidable a] [Decidable b] [Decidable c] (ha : a) (hb : b) : decide (a ∧ b ∧ c) = decide c := by simp [ha, hb]
theorem and3_f1 {a b c : Prop} [Decidable a] [Decidable b] [Decidable c] (ha : ¬ a) : decide (a ∧ b ∧ c) = false := by simp [ha]
theorem and3_f2 {a b c : Prop} [Decidable a] [Decidable b] [Decidable c] (hb : ¬ b) : decide (a ∧ b ∧ c) = false := by simp [hb]
section
variable {h₀ h : Heap} {L : Addr} {t s1 s2 D I c x y : Addr × Obj} {R : List (Addr × Obj)}
theorem news_due1 (N : News h₀ L h (t :: D :: I :: c :: x :: y :: R)) : News h₀ L h (x :: y :: t :: I :: c :: R) := news_sub N fun q hq => by
  simp only [List.mem_cons] at hq ⊢
  rcases hq with h | h | h | h | h | h <;> simp only [h, true_or, or_true]
theorem news_due2 (N : News h₀ L h (t :: s1 :: s2 :: D :: I :: c :: x :: y :: R)) : News h₀ L h (x :: y :: t :: I :: c :: R) := news_sub N fun q hq => by
  simp only [List.mem_cons] at hq ⊢
  rcases hq with h | h | h | h | h | h <;> simp only [h, true_or, or_true]
end
section
variable {w : World} {A : Around} {E : Value → Shared → Prop} {s : Shared} {h₀ : Heap} {L a : Addr} {m : Str → Option Value} {news : List (Addr × Obj)} {cn : Str} {cs : Scope} {ccd : Value} {cl : List (Str × Addr)}
theorem spot_attrN {e D : Addr} {oe : Obj} {vs : Array Value} {what : Str} {tt tb k1 k2 : Tok} {b : Int} {expr : Bool} {Q : Value → Shared → Prop} (F : Fr h₀ L s.heap m) (X₀ : (KK w.params).In h₀) (N : News h₀ L s.heap news)
    (h1 : (e, oe) ∈ news) (h2 : (D, excD w what tt b tb k1 k2) ∈ news) (hc : oe.cls = .ref 81) (hD : oe.dict = some D) (hd : oe.data = .fields vs)
    (hq : ∀ tk, Q (.int b tb) { s with toks := tk }) : wpAny (model PG w) A (getAttr (.ref e) "spot" expr) Q E s :=
  spot_attr (X₀.keeps F.keep) (N _ h1).1 hc hd hD (N _ h2).1 (hq _)
theorem unbindX {M : Model} {n : Str} {pos : Pos} {Q : Unit → Shared → Prop} (F : Fr h₀ L s.heap m) (N : News h₀ L s.heap news)
    (h : ∀ h' v, Fr h₀ L h' (fun x => if x = n then v else m x) → News h₀ L h' news → Q () { s with heap := h', toks := s.toks + 1 })
    (hk : cs.kind = .function := by rfl) (hl : (envX cn cs L a ccd cl).kindOf n = some .local := by rfl) :
    wpAny M A (do bindName (envX cn cs L a ccd cl) n .none; unbindBehindTheSuite (envX cn cs L a ccd cl) n pos) Q E s :=
  wpAny_nameGoes_keeps hl F.ns (by show (cs.kind == .class || (cs.kind == .module && L != mainGlobals)) = false; rw [hk]; rfl) fun h' v hn hs => h h' v (F.set hn hs) (N.set hs)
end
section
variable {T : Str} {e b n : Nat} {st : St} {p : Int × Int} {z : Int} {l : List Int}
theorem due_close (h : toldOf (innerEnd T e b) = dueOf st e p) (hp : p.2 < (e : Int)) (hc : innerEnd T e b = .close n) : (n : Int) = p.2 := by
  rw [hc] at h
  unfold toldOf dueOf at h
  rw [if_pos hp] at h
  exact (Prod.mk.inj h).2
theorem due_close_no (h : toldOf (innerEnd T e b) = dueOf st e p) (hp : p.2 < (e : Int)) (hc : innerEnd T e b = .fault n) : False := by
  rw [hc] at h
  unfold toldOf dueOf at h
  rw [if_pos hp] at h
  exact absurd (Prod.mk.inj h).1 (by decide)
theorem due_fault_no (h : toldOf (innerEnd T e b) = dueOf st e p) (hp : ¬ p.2 < (e : Int)) (hc : innerEnd T e b = .close n) : False := by
  rw [hc] at h
  unfold toldOf dueOf at h
  rw [if_neg hp] at h
  exact absurd (Prod.mk.inj h).1 (by decide)
theorem due_fault (h : toldOf (innerEnd T e b) = dueOf st e p) (hp : ¬ p.2 < (e : Int)) (hc : innerEnd T e b = .fault n) (hz : z = (l ++ [p.1]).getD 0 0)
    (hl : l = (st.remarks.filter fun r => decide (p.1 ≤ r.1 ∧ r.1 < (e : Int) ∧ (e : Int) < r.2)).map (·.1)) : (n : Int) = z := by
  rw [hc] at h
  unfold toldOf dueOf at h
  rw [if_neg hp] at h
  rw [hz, hl]
  exact (Prod.mk.inj h).2
end
theorem turn_end {h₀ : Heap} {L cF I d x : Addr} {rest news : List (Addr × Obj)} {it oF' : Obj} {vF' : Option Value} {T : Str} {tT : Tok} {Q : Flow → Shared → Prop} {s₁ : Shared} {h' : Heap} {tk : Nat} {m' : Str → Option Value}
    (F : Fr h₀ L h' m') (N : News h₀ L h' news) (hI : (I, it) ∈ news) (hc : (cF, oF') ∈ news) (hr : ∀ q ∈ rest, q ∈ news) (ho : oF'.data = .cell vF') (h1 : m' "feed" = some (.ref d)) (h2 : m' "scanner" = some (.ref x)) (h3 : m' "text" = some (.str T tT)) :
    TurnPost h₀ L cF rest I it d x T tT Q s₁ .next { s₁ with heap := h', toks := tk } :=
  ⟨h', tk, m', oF', vF', rfl, F, news_sub N fun q hq => by
    rcases List.mem_cons.mp hq with rfl | hq
    · exact hI
    · rcases List.mem_cons.mp hq with rfl | hq
      · exact hc
      · exact hr q hq, ho, h1, h2, h3⟩
/-! the head of the law: the module's text is run in groups of statements, with the state between two groups written out -/
noncomputable abbrev HP : Program := PySem.Challenge.rw_pq0371_01.row.toRowW.prog
noncomputable def hEnv : Env := { scope := HP.main.scope, locals := mainNs, globals := mainNs, cells := [], code := Value.ref 13, frame := some 14 }
noncomputable abbrev hC : Code := Code.body (behindTheImports HP) hEnv
noncomputable abbrev p0 : Pos := ⟨0, 0, 0, 0⟩
noncomputable abbrev SH (h : Heap) (k : Nat) (os : OsState) : Shared := ⟨h, ⟨[]⟩, {}, k, os⟩
noncomputable abbrev ST (t : BT) (n k : Nat) (os : OsState) : SharedT := ⟨t, n, {}, ⟨[]⟩, {}, k, os⟩
noncomputable def sa : List Stmt := [st 0, st 1]
noncomputable def sb : List Stmt := [st 2]
noncomputable def sc3 : List Stmt := [st 3, st 4, st 5, st 6, st 7, st 8, st 9, st 10, st 11, st 12]
noncomputable def sd : List Stmt := [st 13]
noncomputable def se : List Stmt := [st 14, st 15, st 16, st 17, st 18, st 19, st 20, st 21, st 22, st 23]
noncomputable def vw : Program := { HP with main := { HP.main with body := [st 1, st 2, st 3, st 5, st 6, st 7, st 8, st 9, st 10, st 11, st 12, st 13, st 15, st 16, st 17, st 18, st 19, st 20, st 21, st 22, st 23] } }
theorem body_is : behindTheImports HP = sa ++ (sb ++ (sc3 ++ (sd ++ (se ++ [])))) := by kernel_rfl
noncomputable abbrev b43 (P : Params) : Obj := (Obj.mk (Value.type "tuple") none (Data.seq (List.toArray ([])) 0) (List.toArray ([])))
noncomputable abbrev b44 (P : Params) : Obj := (Obj.mk Value.none none (Data.fields (List.toArray ([]))) (List.toArray ([])))
noncomputable abbrev b45 (P : Params) : Obj := (Obj.mk (Value.type "code") none (Data.fields (List.toArray ((Value.str (Str.ofString "<module>") 182) :: (Value.str (Str.ofString "<module>") 183) :: (Value.str (Str.ofString "/claim/cut.py") 184) :: (Value.int 1 0) :: (Value.int 0 0) :: (Value.int 0 0) :: (Value.int 0 0) :: (Value.int 0 0) :: (Value.ref 11) :: (Value.bool Bool.false) :: (Value.int 181 0) :: (Value.ref 12) :: Value.none :: Value.none :: Value.none :: Value.none :: (Value.int 185 0) :: (Value.int 1 0) :: (Value.str (Str.ofString "/claim/cut.py") 186) :: []))) (List.toArray ([])))
noncomputable abbrev b46 (P : Params) : Obj := (Obj.mk (Value.type "frame") none Data.plain (List.toArray ((some (Value.ref 13)) :: (some (Value.ref 3)) :: (some (Value.ref 3)) :: none :: (some (Value.str (Str.ofString "__main__") 164)) :: none :: (some (Value.ref 0)) :: [])))
noncomputable abbrev b50 (P : Params) : Obj := (Obj.mk (Value.type "dict") none (Data.dict (List.toArray ((DictEntry.mk (PyData.keyHash P (Str.ofString "__name__")) (Value.str (Str.ofString "__name__") 165) (Value.str (Str.ofString "fdsolve.errors") 187)) :: (DictEntry.mk (PyData.keyHash P (Str.ofString "__doc__")) (Value.str (Str.ofString "__doc__") 166) Value.none) :: (DictEntry.mk (PyData.keyHash P (Str.ofString "__package__")) (Value.str (Str.ofString "__package__") 167) Value.none) :: (DictEntry.mk (PyData.keyHash P (Str.ofString "__loader__")) (Value.str (Str.ofString "__loader__") 168) (Value.builtin "__main__.__loader__#opaque")) :: (DictEntry.mk (PyData.keyHash P (Str.ofString "__spec__")) (Value.str (Str.ofString "__spec__") 169) Value.none) :: (DictEntry.mk (PyData.keyHash P (Str.ofString "__annotations__")) (Value.str (Str.ofString "__annotations__") 170) (Value.ref 6)) :: (DictEntry.mk (PyData.keyHash P (Str.ofString "__builtins__")) (Value.str (Str.ofString "__builtins__") 171) (Value.ref 4)) :: (DictEntry.mk (PyData.keyHash P (Str.ofString "__file__")) (Value.str (Str.ofString "__file__") 173) (Value.str (Str.ofString "/claim/cut.py") 172)) :: (DictEntry.mk (PyData.keyHash P (Str.ofString "__cached__")) (Value.str (Str.ofString "__cached__") 174) Value.none) :: (DictEntry.mk (PyData.keyHash P (Str.ofString "FdError")) (Value.str (Str.ofString "FdError") 226) (Value.ref 40)) :: [])) 10) (List.toArray ([])))
noncomputable abbrev b51 (P : Params) : Obj := (Obj.mk Value.none none (Data.fields (List.toArray ((Value.int 2 0) :: (Value.int 0 0) :: (Value.ref 21) :: []))) (List.toArray ([])))
noncomputable abbrev b53 (P : Params) : Obj := (Obj.mk (Value.type "builtin_function_or_method") none (Data.fields (List.toArray ((Value.builtin "type.__prepare__") :: (Value.type "type") :: []))) (List.toArray ([])))
noncomputable abbrev b54 (P : Params) : Obj := (Obj.mk (Value.type "dict") none (Data.dict (List.toArray ((DictEntry.mk (PyData.keyHash P (Str.ofString "__module__")) (Value.str (Str.ofString "__module__") 196) (Value.str (Str.ofString "fdsolve.errors") 187)) :: (DictEntry.mk (PyData.keyHash P (Str.ofString "__qualname__")) (Value.str (Str.ofString "__qualname__") 198) (Value.str (Str.ofString "FdError") 197)) :: (DictEntry.mk (PyData.keyHash P (Str.ofString "__firstlineno__")) (Value.str (Str.ofString "__firstlineno__") 200) (Value.int 2 199)) :: (DictEntry.mk (PyData.keyHash P (Str.ofString "__init__")) (Value.str (Str.ofString "__init__") 209) (Value.ref 30)) :: (DictEntry.mk (PyData.keyHash P (Str.ofString "told")) (Value.str (Str.ofString "told") 216) (Value.ref 37)) :: (DictEntry.mk (PyData.keyHash P (Str.ofString "__static_attributes__")) (Value.str (Str.ofString "__static_attributes__") 218) (Value.ref 38)) :: (DictEntry.mk (PyData.keyHash P (Str.ofString "__classcell__")) (Value.str (Str.ofString "__classcell__") 219) (Value.ref 18)) :: [])) 7) (List.toArray ([])))
noncomputable abbrev b56 (P : Params) : Obj := (Obj.mk (Value.type "tuple") none (Data.seq (List.toArray ([])) 0) (List.toArray ([])))
noncomputable abbrev b57 (P : Params) : Obj := (Obj.mk Value.none none (Data.fields (List.toArray ((Value.int 4 0) :: (Value.int 4 0) :: (Value.ref 29) :: (Value.int 8 0) :: (Value.int 4 0) :: (Value.ref 36) :: []))) (List.toArray ([])))
noncomputable abbrev b58 (P : Params) : Obj := (Obj.mk (Value.type "code") none (Data.fields (List.toArray ((Value.str (Str.ofString "FdError") 191) :: (Value.str (Str.ofString "FdError") 192) :: (Value.str (Str.ofString "/claim/cut.py") 193) :: (Value.int 2 0) :: (Value.int 0 0) :: (Value.int 0 0) :: (Value.int 0 0) :: (Value.int 0 0) :: (Value.ref 19) :: (Value.bool Bool.false) :: (Value.int 181 0) :: (Value.ref 20) :: Value.none :: Value.none :: Value.none :: Value.none :: (Value.int 194 0) :: (Value.int 2 0) :: (Value.str (Str.ofString "/claim/cut.py") 195) :: []))) (List.toArray ([])))
noncomputable abbrev b59 (P : Params) : Obj := (Obj.mk (Value.type "frame") none Data.plain (List.toArray ((some (Value.ref 21)) :: (some (Value.ref 3)) :: (some (Value.ref 17)) :: none :: (some (Value.str (Str.ofString "fdsolve.errors") 187)) :: none :: (some (Value.ref 0)) :: [])))
noncomputable abbrev b61 (P : Params) : Obj := (Obj.mk (Value.type "tuple") none (Data.seq (List.toArray ((Value.str (Str.ofString "__class__") 204) :: [])) 0) (List.toArray ([])))
noncomputable abbrev b62 (P : Params) : Obj := (Obj.mk Value.none none (Data.fields (List.toArray ([]))) (List.toArray ([])))
noncomputable abbrev b63 (P : Params) : Obj := (Obj.mk (Value.type "tuple") none (Data.seq (List.toArray ((Value.str (Str.ofString "self") 205) :: (Value.str (Str.ofString "what") 206) :: [])) 0) (List.toArray ([])))
noncomputable abbrev b64 (P : Params) : Obj := (Obj.mk (Value.type "tuple") none (Data.seq (List.toArray ([])) 0) (List.toArray ([])))
noncomputable abbrev b65 (P : Params) : Obj := (Obj.mk Value.none none (Data.func (FuncData.mk (Str.ofString "__init__") (Str.ofString "FdError.__init__") (fA (st2 1 0)) (FuncBody.stmts (fB (st2 1 0))) (fS (st2 1 0)) 0 ([]) Value.none Value.none Value.none Value.none none Value.none Value.none 0)) (List.toArray ([])))
noncomputable abbrev b68 (P : Params) : Obj := (Obj.mk (Value.type "tuple") none (Data.seq (List.toArray ([])) 0) (List.toArray ([])))
noncomputable abbrev b69 (P : Params) : Obj := (Obj.mk Value.none none (Data.fields (List.toArray ([]))) (List.toArray ([])))
noncomputable abbrev b70 (P : Params) : Obj := (Obj.mk (Value.type "tuple") none (Data.seq (List.toArray ((Value.str (Str.ofString "self") 213) :: [])) 0) (List.toArray ([])))
noncomputable abbrev b71 (P : Params) : Obj := (Obj.mk (Value.type "tuple") none (Data.seq (List.toArray ([])) 0) (List.toArray ([])))
noncomputable abbrev b72 (P : Params) : Obj := (Obj.mk Value.none none (Data.func (FuncData.mk (Str.ofString "told") (Str.ofString "FdError.told") (fA (st2 1 1)) (FuncBody.stmts (fB (st2 1 1))) (fS (st2 1 1)) 0 ([]) Value.none Value.none Value.none Value.none none Value.none Value.none 0)) (List.toArray ([])))
noncomputable abbrev b73 (P : Params) : Obj := (Obj.mk (Value.type "code") none (Data.fields (List.toArray ((Value.str (Str.ofString "told") 210) :: (Value.str (Str.ofString "FdError.told") 211) :: (Value.str (Str.ofString "/claim/cut.py") 212) :: (Value.int 8 0) :: (Value.int 1 0) :: (Value.int 0 0) :: (Value.int 0 0) :: (Value.int 3 0) :: (Value.ref 31) :: (Value.bool Bool.true) :: (Value.int 181 0) :: (Value.ref 32) :: Value.none :: (Value.ref 33) :: (Value.ref 34) :: (Value.ref 35) :: (Value.int 214 0) :: (Value.int 8 0) :: (Value.str (Str.ofString "/claim/cut.py") 215) :: []))) (List.toArray ([])))
noncomputable abbrev b74 (P : Params) : Obj := (Obj.mk (Value.type "function") none (Data.func (FuncData.mk (Str.ofString "told") (Str.ofString "FdError.told") (fA (st2 1 1)) (FuncBody.stmts (fB (st2 1 1))) (fS (st2 1 1)) 3 ([]) Value.none Value.none Value.none (Value.str (Str.ofString "fdsolve.errors") 187) none (Value.ref 36) Value.none 0)) (List.toArray ([])))
noncomputable abbrev b75 (P : Params) : Obj := (Obj.mk (Value.type "tuple") none (Data.seq (List.toArray ((Value.str (Str.ofString "what") 217) :: [])) 0) (List.toArray ([])))
noncomputable abbrev b77 (P : Params) : Obj := (Obj.mk (Value.type "type") none (Data.cls (ClassData.mk (Str.ofString "FdError") ((Value.type "Exception") :: []) ((Value.ref 40) :: (Value.type "Exception") :: (Value.type "BaseException") :: (Value.type "object") :: []) 39 (Str.ofString "FdError") Bool.true ([]) ([]) Bool.false none Bool.false)) (List.toArray ((some (Value.ref 15)) :: none :: (some (Value.str (Str.ofString "FdError") 189)) :: (some (Value.str (Str.ofString "FdError") 197)) :: (some (Value.builtin "Exception.__new__")) :: (some (Value.bool Bool.true)) :: [])))
noncomputable abbrev b78 (P : Params) : Obj := (Obj.mk (Value.type "getset_descriptor") none (Data.fields (List.toArray ((Value.str (Str.ofString "__weakref__") 220) :: (Value.ref 40) :: (Value.builtin "ExceptionGroup.__weakref__") :: Value.none :: []))) (List.toArray ([])))
noncomputable abbrev b79 (P : Params) : Obj := (Obj.mk (Value.type "super") none (Data.fields (List.toArray ((Value.ref 40) :: (Value.ref 40) :: (Value.ref 40) :: []))) (List.toArray ([])))
noncomputable abbrev b80 (P : Params) : Obj := (Obj.mk (Value.type "builtin_function_or_method") none (Data.fields (List.toArray ((Value.builtin "object.__init_subclass__") :: (Value.ref 40) :: []))) (List.toArray ([])))
noncomputable abbrev b81 (P : Params) : Obj := (Obj.mk (Value.type "dict") none (Data.dict (List.toArray ((DictEntry.mk (PyData.keyHash P (Str.ofString "__name__")) (Value.str (Str.ofString "__name__") 165) (Value.str (Str.ofString "fdsolve.errors") 187)) :: (DictEntry.mk (PyData.keyHash P (Str.ofString "__doc__")) (Value.str (Str.ofString "__doc__") 166) Value.none) :: (DictEntry.mk (PyData.keyHash P (Str.ofString "__package__")) (Value.str (Str.ofString "__package__") 167) Value.none) :: (DictEntry.mk (PyData.keyHash P (Str.ofString "__loader__")) (Value.str (Str.ofString "__loader__") 168) (Value.builtin "__main__.__loader__#opaque")) :: (DictEntry.mk (PyData.keyHash P (Str.ofString "__spec__")) (Value.str (Str.ofString "__spec__") 169) Value.none) :: (DictEntry.mk (PyData.keyHash P (Str.ofString "__annotations__")) (Value.str (Str.ofString "__annotations__") 170) (Value.ref 6)) :: (DictEntry.mk (PyData.keyHash P (Str.ofString "__builtins__")) (Value.str (Str.ofString "__builtins__") 171) (Value.ref 4)) :: (DictEntry.mk (PyData.keyHash P (Str.ofString "__file__")) (Value.str (Str.ofString "__file__") 173) (Value.str (Str.ofString "/claim/cut.py") 172)) :: (DictEntry.mk (PyData.keyHash P (Str.ofString "__cached__")) (Value.str (Str.ofString "__cached__") 174) Value.none) :: (DictEntry.mk (PyData.keyHash P (Str.ofString "FdError")) (Value.str (Str.ofString "FdError") 226) (Value.ref 40)) :: (DictEntry.mk (PyData.keyHash P (Str.ofString "SpotFault")) (Value.str (Str.ofString "SpotFault") 261) (Value.ref 69)) :: [])) 11) (List.toArray ([])))
noncomputable abbrev b82 (P : Params) : Obj := (Obj.mk Value.none none (Data.fields (List.toArray ((Value.int 2 0) :: (Value.int 0 0) :: (Value.ref 21) :: (Value.int 10 0) :: (Value.int 0 0) :: (Value.ref 50) :: []))) (List.toArray ([])))
noncomputable abbrev b85 (P : Params) : Obj := (Obj.mk (Value.type "builtin_function_or_method") none (Data.fields (List.toArray ((Value.builtin "type.__prepare__") :: (Value.type "type") :: []))) (List.toArray ([])))
noncomputable abbrev b86 (P : Params) : Obj := (Obj.mk (Value.type "dict") none (Data.dict (List.toArray ((DictEntry.mk (PyData.keyHash P (Str.ofString "__module__")) (Value.str (Str.ofString "__module__") 234) (Value.str (Str.ofString "fdsolve.errors") 187)) :: (DictEntry.mk (PyData.keyHash P (Str.ofString "__qualname__")) (Value.str (Str.ofString "__qualname__") 236) (Value.str (Str.ofString "SpotFault") 235)) :: (DictEntry.mk (PyData.keyHash P (Str.ofString "__firstlineno__")) (Value.str (Str.ofString "__firstlineno__") 238) (Value.int 10 237)) :: (DictEntry.mk (PyData.keyHash P (Str.ofString "__init__")) (Value.str (Str.ofString "__init__") 248) (Value.ref 59)) :: (DictEntry.mk (PyData.keyHash P (Str.ofString "told")) (Value.str (Str.ofString "told") 255) (Value.ref 66)) :: (DictEntry.mk (PyData.keyHash P (Str.ofString "__static_attributes__")) (Value.str (Str.ofString "__static_attributes__") 257) (Value.ref 67)) :: (DictEntry.mk (PyData.keyHash P (Str.ofString "__classcell__")) (Value.str (Str.ofString "__classcell__") 258) (Value.ref 47)) :: [])) 7) (List.toArray ([])))
noncomputable abbrev b88 (P : Params) : Obj := (Obj.mk (Value.type "tuple") none (Data.seq (List.toArray ([])) 0) (List.toArray ([])))
noncomputable abbrev b89 (P : Params) : Obj := (Obj.mk Value.none none (Data.fields (List.toArray ((Value.int 12 0) :: (Value.int 4 0) :: (Value.ref 58) :: (Value.int 16 0) :: (Value.int 4 0) :: (Value.ref 65) :: []))) (List.toArray ([])))
noncomputable abbrev b90 (P : Params) : Obj := (Obj.mk (Value.type "code") none (Data.fields (List.toArray ((Value.str (Str.ofString "SpotFault") 229) :: (Value.str (Str.ofString "SpotFault") 230) :: (Value.str (Str.ofString "/claim/cut.py") 231) :: (Value.int 10 0) :: (Value.int 0 0) :: (Value.int 0 0) :: (Value.int 0 0) :: (Value.int 0 0) :: (Value.ref 48) :: (Value.bool Bool.false) :: (Value.int 181 0) :: (Value.ref 49) :: Value.none :: Value.none :: Value.none :: Value.none :: (Value.int 232 0) :: (Value.int 10 0) :: (Value.str (Str.ofString "/claim/cut.py") 233) :: []))) (List.toArray ([])))
noncomputable abbrev b91 (P : Params) : Obj := (Obj.mk (Value.type "frame") none Data.plain (List.toArray ((some (Value.ref 50)) :: (some (Value.ref 3)) :: (some (Value.ref 46)) :: none :: (some (Value.str (Str.ofString "fdsolve.errors") 187)) :: none :: (some (Value.ref 0)) :: [])))
noncomputable abbrev b93 (P : Params) : Obj := (Obj.mk (Value.type "tuple") none (Data.seq (List.toArray ((Value.str (Str.ofString "__class__") 242) :: [])) 0) (List.toArray ([])))
noncomputable abbrev b94 (P : Params) : Obj := (Obj.mk Value.none none (Data.fields (List.toArray ([]))) (List.toArray ([])))
noncomputable abbrev b95 (P : Params) : Obj := (Obj.mk (Value.type "tuple") none (Data.seq (List.toArray ((Value.str (Str.ofString "self") 243) :: (Value.str (Str.ofString "what") 244) :: (Value.str (Str.ofString "spot") 245) :: [])) 0) (List.toArray ([])))
noncomputable abbrev b96 (P : Params) : Obj := (Obj.mk (Value.type "tuple") none (Data.seq (List.toArray ([])) 0) (List.toArray ([])))
noncomputable abbrev b97 (P : Params) : Obj := (Obj.mk Value.none none (Data.func (FuncData.mk (Str.ofString "__init__") (Str.ofString "SpotFault.__init__") (fA (st2 2 0)) (FuncBody.stmts (fB (st2 2 0))) (fS (st2 2 0)) 0 ([]) Value.none Value.none Value.none Value.none none Value.none Value.none 0)) (List.toArray ([])))
noncomputable abbrev b100 (P : Params) : Obj := (Obj.mk (Value.type "tuple") none (Data.seq (List.toArray ([])) 0) (List.toArray ([])))
noncomputable abbrev b101 (P : Params) : Obj := (Obj.mk Value.none none (Data.fields (List.toArray ([]))) (List.toArray ([])))
noncomputable abbrev b102 (P : Params) : Obj := (Obj.mk (Value.type "tuple") none (Data.seq (List.toArray ((Value.str (Str.ofString "self") 252) :: [])) 0) (List.toArray ([])))
noncomputable abbrev b103 (P : Params) : Obj := (Obj.mk (Value.type "tuple") none (Data.seq (List.toArray ([])) 0) (List.toArray ([])))
noncomputable abbrev b104 (P : Params) : Obj := (Obj.mk Value.none none (Data.func (FuncData.mk (Str.ofString "told") (Str.ofString "SpotFault.told") (fA (st2 2 1)) (FuncBody.stmts (fB (st2 2 1))) (fS (st2 1 1)) 0 ([]) Value.none Value.none Value.none Value.none none Value.none Value.none 0)) (List.toArray ([])))
noncomputable abbrev b105 (P : Params) : Obj := (Obj.mk (Value.type "code") none (Data.fields (List.toArray ((Value.str (Str.ofString "told") 249) :: (Value.str (Str.ofString "SpotFault.told") 250) :: (Value.str (Str.ofString "/claim/cut.py") 251) :: (Value.int 16 0) :: (Value.int 1 0) :: (Value.int 0 0) :: (Value.int 0 0) :: (Value.int 3 0) :: (Value.ref 60) :: (Value.bool Bool.true) :: (Value.int 181 0) :: (Value.ref 61) :: Value.none :: (Value.ref 62) :: (Value.ref 63) :: (Value.ref 64) :: (Value.int 253 0) :: (Value.int 16 0) :: (Value.str (Str.ofString "/claim/cut.py") 254) :: []))) (List.toArray ([])))
noncomputable abbrev b106 (P : Params) : Obj := (Obj.mk (Value.type "function") none (Data.func (FuncData.mk (Str.ofString "told") (Str.ofString "SpotFault.told") (fA (st2 2 1)) (FuncBody.stmts (fB (st2 2 1))) (fS (st2 1 1)) 3 ([]) Value.none Value.none Value.none (Value.str (Str.ofString "fdsolve.errors") 187) none (Value.ref 65) Value.none 0)) (List.toArray ([])))
noncomputable abbrev b107 (P : Params) : Obj := (Obj.mk (Value.type "tuple") none (Data.seq (List.toArray ((Value.str (Str.ofString "spot") 256) :: [])) 0) (List.toArray ([])))
noncomputable abbrev b109 (P : Params) : Obj := (Obj.mk (Value.type "type") none (Data.cls (ClassData.mk (Str.ofString "SpotFault") ((Value.ref 40) :: []) ((Value.ref 69) :: (Value.ref 40) :: (Value.type "Exception") :: (Value.type "BaseException") :: (Value.type "object") :: []) 68 (Str.ofString "SpotFault") Bool.true ([]) ([]) Bool.false none Bool.false)) (List.toArray ((some (Value.ref 44)) :: none :: (some (Value.str (Str.ofString "SpotFault") 227)) :: (some (Value.str (Str.ofString "SpotFault") 235)) :: (some (Value.builtin "Exception.__new__")) :: (some (Value.bool Bool.true)) :: [])))
noncomputable abbrev b110 (P : Params) : Obj := (Obj.mk (Value.type "super") none (Data.fields (List.toArray ((Value.ref 69) :: (Value.ref 69) :: (Value.ref 69) :: []))) (List.toArray ([])))
noncomputable abbrev b111 (P : Params) : Obj := (Obj.mk (Value.type "builtin_function_or_method") none (Data.fields (List.toArray ((Value.builtin "object.__init_subclass__") :: (Value.ref 69) :: []))) (List.toArray ([])))
noncomputable abbrev b113 (P : Params) : Obj := (Obj.mk Value.none none (Data.fields (List.toArray ((Value.int 2 0) :: (Value.int 0 0) :: (Value.ref 21) :: (Value.int 10 0) :: (Value.int 0 0) :: (Value.ref 50) :: (Value.int 18 0) :: (Value.int 0 0) :: (Value.ref 77) :: []))) (List.toArray ([])))
noncomputable abbrev b116 (P : Params) : Obj := (Obj.mk (Value.type "builtin_function_or_method") none (Data.fields (List.toArray ((Value.builtin "type.__prepare__") :: (Value.type "type") :: []))) (List.toArray ([])))
noncomputable abbrev b117 (P : Params) : Obj := (Obj.mk (Value.type "dict") none (Data.dict (List.toArray ((DictEntry.mk (PyData.keyHash P (Str.ofString "__module__")) (Value.str (Str.ofString "__module__") 269) (Value.str (Str.ofString "fdsolve.errors") 187)) :: (DictEntry.mk (PyData.keyHash P (Str.ofString "__qualname__")) (Value.str (Str.ofString "__qualname__") 271) (Value.str (Str.ofString "TextFault") 270)) :: (DictEntry.mk (PyData.keyHash P (Str.ofString "__firstlineno__")) (Value.str (Str.ofString "__firstlineno__") 273) (Value.int 18 272)) :: (DictEntry.mk (PyData.keyHash P (Str.ofString "__static_attributes__")) (Value.str (Str.ofString "__static_attributes__") 274) (Value.ref 79)) :: [])) 4) (List.toArray ([])))
noncomputable abbrev b118 (P : Params) : Obj := (Obj.mk (Value.type "tuple") none (Data.seq (List.toArray ([])) 0) (List.toArray ([])))
noncomputable abbrev b119 (P : Params) : Obj := (Obj.mk Value.none none (Data.fields (List.toArray ([]))) (List.toArray ([])))
noncomputable abbrev b120 (P : Params) : Obj := (Obj.mk (Value.type "code") none (Data.fields (List.toArray ((Value.str (Str.ofString "TextFault") 264) :: (Value.str (Str.ofString "TextFault") 265) :: (Value.str (Str.ofString "/claim/cut.py") 266) :: (Value.int 18 0) :: (Value.int 0 0) :: (Value.int 0 0) :: (Value.int 0 0) :: (Value.int 0 0) :: (Value.ref 75) :: (Value.bool Bool.false) :: (Value.int 181 0) :: (Value.ref 76) :: Value.none :: Value.none :: Value.none :: Value.none :: (Value.int 267 0) :: (Value.int 18 0) :: (Value.str (Str.ofString "/claim/cut.py") 268) :: []))) (List.toArray ([])))
noncomputable abbrev b121 (P : Params) : Obj := (Obj.mk (Value.type "frame") none Data.plain (List.toArray ((some (Value.ref 77)) :: (some (Value.ref 3)) :: (some (Value.ref 74)) :: none :: (some (Value.str (Str.ofString "fdsolve.errors") 187)) :: none :: (some (Value.ref 0)) :: [])))
noncomputable abbrev b122 (P : Params) : Obj := (Obj.mk (Value.type "tuple") none (Data.seq (List.toArray ([])) 0) (List.toArray ([])))
noncomputable abbrev b125 (P : Params) : Obj := (Obj.mk (Value.type "super") none (Data.fields (List.toArray ((Value.ref 81) :: (Value.ref 81) :: (Value.ref 81) :: []))) (List.toArray ([])))
noncomputable abbrev b126 (P : Params) : Obj := (Obj.mk (Value.type "builtin_function_or_method") none (Data.fields (List.toArray ((Value.builtin "object.__init_subclass__") :: (Value.ref 81) :: []))) (List.toArray ([])))
noncomputable abbrev b127 (P : Params) : Obj := (Obj.mk (Value.type "tuple") none (Data.seq (List.toArray ((Value.str (Str.ofString "array") 280) :: (Value.str (Str.ofString "bool") 281) :: (Value.str (Str.ofString "constraint") 282) :: (Value.str (Str.ofString "diff") 283) :: (Value.str (Str.ofString "div") 284) :: (Value.str (Str.ofString "else") 285) :: (Value.str (Str.ofString "elseif") 286) :: (Value.str (Str.ofString "endif") 287) :: (Value.str (Str.ofString "false") 288) :: (Value.str (Str.ofString "if") 289) :: (Value.str (Str.ofString "in") 290) :: (Value.str (Str.ofString "include") 291) :: (Value.str (Str.ofString "int") 292) :: (Value.str (Str.ofString "intersect") 293) :: (Value.str (Str.ofString "let") 294) :: (Value.str (Str.ofString "maximize") 295) :: (Value.str (Str.ofString "minimize") 296) :: (Value.str (Str.ofString "mod") 297) :: (Value.str (Str.ofString "not") 298) :: (Value.str (Str.ofString "of") 299) :: (Value.str (Str.ofString "output") 300) :: (Value.str (Str.ofString "par") 301) :: (Value.str (Str.ofString "predicate") 302) :: (Value.str (Str.ofString "satisfy") 303) :: (Value.str (Str.ofString "set") 304) :: (Value.str (Str.ofString "solve") 305) :: (Value.str (Str.ofString "string") 306) :: (Value.str (Str.ofString "subset") 307) :: (Value.str (Str.ofString "superset") 308) :: (Value.str (Str.ofString "symdiff") 309) :: (Value.str (Str.ofString "test") 310) :: (Value.str (Str.ofString "then") 311) :: (Value.str (Str.ofString "true") 312) :: (Value.str (Str.ofString "union") 313) :: (Value.str (Str.ofString "var") 314) :: (Value.str (Str.ofString "where") 315) :: (Value.str (Str.ofString "xor") 316) :: [])) 0) (List.toArray ([])))
noncomputable abbrev b128 (P : Params) : Obj := (Obj.mk (Value.type "tuple") none (Data.seq (List.toArray ((Value.str (Str.ofString "(") 318) :: (Value.str (Str.ofString ")") 319) :: (Value.str (Str.ofString ",") 320) :: (Value.str (Str.ofString ";") 321) :: (Value.str (Str.ofString "]") 322) :: (Value.str (Str.ofString "{") 323) :: (Value.str (Str.ofString "}") 324) :: (Value.str (Str.ofString "<->") 325) :: (Value.str (Str.ofString "->") 326) :: (Value.str (Str.ofString "<-") 327) :: (Value.str (Str.ofString "\\/") 328) :: (Value.str (Str.ofString "/\\") 329) :: (Value.str (Str.ofString "<=") 330) :: (Value.str (Str.ofString ">=") 331) :: (Value.str (Str.ofString "==") 332) :: (Value.str (Str.ofString "!=") 333) :: (Value.str (Str.ofString "..") 334) :: (Value.str (Str.ofString "++") 335) :: (Value.str (Str.ofString "::") 336) :: (Value.str (Str.ofString "[|") 337) :: (Value.str (Str.ofString "|]") 338) :: (Value.str (Str.ofString "[") 339) :: (Value.str (Str.ofString "|") 340) :: (Value.str (Str.ofString "<") 341) :: (Value.str (Str.ofString ">") 342) :: (Value.str (Str.ofString "=") 343) :: (Value.str (Str.ofString "+") 344) :: (Value.str (Str.ofString "-") 345) :: (Value.str (Str.ofString "*") 346) :: (Value.str (Str.ofString "^") 347) :: (Value.str (Str.ofString ":") 348) :: [])) 0) (List.toArray ([])))
noncomputable abbrev b129 (P : Params) : Obj := (Obj.mk (Value.type "dict") none (Data.dict (List.toArray ((DictEntry.mk (PyData.keyHash P (Str.ofString "n")) (Value.str (Str.ofString "n") 350) (Value.str (Str.ofString "\n") 351)) :: (DictEntry.mk (PyData.keyHash P (Str.ofString "t")) (Value.str (Str.ofString "t") 352) (Value.str (Str.ofString "\t") 353)) :: (DictEntry.mk (PyData.keyHash P (Str.ofString "\"")) (Value.str (Str.ofString "\"") 354) (Value.str (Str.ofString "\"") 355)) :: (DictEntry.mk (PyData.keyHash P (Str.ofString "\\")) (Value.str (Str.ofString "\\") 356) (Value.str (Str.ofString "\\") 357)) :: [])) 4) (List.toArray ([])))
noncomputable abbrev b132 (P : Params) : Obj := (Obj.mk (Value.type "dict") none (Data.dict (List.toArray ((DictEntry.mk (PyData.keyHash P (Str.ofString "__name__")) (Value.str (Str.ofString "__name__") 165) (Value.str (Str.ofString "fdsolve.reader") 278)) :: (DictEntry.mk (PyData.keyHash P (Str.ofString "__doc__")) (Value.str (Str.ofString "__doc__") 166) Value.none) :: (DictEntry.mk (PyData.keyHash P (Str.ofString "__package__")) (Value.str (Str.ofString "__package__") 167) Value.none) :: (DictEntry.mk (PyData.keyHash P (Str.ofString "__loader__")) (Value.str (Str.ofString "__loader__") 168) (Value.builtin "__main__.__loader__#opaque")) :: (DictEntry.mk (PyData.keyHash P (Str.ofString "__spec__")) (Value.str (Str.ofString "__spec__") 169) Value.none) :: (DictEntry.mk (PyData.keyHash P (Str.ofString "__annotations__")) (Value.str (Str.ofString "__annotations__") 170) (Value.ref 6)) :: (DictEntry.mk (PyData.keyHash P (Str.ofString "__builtins__")) (Value.str (Str.ofString "__builtins__") 171) (Value.ref 4)) :: (DictEntry.mk (PyData.keyHash P (Str.ofString "__file__")) (Value.str (Str.ofString "__file__") 173) (Value.str (Str.ofString "/claim/cut.py") 172)) :: (DictEntry.mk (PyData.keyHash P (Str.ofString "__cached__")) (Value.str (Str.ofString "__cached__") 174) Value.none) :: (DictEntry.mk (PyData.keyHash P (Str.ofString "FdError")) (Value.str (Str.ofString "FdError") 226) (Value.ref 40)) :: (DictEntry.mk (PyData.keyHash P (Str.ofString "SpotFault")) (Value.str (Str.ofString "SpotFault") 261) (Value.ref 69)) :: (DictEntry.mk (PyData.keyHash P (Str.ofString "TextFault")) (Value.str (Str.ofString "TextFault") 277) (Value.ref 81)) :: (DictEntry.mk (PyData.keyHash P (Str.ofString "WORDS")) (Value.str (Str.ofString "WORDS") 317) (Value.ref 84)) :: (DictEntry.mk (PyData.keyHash P (Str.ofString "SIGNS")) (Value.str (Str.ofString "SIGNS") 349) (Value.ref 85)) :: (DictEntry.mk (PyData.keyHash P (Str.ofString "ESCAPES")) (Value.str (Str.ofString "ESCAPES") 362) (Value.ref 86)) :: (DictEntry.mk (PyData.keyHash P (Str.ofString "BLANKS")) (Value.str (Str.ofString "BLANKS") 364) (Value.str (Str.ofString " \t\x0d\n") 363)) :: (DictEntry.mk (PyData.keyHash P (Str.ofString "FIGURES")) (Value.str (Str.ofString "FIGURES") 366) (Value.str (Str.ofString "0123456789") 365)) :: (DictEntry.mk (PyData.keyHash P (Str.ofString "LETTERS")) (Value.str (Str.ofString "LETTERS") 368) (Value.str (Str.ofString "abcdefghijklmnopqrstuvwxyzABCDEFGHIJKLMNOPQRSTUVWXYZ") 367)) :: (DictEntry.mk (PyData.keyHash P (Str.ofString "MOST_FIGURES")) (Value.str (Str.ofString "MOST_FIGURES") 370) (Value.int 60 369)) :: (DictEntry.mk (PyData.keyHash P (Str.ofString "MOST_STRINGS")) (Value.str (Str.ofString "MOST_STRINGS") 372) (Value.int 4 371)) :: [])) 20) (List.toArray ([])))
noncomputable abbrev b134 (P : Params) : Obj := (Obj.mk (Value.type "dict") none (Data.dict (List.toArray ((DictEntry.mk (PyData.keyHash P (Str.ofString "__name__")) (Value.str (Str.ofString "__name__") 165) (Value.str (Str.ofString "fdsolve.reader") 278)) :: (DictEntry.mk (PyData.keyHash P (Str.ofString "__doc__")) (Value.str (Str.ofString "__doc__") 166) Value.none) :: (DictEntry.mk (PyData.keyHash P (Str.ofString "__package__")) (Value.str (Str.ofString "__package__") 167) Value.none) :: (DictEntry.mk (PyData.keyHash P (Str.ofString "__loader__")) (Value.str (Str.ofString "__loader__") 168) (Value.builtin "__main__.__loader__#opaque")) :: (DictEntry.mk (PyData.keyHash P (Str.ofString "__spec__")) (Value.str (Str.ofString "__spec__") 169) Value.none) :: (DictEntry.mk (PyData.keyHash P (Str.ofString "__annotations__")) (Value.str (Str.ofString "__annotations__") 170) (Value.ref 6)) :: (DictEntry.mk (PyData.keyHash P (Str.ofString "__builtins__")) (Value.str (Str.ofString "__builtins__") 171) (Value.ref 4)) :: (DictEntry.mk (PyData.keyHash P (Str.ofString "__file__")) (Value.str (Str.ofString "__file__") 173) (Value.str (Str.ofString "/claim/cut.py") 172)) :: (DictEntry.mk (PyData.keyHash P (Str.ofString "__cached__")) (Value.str (Str.ofString "__cached__") 174) Value.none) :: (DictEntry.mk (PyData.keyHash P (Str.ofString "FdError")) (Value.str (Str.ofString "FdError") 226) (Value.ref 40)) :: (DictEntry.mk (PyData.keyHash P (Str.ofString "SpotFault")) (Value.str (Str.ofString "SpotFault") 261) (Value.ref 69)) :: (DictEntry.mk (PyData.keyHash P (Str.ofString "TextFault")) (Value.str (Str.ofString "TextFault") 277) (Value.ref 81)) :: (DictEntry.mk (PyData.keyHash P (Str.ofString "WORDS")) (Value.str (Str.ofString "WORDS") 317) (Value.ref 84)) :: (DictEntry.mk (PyData.keyHash P (Str.ofString "SIGNS")) (Value.str (Str.ofString "SIGNS") 349) (Value.ref 85)) :: (DictEntry.mk (PyData.keyHash P (Str.ofString "ESCAPES")) (Value.str (Str.ofString "ESCAPES") 362) (Value.ref 86)) :: (DictEntry.mk (PyData.keyHash P (Str.ofString "BLANKS")) (Value.str (Str.ofString "BLANKS") 364) (Value.str (Str.ofString " \t\x0d\n") 363)) :: (DictEntry.mk (PyData.keyHash P (Str.ofString "FIGURES")) (Value.str (Str.ofString "FIGURES") 366) (Value.str (Str.ofString "0123456789") 365)) :: (DictEntry.mk (PyData.keyHash P (Str.ofString "LETTERS")) (Value.str (Str.ofString "LETTERS") 368) (Value.str (Str.ofString "abcdefghijklmnopqrstuvwxyzABCDEFGHIJKLMNOPQRSTUVWXYZ") 367)) :: (DictEntry.mk (PyData.keyHash P (Str.ofString "MOST_FIGURES")) (Value.str (Str.ofString "MOST_FIGURES") 370) (Value.int 60 369)) :: (DictEntry.mk (PyData.keyHash P (Str.ofString "MOST_STRINGS")) (Value.str (Str.ofString "MOST_STRINGS") 372) (Value.int 4 371)) :: (DictEntry.mk (PyData.keyHash P (Str.ofString "Scanner")) (Value.str (Str.ofString "Scanner") 490) (Value.ref 167)) :: [])) 21) (List.toArray ([])))
noncomputable abbrev b135 (P : Params) : Obj := (Obj.mk Value.none none (Data.fields (List.toArray ((Value.int 2 0) :: (Value.int 0 0) :: (Value.ref 21) :: (Value.int 10 0) :: (Value.int 0 0) :: (Value.ref 50) :: (Value.int 18 0) :: (Value.int 0 0) :: (Value.ref 77) :: (Value.int 29 0) :: (Value.int 0 0) :: (Value.ref 92) :: []))) (List.toArray ([])))
noncomputable abbrev b136 (P : Params) : Obj := (Obj.mk (Value.type "tuple") none (Data.seq (List.toArray ([])) 0) (List.toArray ([])))
noncomputable abbrev b137 (P : Params) : Obj := (Obj.mk (Value.type "builtin_function_or_method") none (Data.fields (List.toArray ((Value.builtin "type.__prepare__") :: (Value.type "type") :: []))) (List.toArray ([])))
noncomputable abbrev b138 (P : Params) : Obj := (Obj.mk (Value.type "dict") none (Data.dict (List.toArray ((DictEntry.mk (PyData.keyHash P (Str.ofString "__module__")) (Value.str (Str.ofString "__module__") 380) (Value.str (Str.ofString "fdsolve.reader") 278)) :: (DictEntry.mk (PyData.keyHash P (Str.ofString "__qualname__")) (Value.str (Str.ofString "__qualname__") 382) (Value.str (Str.ofString "Scanner") 381)) :: (DictEntry.mk (PyData.keyHash P (Str.ofString "__firstlineno__")) (Value.str (Str.ofString "__firstlineno__") 384) (Value.int 29 383)) :: (DictEntry.mk (PyData.keyHash P (Str.ofString "__init__")) (Value.str (Str.ofString "__init__") 396) (Value.ref 101)) :: (DictEntry.mk (PyData.keyHash P (Str.ofString "sign")) (Value.str (Str.ofString "sign") 403) (Value.ref 108)) :: (DictEntry.mk (PyData.keyHash P (Str.ofString "skip")) (Value.str (Str.ofString "skip") 411) (Value.ref 115)) :: (DictEntry.mk (PyData.keyHash P (Str.ofString "run_of")) (Value.str (Str.ofString "run_of") 420) (Value.ref 122)) :: (DictEntry.mk (PyData.keyHash P (Str.ofString "number")) (Value.str (Str.ofString "number") 429) (Value.ref 129)) :: (DictEntry.mk (PyData.keyHash P (Str.ofString "word")) (Value.str (Str.ofString "word") 438) (Value.ref 136)) :: (DictEntry.mk (PyData.keyHash P (Str.ofString "inner_end")) (Value.str (Str.ofString "inner_end") 451) (Value.ref 143)) :: (DictEntry.mk (PyData.keyHash P (Str.ofString "string")) (Value.str (Str.ofString "string") 462) (Value.ref 150)) :: (DictEntry.mk (PyData.keyHash P (Str.ofString "mark")) (Value.str (Str.ofString "mark") 470) (Value.ref 157)) :: (DictEntry.mk (PyData.keyHash P (Str.ofString "tokens")) (Value.str (Str.ofString "tokens") 478) (Value.ref 164)) :: (DictEntry.mk (PyData.keyHash P (Str.ofString "__static_attributes__")) (Value.str (Str.ofString "__static_attributes__") 483) (Value.ref 165)) :: [])) 14) (List.toArray ([])))
noncomputable abbrev b139 (P : Params) : Obj := (Obj.mk (Value.type "tuple") none (Data.seq (List.toArray ([])) 0) (List.toArray ([])))
noncomputable abbrev b140 (P : Params) : Obj := (Obj.mk Value.none none (Data.fields (List.toArray ((Value.int 31 0) :: (Value.int 4 0) :: (Value.ref 100) :: (Value.int 37 0) :: (Value.int 4 0) :: (Value.ref 107) :: (Value.int 40 0) :: (Value.int 4 0) :: (Value.ref 114) :: (Value.int 55 0) :: (Value.int 4 0) :: (Value.ref 121) :: (Value.int 61 0) :: (Value.int 4 0) :: (Value.ref 128) :: (Value.int 70 0) :: (Value.int 4 0) :: (Value.ref 135) :: (Value.int 75 0) :: (Value.int 4 0) :: (Value.ref 142) :: (Value.int 97 0) :: (Value.int 4 0) :: (Value.ref 149) :: (Value.int 122 0) :: (Value.int 4 0) :: (Value.ref 156) :: (Value.int 129 0) :: (Value.int 4 0) :: (Value.ref 163) :: []))) (List.toArray ([])))
noncomputable abbrev b141 (P : Params) : Obj := (Obj.mk (Value.type "code") none (Data.fields (List.toArray ((Value.str (Str.ofString "Scanner") 375) :: (Value.str (Str.ofString "Scanner") 376) :: (Value.str (Str.ofString "/claim/cut.py") 377) :: (Value.int 29 0) :: (Value.int 0 0) :: (Value.int 0 0) :: (Value.int 0 0) :: (Value.int 0 0) :: (Value.ref 90) :: (Value.bool Bool.false) :: (Value.int 181 0) :: (Value.ref 91) :: Value.none :: Value.none :: Value.none :: Value.none :: (Value.int 378 0) :: (Value.int 29 0) :: (Value.str (Str.ofString "/claim/cut.py") 379) :: []))) (List.toArray ([])))
noncomputable abbrev b142 (P : Params) : Obj := (Obj.mk (Value.type "frame") none Data.plain (List.toArray ((some (Value.ref 92)) :: (some (Value.ref 3)) :: (some (Value.ref 89)) :: none :: (some (Value.str (Str.ofString "fdsolve.reader") 278)) :: none :: (some (Value.ref 0)) :: [])))
noncomputable abbrev b144 (P : Params) : Obj := (Obj.mk (Value.type "tuple") none (Data.seq (List.toArray ([])) 0) (List.toArray ([])))
noncomputable abbrev b145 (P : Params) : Obj := (Obj.mk Value.none none (Data.fields (List.toArray ([]))) (List.toArray ([])))
noncomputable abbrev b146 (P : Params) : Obj := (Obj.mk (Value.type "tuple") none (Data.seq (List.toArray ((Value.str (Str.ofString "self") 389) :: (Value.str (Str.ofString "text") 390) :: (Value.str (Str.ofString "spot") 391) :: (Value.str (Str.ofString "end") 392) :: (Value.str (Str.ofString "depth") 393) :: [])) 0) (List.toArray ([])))
noncomputable abbrev b147 (P : Params) : Obj := (Obj.mk (Value.type "tuple") none (Data.seq (List.toArray ([])) 0) (List.toArray ([])))
noncomputable abbrev b148 (P : Params) : Obj := (Obj.mk Value.none none (Data.func (FuncData.mk (Str.ofString "__init__") (Str.ofString "Scanner.__init__") (fA (st2 13 0)) (FuncBody.stmts (fB (st2 13 0))) (fS (st2 13 0)) 0 ([]) Value.none Value.none Value.none Value.none none Value.none Value.none 0)) (List.toArray ([])))
noncomputable abbrev b151 (P : Params) : Obj := (Obj.mk (Value.type "tuple") none (Data.seq (List.toArray ([])) 0) (List.toArray ([])))
noncomputable abbrev b152 (P : Params) : Obj := (Obj.mk Value.none none (Data.fields (List.toArray ([]))) (List.toArray ([])))
noncomputable abbrev b153 (P : Params) : Obj := (Obj.mk (Value.type "tuple") none (Data.seq (List.toArray ((Value.str (Str.ofString "self") 400) :: [])) 0) (List.toArray ([])))
noncomputable abbrev b154 (P : Params) : Obj := (Obj.mk (Value.type "tuple") none (Data.seq (List.toArray ([])) 0) (List.toArray ([])))
noncomputable abbrev b155 (P : Params) : Obj := (Obj.mk Value.none none (Data.func (FuncData.mk (Str.ofString "sign") (Str.ofString "Scanner.sign") (fA (st2 13 1)) (FuncBody.stmts (fB (st2 13 1))) (fS (st2 1 1)) 0 ([]) Value.none Value.none Value.none Value.none none Value.none Value.none 0)) (List.toArray ([])))
noncomputable abbrev b158 (P : Params) : Obj := (Obj.mk (Value.type "tuple") none (Data.seq (List.toArray ([])) 0) (List.toArray ([])))
noncomputable abbrev b159 (P : Params) : Obj := (Obj.mk Value.none none (Data.fields (List.toArray ([]))) (List.toArray ([])))
noncomputable abbrev b160 (P : Params) : Obj := (Obj.mk (Value.type "tuple") none (Data.seq (List.toArray ((Value.str (Str.ofString "self") 407) :: (Value.str (Str.ofString "close") 408) :: [])) 0) (List.toArray ([])))
noncomputable abbrev b161 (P : Params) : Obj := (Obj.mk (Value.type "tuple") none (Data.seq (List.toArray ([])) 0) (List.toArray ([])))
noncomputable abbrev b162 (P : Params) : Obj := (Obj.mk Value.none none (Data.func (FuncData.mk (Str.ofString "skip") (Str.ofString "Scanner.skip") (fA (st2 13 2)) (FuncBody.stmts (fB (st2 13 2))) (fS (st2 13 2)) 0 ([]) Value.none Value.none Value.none Value.none none Value.none Value.none 0)) (List.toArray ([])))
noncomputable abbrev b165 (P : Params) : Obj := (Obj.mk (Value.type "tuple") none (Data.seq (List.toArray ([])) 0) (List.toArray ([])))
noncomputable abbrev b166 (P : Params) : Obj := (Obj.mk Value.none none (Data.fields (List.toArray ([]))) (List.toArray ([])))
noncomputable abbrev b167 (P : Params) : Obj := (Obj.mk (Value.type "tuple") none (Data.seq (List.toArray ((Value.str (Str.ofString "self") 415) :: (Value.str (Str.ofString "signs") 416) :: (Value.str (Str.ofString "begin") 417) :: [])) 0) (List.toArray ([])))
noncomputable abbrev b168 (P : Params) : Obj := (Obj.mk (Value.type "tuple") none (Data.seq (List.toArray ([])) 0) (List.toArray ([])))
noncomputable abbrev b169 (P : Params) : Obj := (Obj.mk Value.none none (Data.func (FuncData.mk (Str.ofString "run_of") (Str.ofString "Scanner.run_of") (fA (st2 13 3)) (FuncBody.stmts (fB (st2 13 3))) (fS (st2 13 3)) 0 ([]) Value.none Value.none Value.none Value.none none Value.none Value.none 0)) (List.toArray ([])))
noncomputable abbrev b170 (P : Params) : Obj := (Obj.mk (Value.type "code") none (Data.fields (List.toArray ((Value.str (Str.ofString "run_of") 412) :: (Value.str (Str.ofString "Scanner.run_of") 413) :: (Value.str (Str.ofString "/claim/cut.py") 414) :: (Value.int 55 0) :: (Value.int 2 0) :: (Value.int 0 0) :: (Value.int 0 0) :: (Value.int 3 0) :: (Value.ref 116) :: (Value.bool Bool.true) :: (Value.int 181 0) :: (Value.ref 117) :: Value.none :: (Value.ref 118) :: (Value.ref 119) :: (Value.ref 120) :: (Value.int 418 0) :: (Value.int 55 0) :: (Value.str (Str.ofString "/claim/cut.py") 419) :: []))) (List.toArray ([])))
noncomputable abbrev b171 (P : Params) : Obj := (Obj.mk (Value.type "function") none (Data.func (FuncData.mk (Str.ofString "run_of") (Str.ofString "Scanner.run_of") (fA (st2 13 3)) (FuncBody.stmts (fB (st2 13 3))) (fS (st2 13 3)) 3 ([]) Value.none Value.none Value.none (Value.str (Str.ofString "fdsolve.reader") 278) none (Value.ref 121) Value.none 0)) (List.toArray ([])))
noncomputable abbrev b172 (P : Params) : Obj := (Obj.mk (Value.type "tuple") none (Data.seq (List.toArray ([])) 0) (List.toArray ([])))
noncomputable abbrev b173 (P : Params) : Obj := (Obj.mk Value.none none (Data.fields (List.toArray ([]))) (List.toArray ([])))
noncomputable abbrev b174 (P : Params) : Obj := (Obj.mk (Value.type "tuple") none (Data.seq (List.toArray ((Value.str (Str.ofString "self") 424) :: (Value.str (Str.ofString "begin") 425) :: (Value.str (Str.ofString "figures") 426) :: [])) 0) (List.toArray ([])))
noncomputable abbrev b175 (P : Params) : Obj := (Obj.mk (Value.type "tuple") none (Data.seq (List.toArray ([])) 0) (List.toArray ([])))
noncomputable abbrev b176 (P : Params) : Obj := (Obj.mk Value.none none (Data.func (FuncData.mk (Str.ofString "number") (Str.ofString "Scanner.number") (fA (st2 13 4)) (FuncBody.stmts (fB (st2 13 4))) (fS (st2 13 4)) 0 ([]) Value.none Value.none Value.none Value.none none Value.none Value.none 0)) (List.toArray ([])))
noncomputable abbrev b177 (P : Params) : Obj := (Obj.mk (Value.type "code") none (Data.fields (List.toArray ((Value.str (Str.ofString "number") 421) :: (Value.str (Str.ofString "Scanner.number") 422) :: (Value.str (Str.ofString "/claim/cut.py") 423) :: (Value.int 61 0) :: (Value.int 1 0) :: (Value.int 0 0) :: (Value.int 0 0) :: (Value.int 3 0) :: (Value.ref 123) :: (Value.bool Bool.true) :: (Value.int 181 0) :: (Value.ref 124) :: Value.none :: (Value.ref 125) :: (Value.ref 126) :: (Value.ref 127) :: (Value.int 427 0) :: (Value.int 61 0) :: (Value.str (Str.ofString "/claim/cut.py") 428) :: []))) (List.toArray ([])))
noncomputable abbrev b178 (P : Params) : Obj := (Obj.mk (Value.type "function") none (Data.func (FuncData.mk (Str.ofString "number") (Str.ofString "Scanner.number") (fA (st2 13 4)) (FuncBody.stmts (fB (st2 13 4))) (fS (st2 13 4)) 3 ([]) Value.none Value.none Value.none (Value.str (Str.ofString "fdsolve.reader") 278) none (Value.ref 128) Value.none 0)) (List.toArray ([])))
noncomputable abbrev b179 (P : Params) : Obj := (Obj.mk (Value.type "tuple") none (Data.seq (List.toArray ([])) 0) (List.toArray ([])))
noncomputable abbrev b180 (P : Params) : Obj := (Obj.mk Value.none none (Data.fields (List.toArray ([]))) (List.toArray ([])))
noncomputable abbrev b181 (P : Params) : Obj := (Obj.mk (Value.type "tuple") none (Data.seq (List.toArray ((Value.str (Str.ofString "self") 433) :: (Value.str (Str.ofString "begin") 434) :: (Value.str (Str.ofString "name") 435) :: [])) 0) (List.toArray ([])))
noncomputable abbrev b182 (P : Params) : Obj := (Obj.mk (Value.type "tuple") none (Data.seq (List.toArray ([])) 0) (List.toArray ([])))
noncomputable abbrev b183 (P : Params) : Obj := (Obj.mk Value.none none (Data.func (FuncData.mk (Str.ofString "word") (Str.ofString "Scanner.word") (fA (st2 13 5)) (FuncBody.stmts (fB (st2 13 5))) (fS (st2 13 5)) 0 ([]) Value.none Value.none Value.none Value.none none Value.none Value.none 0)) (List.toArray ([])))
noncomputable abbrev b184 (P : Params) : Obj := (Obj.mk (Value.type "code") none (Data.fields (List.toArray ((Value.str (Str.ofString "word") 430) :: (Value.str (Str.ofString "Scanner.word") 431) :: (Value.str (Str.ofString "/claim/cut.py") 432) :: (Value.int 70 0) :: (Value.int 1 0) :: (Value.int 0 0) :: (Value.int 0 0) :: (Value.int 3 0) :: (Value.ref 130) :: (Value.bool Bool.true) :: (Value.int 181 0) :: (Value.ref 131) :: Value.none :: (Value.ref 132) :: (Value.ref 133) :: (Value.ref 134) :: (Value.int 436 0) :: (Value.int 70 0) :: (Value.str (Str.ofString "/claim/cut.py") 437) :: []))) (List.toArray ([])))
noncomputable abbrev b185 (P : Params) : Obj := (Obj.mk (Value.type "function") none (Data.func (FuncData.mk (Str.ofString "word") (Str.ofString "Scanner.word") (fA (st2 13 5)) (FuncBody.stmts (fB (st2 13 5))) (fS (st2 13 5)) 3 ([]) Value.none Value.none Value.none (Value.str (Str.ofString "fdsolve.reader") 278) none (Value.ref 135) Value.none 0)) (List.toArray ([])))
noncomputable abbrev b186 (P : Params) : Obj := (Obj.mk (Value.type "tuple") none (Data.seq (List.toArray ([])) 0) (List.toArray ([])))
noncomputable abbrev b187 (P : Params) : Obj := (Obj.mk Value.none none (Data.fields (List.toArray ([]))) (List.toArray ([])))
noncomputable abbrev b188 (P : Params) : Obj := (Obj.mk (Value.type "tuple") none (Data.seq (List.toArray ((Value.str (Str.ofString "self") 442) :: (Value.str (Str.ofString "begin") 443) :: (Value.str (Str.ofString "spot") 444) :: (Value.str (Str.ofString "within") 445) :: (Value.str (Str.ofString "sign") 446) :: (Value.str (Str.ofString "behind") 447) :: (Value.str (Str.ofString "passed") 448) :: [])) 0) (List.toArray ([])))
noncomputable abbrev b189 (P : Params) : Obj := (Obj.mk (Value.type "tuple") none (Data.seq (List.toArray ([])) 0) (List.toArray ([])))
noncomputable abbrev b190 (P : Params) : Obj := (Obj.mk Value.none none (Data.func (FuncData.mk (Str.ofString "inner_end") (Str.ofString "Scanner.inner_end") (fA (st2 13 6)) (FuncBody.stmts (fB (st2 13 6))) (fS (st2 13 6)) 0 ([]) Value.none Value.none Value.none Value.none none Value.none Value.none 0)) (List.toArray ([])))
noncomputable abbrev b193 (P : Params) : Obj := (Obj.mk (Value.type "tuple") none (Data.seq (List.toArray ([])) 0) (List.toArray ([])))
noncomputable abbrev b194 (P : Params) : Obj := (Obj.mk Value.none none (Data.fields (List.toArray ([]))) (List.toArray ([])))
noncomputable abbrev b195 (P : Params) : Obj := (Obj.mk (Value.type "tuple") none (Data.seq (List.toArray ((Value.str (Str.ofString "self") 455) :: (Value.str (Str.ofString "begin") 456) :: (Value.str (Str.ofString "pieces") 457) :: (Value.str (Str.ofString "found") 458) :: (Value.str (Str.ofString "close") 459) :: [])) 0) (List.toArray ([])))
noncomputable abbrev b196 (P : Params) : Obj := (Obj.mk (Value.type "tuple") none (Data.seq (List.toArray ([])) 0) (List.toArray ([])))
noncomputable abbrev b197 (P : Params) : Obj := (Obj.mk Value.none none (Data.func (FuncData.mk (Str.ofString "string") (Str.ofString "Scanner.string") (fA (st2 13 7)) (FuncBody.stmts (fB (st2 13 7))) (fS (st2 13 7)) 0 ([]) Value.none Value.none Value.none Value.none none Value.none Value.none 0)) (List.toArray ([])))
noncomputable abbrev b198 (P : Params) : Obj := (Obj.mk (Value.type "code") none (Data.fields (List.toArray ((Value.str (Str.ofString "string") 452) :: (Value.str (Str.ofString "Scanner.string") 453) :: (Value.str (Str.ofString "/claim/cut.py") 454) :: (Value.int 97 0) :: (Value.int 1 0) :: (Value.int 0 0) :: (Value.int 0 0) :: (Value.int 3 0) :: (Value.ref 144) :: (Value.bool Bool.true) :: (Value.int 181 0) :: (Value.ref 145) :: Value.none :: (Value.ref 146) :: (Value.ref 147) :: (Value.ref 148) :: (Value.int 460 0) :: (Value.int 97 0) :: (Value.str (Str.ofString "/claim/cut.py") 461) :: []))) (List.toArray ([])))
noncomputable abbrev b199 (P : Params) : Obj := (Obj.mk (Value.type "function") none (Data.func (FuncData.mk (Str.ofString "string") (Str.ofString "Scanner.string") (fA (st2 13 7)) (FuncBody.stmts (fB (st2 13 7))) (fS (st2 13 7)) 3 ([]) Value.none Value.none Value.none (Value.str (Str.ofString "fdsolve.reader") 278) none (Value.ref 149) Value.none 0)) (List.toArray ([])))
noncomputable abbrev b200 (P : Params) : Obj := (Obj.mk (Value.type "tuple") none (Data.seq (List.toArray ([])) 0) (List.toArray ([])))
noncomputable abbrev b201 (P : Params) : Obj := (Obj.mk Value.none none (Data.fields (List.toArray ([]))) (List.toArray ([])))
noncomputable abbrev b202 (P : Params) : Obj := (Obj.mk (Value.type "tuple") none (Data.seq (List.toArray ((Value.str (Str.ofString "self") 466) :: (Value.str (Str.ofString "sign") 467) :: [])) 0) (List.toArray ([])))
noncomputable abbrev b203 (P : Params) : Obj := (Obj.mk (Value.type "tuple") none (Data.seq (List.toArray ([])) 0) (List.toArray ([])))
noncomputable abbrev b204 (P : Params) : Obj := (Obj.mk Value.none none (Data.func (FuncData.mk (Str.ofString "mark") (Str.ofString "Scanner.mark") (fA (st2 13 8)) (FuncBody.stmts (fB (st2 13 8))) (fS (st2 13 8)) 0 ([]) Value.none Value.none Value.none Value.none none Value.none Value.none 0)) (List.toArray ([])))
noncomputable abbrev b205 (P : Params) : Obj := (Obj.mk (Value.type "code") none (Data.fields (List.toArray ((Value.str (Str.ofString "mark") 463) :: (Value.str (Str.ofString "Scanner.mark") 464) :: (Value.str (Str.ofString "/claim/cut.py") 465) :: (Value.int 122 0) :: (Value.int 1 0) :: (Value.int 0 0) :: (Value.int 0 0) :: (Value.int 3 0) :: (Value.ref 151) :: (Value.bool Bool.true) :: (Value.int 181 0) :: (Value.ref 152) :: Value.none :: (Value.ref 153) :: (Value.ref 154) :: (Value.ref 155) :: (Value.int 468 0) :: (Value.int 122 0) :: (Value.str (Str.ofString "/claim/cut.py") 469) :: []))) (List.toArray ([])))
noncomputable abbrev b206 (P : Params) : Obj := (Obj.mk (Value.type "function") none (Data.func (FuncData.mk (Str.ofString "mark") (Str.ofString "Scanner.mark") (fA (st2 13 8)) (FuncBody.stmts (fB (st2 13 8))) (fS (st2 13 8)) 3 ([]) Value.none Value.none Value.none (Value.str (Str.ofString "fdsolve.reader") 278) none (Value.ref 156) Value.none 0)) (List.toArray ([])))
noncomputable abbrev b207 (P : Params) : Obj := (Obj.mk (Value.type "tuple") none (Data.seq (List.toArray ([])) 0) (List.toArray ([])))
noncomputable abbrev b208 (P : Params) : Obj := (Obj.mk Value.none none (Data.fields (List.toArray ([]))) (List.toArray ([])))
noncomputable abbrev b209 (P : Params) : Obj := (Obj.mk (Value.type "tuple") none (Data.seq (List.toArray ((Value.str (Str.ofString "self") 474) :: (Value.str (Str.ofString "found") 475) :: [])) 0) (List.toArray ([])))
noncomputable abbrev b210 (P : Params) : Obj := (Obj.mk (Value.type "tuple") none (Data.seq (List.toArray ([])) 0) (List.toArray ([])))
noncomputable abbrev b211 (P : Params) : Obj := (Obj.mk Value.none none (Data.func (FuncData.mk (Str.ofString "tokens") (Str.ofString "Scanner.tokens") (fA (st2 13 9)) (FuncBody.stmts (fB (st2 13 9))) (fS (st2 13 9)) 0 ([]) Value.none Value.none Value.none Value.none none Value.none Value.none 0)) (List.toArray ([])))
noncomputable abbrev b212 (P : Params) : Obj := (Obj.mk (Value.type "code") none (Data.fields (List.toArray ((Value.str (Str.ofString "tokens") 471) :: (Value.str (Str.ofString "Scanner.tokens") 472) :: (Value.str (Str.ofString "/claim/cut.py") 473) :: (Value.int 129 0) :: (Value.int 1 0) :: (Value.int 0 0) :: (Value.int 0 0) :: (Value.int 3 0) :: (Value.ref 158) :: (Value.bool Bool.true) :: (Value.int 181 0) :: (Value.ref 159) :: Value.none :: (Value.ref 160) :: (Value.ref 161) :: (Value.ref 162) :: (Value.int 476 0) :: (Value.int 129 0) :: (Value.str (Str.ofString "/claim/cut.py") 477) :: []))) (List.toArray ([])))
noncomputable abbrev b213 (P : Params) : Obj := (Obj.mk (Value.type "function") none (Data.func (FuncData.mk (Str.ofString "tokens") (Str.ofString "Scanner.tokens") (fA (st2 13 9)) (FuncBody.stmts (fB (st2 13 9))) (fS (st2 13 9)) 3 ([]) Value.none Value.none Value.none (Value.str (Str.ofString "fdsolve.reader") 278) none (Value.ref 163) Value.none 0)) (List.toArray ([])))
noncomputable abbrev b214 (P : Params) : Obj := (Obj.mk (Value.type "tuple") none (Data.seq (List.toArray ((Value.str (Str.ofString "depth") 479) :: (Value.str (Str.ofString "end") 480) :: (Value.str (Str.ofString "spot") 481) :: (Value.str (Str.ofString "text") 482) :: [])) 0) (List.toArray ([])))
noncomputable abbrev b217 (P : Params) : Obj := (Obj.mk (Value.type "getset_descriptor") none (Data.fields (List.toArray ((Value.str (Str.ofString "__dict__") 484) :: (Value.ref 167) :: (Value.builtin "function.__dict__") :: (Value.builtin "function.__dict__#set") :: []))) (List.toArray ([])))
noncomputable abbrev b218 (P : Params) : Obj := (Obj.mk (Value.type "getset_descriptor") none (Data.fields (List.toArray ((Value.str (Str.ofString "__weakref__") 486) :: (Value.ref 167) :: (Value.builtin "ExceptionGroup.__weakref__") :: Value.none :: []))) (List.toArray ([])))
noncomputable abbrev b219 (P : Params) : Obj := (Obj.mk (Value.type "super") none (Data.fields (List.toArray ((Value.ref 167) :: (Value.ref 167) :: (Value.ref 167) :: []))) (List.toArray ([])))
noncomputable abbrev b220 (P : Params) : Obj := (Obj.mk (Value.type "builtin_function_or_method") none (Data.fields (List.toArray ((Value.builtin "object.__init_subclass__") :: (Value.ref 167) :: []))) (List.toArray ([])))
noncomputable abbrev b222 (P : Params) : Obj := (Obj.mk Value.none none (Data.fields (List.toArray ((Value.int 2 0) :: (Value.int 0 0) :: (Value.ref 21) :: (Value.int 10 0) :: (Value.int 0 0) :: (Value.ref 50) :: (Value.int 18 0) :: (Value.int 0 0) :: (Value.ref 77) :: (Value.int 29 0) :: (Value.int 0 0) :: (Value.ref 92) :: (Value.int 149 0) :: (Value.int 0 0) :: (Value.ref 181) :: (Value.int 155 0) :: (Value.int 0 0) :: (Value.ref 188) :: (Value.int 160 0) :: (Value.int 0 0) :: (Value.ref 193) :: (Value.int 178 0) :: (Value.int 0 0) :: (Value.ref 200) :: (Value.int 189 0) :: (Value.int 0 0) :: (Value.ref 205) :: []))) (List.toArray ([])))
noncomputable abbrev b227 (P : Params) : Obj := (Obj.mk (Value.type "tuple") none (Data.seq (List.toArray ([])) 0) (List.toArray ([])))
noncomputable abbrev b228 (P : Params) : Obj := (Obj.mk Value.none none (Data.fields (List.toArray ([]))) (List.toArray ([])))
noncomputable abbrev b229 (P : Params) : Obj := (Obj.mk (Value.type "tuple") none (Data.seq (List.toArray ((Value.str (Str.ofString "feed") 525) :: (Value.str (Str.ofString "many") 526) :: (Value.str (Str.ofString "place") 527) :: [])) 0) (List.toArray ([])))
noncomputable abbrev b230 (P : Params) : Obj := (Obj.mk (Value.type "tuple") none (Data.seq (List.toArray ([])) 0) (List.toArray ([])))
noncomputable abbrev b231 (P : Params) : Obj := (Obj.mk Value.none none (Data.func (FuncData.mk (Str.ofString "_law_dip") (Str.ofString "_law_dip") (fA (st 19)) (FuncBody.stmts (fB (st 19))) (fS (st 19)) 0 ([]) Value.none Value.none Value.none Value.none none Value.none Value.none 0)) (List.toArray ([])))
noncomputable abbrev b234 (P : Params) : Obj := (Obj.mk (Value.type "tuple") none (Data.seq (List.toArray ([])) 0) (List.toArray ([])))
noncomputable abbrev b235 (P : Params) : Obj := (Obj.mk Value.none none (Data.fields (List.toArray ([]))) (List.toArray ([])))
noncomputable abbrev b236 (P : Params) : Obj := (Obj.mk (Value.type "tuple") none (Data.seq (List.toArray ((Value.str (Str.ofString "feed") 534) :: (Value.str (Str.ofString "begin") 535) :: (Value.str (Str.ofString "floors") 536) :: (Value.str (Str.ofString "text") 537) :: [])) 0) (List.toArray ([])))
noncomputable abbrev b237 (P : Params) : Obj := (Obj.mk (Value.type "tuple") none (Data.seq (List.toArray ([])) 0) (List.toArray ([])))
noncomputable abbrev b238 (P : Params) : Obj := (Obj.mk Value.none none (Data.func (FuncData.mk (Str.ofString "_law_part") (Str.ofString "_law_part") (fA (st 20)) (FuncBody.stmts (fB (st 20))) (fS (st 20)) 0 ([]) Value.none Value.none Value.none Value.none none Value.none Value.none 0)) (List.toArray ([])))
noncomputable abbrev b241 (P : Params) : Obj := (Obj.mk (Value.type "tuple") none (Data.seq (List.toArray ([])) 0) (List.toArray ([])))
noncomputable abbrev b242 (P : Params) : Obj := (Obj.mk Value.none none (Data.fields (List.toArray ([]))) (List.toArray ([])))
noncomputable abbrev b243 (P : Params) : Obj := (Obj.mk Value.none none (Data.func (FuncData.mk (Str.ofString "_law_code") (Str.ofString "_law_code") (fA (st 21)) (FuncBody.stmts (fB (st 21))) (fS (st 21)) 0 ([]) Value.none Value.none Value.none Value.none none Value.none Value.none 0)) (List.toArray ([])))
noncomputable abbrev b246 (P : Params) : Obj := (Obj.mk (Value.type "tuple") none (Data.seq (List.toArray ([])) 0) (List.toArray ([])))
noncomputable abbrev b247 (P : Params) : Obj := (Obj.mk Value.none none (Data.fields (List.toArray ([]))) (List.toArray ([])))
noncomputable abbrev b248 (P : Params) : Obj := (Obj.mk (Value.type "tuple") none (Data.seq (List.toArray ((Value.str (Str.ofString "feed") 550) :: (Value.str (Str.ofString "begin") 551) :: (Value.str (Str.ofString "floors") 552) :: (Value.str (Str.ofString "text") 553) :: (Value.str (Str.ofString "lap") 554) :: (Value.str (Str.ofString "way") 555) :: [])) 0) (List.toArray ([])))
noncomputable abbrev b249 (P : Params) : Obj := (Obj.mk (Value.type "tuple") none (Data.seq (List.toArray ([])) 0) (List.toArray ([])))
noncomputable abbrev b250 (P : Params) : Obj := (Obj.mk Value.none none (Data.func (FuncData.mk (Str.ofString "_law_quoted") (Str.ofString "_law_quoted") (fA (st 22)) (FuncBody.stmts (fB (st 22))) (fS (st 22)) 0 ([]) Value.none Value.none Value.none Value.none none Value.none Value.none 0)) (List.toArray ([])))
noncomputable abbrev b253 (P : Params) : Obj := (Obj.mk (Value.type "tuple") none (Data.seq (List.toArray ([])) 0) (List.toArray ([])))
noncomputable abbrev b254 (P : Params) : Obj := (Obj.mk Value.none none (Data.fields (List.toArray ([]))) (List.toArray ([])))
noncomputable abbrev b255 (P : Params) : Obj := (Obj.mk Value.none none (Data.func (FuncData.mk (Str.ofString "law") (Str.ofString "law") (fA (st 23)) (FuncBody.stmts (fB (st 23))) (fS (st 23)) 0 ([]) Value.none Value.none Value.none Value.none none Value.none Value.none 0)) (List.toArray ([])))
noncomputable def hp46 (P : Params) : Heap := (PySem.Heap.mk (Array.mk ((boot_o_0 P) :: (boot_o_1 P) :: (boot_o_2 P) :: (boot_o_3 P) :: (boot_o_4 P) :: (boot_o_5 P) :: (boot_o_6 P) :: (boot_o_7 P) :: (boot_o_8 P) :: (boot_o_9 P) :: (boot_o_10 P) :: (b43 P) :: (b44 P) :: (b45 P) :: (b46 P) :: [])) (PySem.Life.mk ([]) ([]) ([]) 0 ([]) ([]) Bool.false (List.toArray ([])) ([]) 0 Bool.false Bool.false Bool.false 0 (2000 :: 10 :: 10 :: []) Bool.false 0 Bool.true ([]) ([]) 0 Bool.false))
noncomputable def tr47 (P : Params) : BT := (BT.node (boot_o_0 P) (BT.node (boot_o_1 P) (BT.node (boot_o_3 P) (BT.node (boot_o_7 P) BT.nil BT.nil) (BT.node (b43 P) BT.nil BT.nil)) (BT.node (boot_o_5 P) (BT.node (boot_o_9 P) BT.nil BT.nil) (BT.node (b45 P) BT.nil BT.nil))) (BT.node (boot_o_2 P) (BT.node (boot_o_4 P) (BT.node (boot_o_8 P) BT.nil BT.nil) (BT.node (b44 P) BT.nil BT.nil)) (BT.node (boot_o_6 P) (BT.node (boot_o_10 P) BT.nil BT.nil) (BT.node (b46 P) BT.nil BT.nil))))
noncomputable def tr80 (P : Params) : BT := (BT.node (boot_o_0 P) (BT.node (boot_o_1 P) (BT.node (b50 P) (BT.node (boot_o_7 P) (BT.node (o15 P) (BT.node (b68 P) BT.nil BT.nil) BT.nil) (BT.node (o23 P) (BT.node (o39 P) BT.nil BT.nil) BT.nil)) (BT.node (b43 P) (BT.node (b56 P) (BT.node (b72 P) BT.nil BT.nil) BT.nil) (BT.node (b64 P) (BT.node (b80 P) BT.nil BT.nil) BT.nil))) (BT.node (boot_o_5 P) (BT.node (boot_o_9 P) (BT.node (b54 P) (BT.node (b70 P) BT.nil BT.nil) BT.nil) (BT.node (b62 P) (BT.node (b78 P) BT.nil BT.nil) BT.nil)) (BT.node (b45 P) (BT.node (b58 P) (BT.node (b74 P) BT.nil BT.nil) BT.nil) (BT.node (o29 P) BT.nil BT.nil)))) (BT.node (o2 P) (BT.node (boot_o_4 P) (BT.node (boot_o_8 P) (BT.node (b53 P) (BT.node (b69 P) BT.nil BT.nil) BT.nil) (BT.node (b61 P) (BT.node (b77 P) BT.nil BT.nil) BT.nil)) (BT.node (b51 P) (BT.node (b57 P) (BT.node (b73 P) BT.nil BT.nil) BT.nil) (BT.node (b65 P) BT.nil BT.nil))) (BT.node (boot_o_6 P) (BT.node (boot_o_10 P) (BT.node (o18 P) (BT.node (b71 P) BT.nil BT.nil) BT.nil) (BT.node (b63 P) (BT.node (b79 P) BT.nil BT.nil) BT.nil)) (BT.node (b46 P) (BT.node (b59 P) (BT.node (b75 P) BT.nil BT.nil) BT.nil) (BT.node (o30 P) BT.nil BT.nil)))))
noncomputable def tr111 (P : Params) : BT := (BT.node (boot_o_0 P) (BT.node (boot_o_1 P) (BT.node (b81 P) (BT.node (boot_o_7 P) (BT.node (o15 P) (BT.node (b68 P) (BT.node (b103 P) BT.nil BT.nil) BT.nil) (BT.node (o47 P) BT.nil BT.nil)) (BT.node (o23 P) (BT.node (o39 P) (BT.node (b111 P) BT.nil BT.nil) BT.nil) (BT.node (b95 P) BT.nil BT.nil))) (BT.node (b43 P) (BT.node (b56 P) (BT.node (b72 P) (BT.node (b107 P) BT.nil BT.nil) BT.nil) (BT.node (b91 P) BT.nil BT.nil)) (BT.node (b64 P) (BT.node (b80 P) BT.nil BT.nil) (BT.node (o59 P) BT.nil BT.nil)))) (BT.node (boot_o_5 P) (BT.node (boot_o_9 P) (BT.node (b54 P) (BT.node (b70 P) (BT.node (b105 P) BT.nil BT.nil) BT.nil) (BT.node (b89 P) BT.nil BT.nil)) (BT.node (b62 P) (BT.node (b78 P) BT.nil BT.nil) (BT.node (b97 P) BT.nil BT.nil))) (BT.node (b45 P) (BT.node (b58 P) (BT.node (b74 P) (BT.node (b109 P) BT.nil BT.nil) BT.nil) (BT.node (b93 P) BT.nil BT.nil)) (BT.node (o29 P) (BT.node (b85 P) BT.nil BT.nil) (BT.node (b101 P) BT.nil BT.nil))))) (BT.node (o2 P) (BT.node (boot_o_4 P) (BT.node (boot_o_8 P) (BT.node (b53 P) (BT.node (b69 P) (BT.node (b104 P) BT.nil BT.nil) BT.nil) (BT.node (b88 P) BT.nil BT.nil)) (BT.node (b61 P) (BT.node (o40 P) BT.nil BT.nil) (BT.node (b96 P) BT.nil BT.nil))) (BT.node (b82 P) (BT.node (b57 P) (BT.node (b73 P) (BT.node (o68 P) BT.nil BT.nil) BT.nil) (BT.node (o52 P) BT.nil BT.nil)) (BT.node (b65 P) (BT.node (o44 P) BT.nil BT.nil) (BT.node (b100 P) BT.nil BT.nil)))) (BT.node (boot_o_6 P) (BT.node (boot_o_10 P) (BT.node (o18 P) (BT.node (b71 P) (BT.node (b106 P) BT.nil BT.nil) BT.nil) (BT.node (b90 P) BT.nil BT.nil)) (BT.node (b63 P) (BT.node (b79 P) BT.nil BT.nil) (BT.node (o58 P) BT.nil BT.nil))) (BT.node (b46 P) (BT.node (b59 P) (BT.node (b75 P) (BT.node (b110 P) BT.nil BT.nil) BT.nil) (BT.node (b94 P) BT.nil BT.nil)) (BT.node (o30 P) (BT.node (b86 P) BT.nil BT.nil) (BT.node (b102 P) BT.nil BT.nil))))))
noncomputable def tr132 (P : Params) : BT := (BT.node (boot_o_0 P) (BT.node (boot_o_1 P) (BT.node (b132 P) (BT.node (boot_o_7 P) (BT.node (o15 P) (BT.node (b68 P) (BT.node (b103 P) BT.nil BT.nil) BT.nil) (BT.node (o47 P) (BT.node (b122 P) BT.nil BT.nil) BT.nil)) (BT.node (o23 P) (BT.node (o39 P) (BT.node (b111 P) BT.nil BT.nil) BT.nil) (BT.node (b95 P) BT.nil BT.nil))) (BT.node (b43 P) (BT.node (b56 P) (BT.node (b72 P) (BT.node (b107 P) BT.nil BT.nil) BT.nil) (BT.node (b91 P) (BT.node (b126 P) BT.nil BT.nil) BT.nil)) (BT.node (b64 P) (BT.node (b80 P) (BT.node (b118 P) BT.nil BT.nil) BT.nil) (BT.node (o59 P) BT.nil BT.nil)))) (BT.node (boot_o_5 P) (BT.node (boot_o_9 P) (BT.node (b54 P) (BT.node (b70 P) (BT.node (b105 P) BT.nil BT.nil) BT.nil) (BT.node (b89 P) (BT.node (o81 P) BT.nil BT.nil) BT.nil)) (BT.node (b62 P) (BT.node (b78 P) (BT.node (b116 P) BT.nil BT.nil) BT.nil) (BT.node (b97 P) BT.nil BT.nil))) (BT.node (b45 P) (BT.node (b58 P) (BT.node (b74 P) (BT.node (o69 P) BT.nil BT.nil) BT.nil) (BT.node (b93 P) (BT.node (b128 P) BT.nil BT.nil) BT.nil)) (BT.node (o29 P) (BT.node (b85 P) (BT.node (b120 P) BT.nil BT.nil) BT.nil) (BT.node (b101 P) BT.nil BT.nil))))) (BT.node (o2 P) (BT.node (boot_o_4 P) (BT.node (boot_o_8 P) (BT.node (b53 P) (BT.node (b69 P) (BT.node (b104 P) BT.nil BT.nil) BT.nil) (BT.node (b88 P) (BT.node (o80 P) BT.nil BT.nil) BT.nil)) (BT.node (b61 P) (BT.node (o40 P) (BT.node (o72 P) BT.nil BT.nil) BT.nil) (BT.node (b96 P) BT.nil BT.nil))) (BT.node (b113 P) (BT.node (b57 P) (BT.node (b73 P) (BT.node (o68 P) BT.nil BT.nil) BT.nil) (BT.node (o52 P) (BT.node (b127 P) BT.nil BT.nil) BT.nil)) (BT.node (b65 P) (BT.node (o44 P) (BT.node (b119 P) BT.nil BT.nil) BT.nil) (BT.node (b100 P) BT.nil BT.nil)))) (BT.node (boot_o_6 P) (BT.node (boot_o_10 P) (BT.node (o18 P) (BT.node (b71 P) (BT.node (b106 P) BT.nil BT.nil) BT.nil) (BT.node (b90 P) (BT.node (b125 P) BT.nil BT.nil) BT.nil)) (BT.node (b63 P) (BT.node (b79 P) (BT.node (b117 P) BT.nil BT.nil) BT.nil) (BT.node (o58 P) BT.nil BT.nil))) (BT.node (b46 P) (BT.node (b59 P) (BT.node (b75 P) (BT.node (b110 P) BT.nil BT.nil) BT.nil) (BT.node (b94 P) (BT.node (b129 P) BT.nil BT.nil) BT.nil)) (BT.node (o30 P) (BT.node (b86 P) (BT.node (b121 P) BT.nil BT.nil) BT.nil) (BT.node (b102 P) BT.nil BT.nil))))))
noncomputable def tr220 (P : Params) : BT := (BT.node (boot_o_0 P) (BT.node (boot_o_1 P) (BT.node (b134 P) (BT.node (boot_o_7 P) (BT.node (o15 P) (BT.node (b68 P) (BT.node (b103 P) (BT.node (b176 P) BT.nil BT.nil) BT.nil) (BT.node (b144 P) (BT.node (b208 P) BT.nil BT.nil) BT.nil)) (BT.node (o47 P) (BT.node (b122 P) (BT.node (o143 P) BT.nil BT.nil) BT.nil) (BT.node (b160 P) BT.nil BT.nil))) (BT.node (o23 P) (BT.node (o39 P) (BT.node (b111 P) (BT.node (b184 P) BT.nil BT.nil) BT.nil) (BT.node (b152 P) (BT.node (o167 P) BT.nil BT.nil) BT.nil)) (BT.node (b95 P) (BT.node (b136 P) (BT.node (b200 P) BT.nil BT.nil) BT.nil) (BT.node (b168 P) BT.nil BT.nil)))) (BT.node (b43 P) (BT.node (b56 P) (BT.node (b72 P) (BT.node (b107 P) (BT.node (b180 P) BT.nil BT.nil) BT.nil) (BT.node (b148 P) (BT.node (b212 P) BT.nil BT.nil) BT.nil)) (BT.node (b91 P) (BT.node (b126 P) (BT.node (b196 P) BT.nil BT.nil) BT.nil) (BT.node (o115 P) BT.nil BT.nil))) (BT.node (b64 P) (BT.node (b80 P) (BT.node (b118 P) (BT.node (b188 P) BT.nil BT.nil) BT.nil) (BT.node (o107 P) (BT.node (b220 P) BT.nil BT.nil) BT.nil)) (BT.node (o59 P) (BT.node (b140 P) (BT.node (b204 P) BT.nil BT.nil) BT.nil) (BT.node (b172 P) BT.nil BT.nil))))) (BT.node (boot_o_5 P) (BT.node (boot_o_9 P) (BT.node (b54 P) (BT.node (b70 P) (BT.node (b105 P) (BT.node (b178 P) BT.nil BT.nil) BT.nil) (BT.node (b146 P) (BT.node (b210 P) BT.nil BT.nil) BT.nil)) (BT.node (b89 P) (BT.node (o81 P) (BT.node (b194 P) BT.nil BT.nil) BT.nil) (BT.node (b162 P) BT.nil BT.nil))) (BT.node (b62 P) (BT.node (b78 P) (BT.node (b116 P) (BT.node (b186 P) BT.nil BT.nil) BT.nil) (BT.node (b154 P) (BT.node (b218 P) BT.nil BT.nil) BT.nil)) (BT.node (b97 P) (BT.node (b138 P) (BT.node (b202 P) BT.nil BT.nil) BT.nil) (BT.node (b170 P) BT.nil BT.nil)))) (BT.node (b45 P) (BT.node (b58 P) (BT.node (b74 P) (BT.node (o69 P) (BT.node (b182 P) BT.nil BT.nil) BT.nil) (BT.node (o101 P) (BT.node (b214 P) BT.nil BT.nil) BT.nil)) (BT.node (b93 P) (BT.node (b128 P) (BT.node (b198 P) BT.nil BT.nil) BT.nil) (BT.node (b166 P) BT.nil BT.nil))) (BT.node (o29 P) (BT.node (b85 P) (BT.node (b120 P) (BT.node (b190 P) BT.nil BT.nil) BT.nil) (BT.node (b158 P) BT.nil BT.nil)) (BT.node (b101 P) (BT.node (b142 P) (BT.node (b206 P) BT.nil BT.nil) BT.nil) (BT.node (b174 P) BT.nil BT.nil)))))) (BT.node (o2 P) (BT.node (boot_o_4 P) (BT.node (boot_o_8 P) (BT.node (b53 P) (BT.node (b69 P) (BT.node (b104 P) (BT.node (b177 P) BT.nil BT.nil) BT.nil) (BT.node (b145 P) (BT.node (b209 P) BT.nil BT.nil) BT.nil)) (BT.node (b88 P) (BT.node (o80 P) (BT.node (b193 P) BT.nil BT.nil) BT.nil) (BT.node (b161 P) BT.nil BT.nil))) (BT.node (b61 P) (BT.node (o40 P) (BT.node (o72 P) (BT.node (b185 P) BT.nil BT.nil) BT.nil) (BT.node (b153 P) (BT.node (b217 P) BT.nil BT.nil) BT.nil)) (BT.node (b96 P) (BT.node (b137 P) (BT.node (b201 P) BT.nil BT.nil) BT.nil) (BT.node (b169 P) BT.nil BT.nil)))) (BT.node (b135 P) (BT.node (b57 P) (BT.node (b73 P) (BT.node (o68 P) (BT.node (b181 P) BT.nil BT.nil) BT.nil) (BT.node (o100 P) (BT.node (b213 P) BT.nil BT.nil) BT.nil)) (BT.node (o52 P) (BT.node (b127 P) (BT.node (b197 P) BT.nil BT.nil) BT.nil) (BT.node (b165 P) BT.nil BT.nil))) (BT.node (b65 P) (BT.node (o44 P) (BT.node (b119 P) (BT.node (b189 P) BT.nil BT.nil) BT.nil) (BT.node (o108 P) BT.nil BT.nil)) (BT.node (b100 P) (BT.node (b141 P) (BT.node (b205 P) BT.nil BT.nil) BT.nil) (BT.node (b173 P) BT.nil BT.nil))))) (BT.node (boot_o_6 P) (BT.node (boot_o_10 P) (BT.node (o18 P) (BT.node (b71 P) (BT.node (b106 P) (BT.node (b179 P) BT.nil BT.nil) BT.nil) (BT.node (b147 P) (BT.node (b211 P) BT.nil BT.nil) BT.nil)) (BT.node (b90 P) (BT.node (b125 P) (BT.node (b195 P) BT.nil BT.nil) BT.nil) (BT.node (o114 P) BT.nil BT.nil))) (BT.node (b63 P) (BT.node (b79 P) (BT.node (b117 P) (BT.node (b187 P) BT.nil BT.nil) BT.nil) (BT.node (b155 P) (BT.node (b219 P) BT.nil BT.nil) BT.nil)) (BT.node (o58 P) (BT.node (b139 P) (BT.node (b203 P) BT.nil BT.nil) BT.nil) (BT.node (b171 P) BT.nil BT.nil)))) (BT.node (b46 P) (BT.node (b59 P) (BT.node (b75 P) (BT.node (b110 P) (BT.node (b183 P) BT.nil BT.nil) BT.nil) (BT.node (b151 P) (BT.node (o166 P) BT.nil BT.nil) BT.nil)) (BT.node (b94 P) (BT.node (b129 P) (BT.node (b199 P) BT.nil BT.nil) BT.nil) (BT.node (b167 P) BT.nil BT.nil))) (BT.node (o30 P) (BT.node (b86 P) (BT.node (b121 P) (BT.node (o142 P) BT.nil BT.nil) BT.nil) (BT.node (b159 P) BT.nil BT.nil)) (BT.node (b102 P) (BT.node (o94 P) (BT.node (b207 P) BT.nil BT.nil) BT.nil) (BT.node (b175 P) BT.nil BT.nil)))))))
noncomputable def tr257 (P : Params) : BT := (BT.node (boot_o_0 P) (BT.node (boot_o_1 P) (BT.node (o3 P) (BT.node (boot_o_7 P) (BT.node (o15 P) (BT.node (b68 P) (BT.node (b103 P) (BT.node (b176 P) BT.nil BT.nil) (BT.node (b242 P) BT.nil BT.nil)) (BT.node (b144 P) (BT.node (b208 P) BT.nil BT.nil) BT.nil)) (BT.node (o47 P) (BT.node (b122 P) (BT.node (o143 P) BT.nil BT.nil) BT.nil) (BT.node (b160 P) (BT.node (o175 P) BT.nil BT.nil) BT.nil))) (BT.node (o23 P) (BT.node (o39 P) (BT.node (b111 P) (BT.node (b184 P) BT.nil BT.nil) (BT.node (b250 P) BT.nil BT.nil)) (BT.node (b152 P) (BT.node (o167 P) BT.nil BT.nil) BT.nil)) (BT.node (b95 P) (BT.node (b136 P) (BT.node (b200 P) BT.nil BT.nil) BT.nil) (BT.node (b168 P) (BT.node (b234 P) BT.nil BT.nil) BT.nil)))) (BT.node (b43 P) (BT.node (b56 P) (BT.node (b72 P) (BT.node (b107 P) (BT.node (b180 P) BT.nil BT.nil) (BT.node (b246 P) BT.nil BT.nil)) (BT.node (b148 P) (BT.node (b212 P) BT.nil BT.nil) BT.nil)) (BT.node (b91 P) (BT.node (b126 P) (BT.node (b196 P) BT.nil BT.nil) BT.nil) (BT.node (o115 P) (BT.node (b230 P) BT.nil BT.nil) BT.nil))) (BT.node (b64 P) (BT.node (b80 P) (BT.node (b118 P) (BT.node (b188 P) BT.nil BT.nil) (BT.node (b254 P) BT.nil BT.nil)) (BT.node (o107 P) (BT.node (b220 P) BT.nil BT.nil) BT.nil)) (BT.node (o59 P) (BT.node (b140 P) (BT.node (b204 P) BT.nil BT.nil) BT.nil) (BT.node (b172 P) (BT.node (b238 P) BT.nil BT.nil) BT.nil))))) (BT.node (boot_o_5 P) (BT.node (boot_o_9 P) (BT.node (b54 P) (BT.node (b70 P) (BT.node (b105 P) (BT.node (b178 P) BT.nil BT.nil) (BT.node (o193 P) BT.nil BT.nil)) (BT.node (b146 P) (BT.node (b210 P) BT.nil BT.nil) BT.nil)) (BT.node (b89 P) (BT.node (o81 P) (BT.node (b194 P) BT.nil BT.nil) BT.nil) (BT.node (b162 P) (BT.node (b228 P) BT.nil BT.nil) BT.nil))) (BT.node (b62 P) (BT.node (b78 P) (BT.node (b116 P) (BT.node (b186 P) BT.nil BT.nil) (BT.node (o201 P) BT.nil BT.nil)) (BT.node (b154 P) (BT.node (b218 P) BT.nil BT.nil) BT.nil)) (BT.node (b97 P) (BT.node (b138 P) (BT.node (b202 P) BT.nil BT.nil) BT.nil) (BT.node (b170 P) (BT.node (b236 P) BT.nil BT.nil) BT.nil)))) (BT.node (b45 P) (BT.node (b58 P) (BT.node (b74 P) (BT.node (o69 P) (BT.node (b182 P) BT.nil BT.nil) (BT.node (b248 P) BT.nil BT.nil)) (BT.node (o101 P) (BT.node (b214 P) BT.nil BT.nil) BT.nil)) (BT.node (b93 P) (BT.node (b128 P) (BT.node (b198 P) BT.nil BT.nil) BT.nil) (BT.node (b166 P) (BT.node (o181 P) BT.nil BT.nil) BT.nil))) (BT.node (o29 P) (BT.node (b85 P) (BT.node (b120 P) (BT.node (b190 P) BT.nil BT.nil) (BT.node (o205 P) BT.nil BT.nil)) (BT.node (b158 P) (BT.node (o173 P) BT.nil BT.nil) BT.nil)) (BT.node (b101 P) (BT.node (b142 P) (BT.node (b206 P) BT.nil BT.nil) BT.nil) (BT.node (b174 P) (BT.node (o189 P) BT.nil BT.nil) BT.nil)))))) (BT.node (o2 P) (BT.node (boot_o_4 P) (BT.node (boot_o_8 P) (BT.node (b53 P) (BT.node (b69 P) (BT.node (b104 P) (BT.node (b177 P) BT.nil BT.nil) (BT.node (b243 P) BT.nil BT.nil)) (BT.node (b145 P) (BT.node (b209 P) BT.nil BT.nil) BT.nil)) (BT.node (b88 P) (BT.node (o80 P) (BT.node (b193 P) BT.nil BT.nil) BT.nil) (BT.node (b161 P) (BT.node (b227 P) BT.nil BT.nil) BT.nil))) (BT.node (b61 P) (BT.node (o40 P) (BT.node (o72 P) (BT.node (b185 P) BT.nil BT.nil) (BT.node (o200 P) BT.nil BT.nil)) (BT.node (b153 P) (BT.node (b217 P) BT.nil BT.nil) BT.nil)) (BT.node (b96 P) (BT.node (b137 P) (BT.node (b201 P) BT.nil BT.nil) BT.nil) (BT.node (b169 P) (BT.node (b235 P) BT.nil BT.nil) BT.nil)))) (BT.node (b222 P) (BT.node (b57 P) (BT.node (b73 P) (BT.node (o68 P) (BT.node (b181 P) BT.nil BT.nil) (BT.node (b247 P) BT.nil BT.nil)) (BT.node (o100 P) (BT.node (b213 P) BT.nil BT.nil) BT.nil)) (BT.node (o52 P) (BT.node (b127 P) (BT.node (b197 P) BT.nil BT.nil) BT.nil) (BT.node (b165 P) (BT.node (b231 P) BT.nil BT.nil) BT.nil))) (BT.node (b65 P) (BT.node (o44 P) (BT.node (b119 P) (BT.node (b189 P) BT.nil BT.nil) (BT.node (b255 P) BT.nil BT.nil)) (BT.node (o108 P) (BT.node (o172 P) BT.nil BT.nil) BT.nil)) (BT.node (b100 P) (BT.node (b141 P) (BT.node (b205 P) BT.nil BT.nil) BT.nil) (BT.node (b173 P) (BT.node (o188 P) BT.nil BT.nil) BT.nil))))) (BT.node (boot_o_6 P) (BT.node (boot_o_10 P) (BT.node (o18 P) (BT.node (b71 P) (BT.node (b106 P) (BT.node (b179 P) BT.nil BT.nil) (BT.node (o194 P) BT.nil BT.nil)) (BT.node (b147 P) (BT.node (b211 P) BT.nil BT.nil) BT.nil)) (BT.node (b90 P) (BT.node (b125 P) (BT.node (b195 P) BT.nil BT.nil) BT.nil) (BT.node (o114 P) (BT.node (b229 P) BT.nil BT.nil) BT.nil))) (BT.node (b63 P) (BT.node (b79 P) (BT.node (b117 P) (BT.node (b187 P) BT.nil BT.nil) (BT.node (b253 P) BT.nil BT.nil)) (BT.node (b155 P) (BT.node (b219 P) BT.nil BT.nil) BT.nil)) (BT.node (o58 P) (BT.node (b139 P) (BT.node (b203 P) BT.nil BT.nil) BT.nil) (BT.node (b171 P) (BT.node (b237 P) BT.nil BT.nil) BT.nil)))) (BT.node (b46 P) (BT.node (b59 P) (BT.node (b75 P) (BT.node (b110 P) (BT.node (b183 P) BT.nil BT.nil) (BT.node (b249 P) BT.nil BT.nil)) (BT.node (b151 P) (BT.node (o166 P) BT.nil BT.nil) BT.nil)) (BT.node (b94 P) (BT.node (b129 P) (BT.node (b199 P) BT.nil BT.nil) BT.nil) (BT.node (b167 P) (BT.node (o182 P) BT.nil BT.nil) BT.nil))) (BT.node (o30 P) (BT.node (b86 P) (BT.node (b121 P) (BT.node (o142 P) BT.nil BT.nil) (BT.node (o206 P) BT.nil BT.nil)) (BT.node (b159 P) (BT.node (o174 P) BT.nil BT.nil) BT.nil)) (BT.node (b102 P) (BT.node (o94 P) (BT.node (b207 P) BT.nil BT.nil) BT.nil) (BT.node (b175 P) (BT.node (b241 P) BT.nil BT.nil) BT.nil)))))))
noncomputable def hp258 (P : Params) : Heap := (PySem.Heap.mk (Array.mk ((boot_o_0 P) :: (boot_o_1 P) :: (o2 P) :: (o3 P) :: (boot_o_4 P) :: (boot_o_5 P) :: (boot_o_6 P) :: (boot_o_7 P) :: (boot_o_8 P) :: (boot_o_9 P) :: (boot_o_10 P) :: (b43 P) :: (b222 P) :: (b45 P) :: (b46 P) :: (o15 P) :: (b53 P) :: (b54 P) :: (o18 P) :: (b56 P) :: (b57 P) :: (b58 P) :: (b59 P) :: (o23 P) :: (b61 P) :: (b62 P) :: (b63 P) :: (b64 P) :: (b65 P) :: (o29 P) :: (o30 P) :: (b68 P) :: (b69 P) :: (b70 P) :: (b71 P) :: (b72 P) :: (b73 P) :: (b74 P) :: (b75 P) :: (o39 P) :: (o40 P) :: (b78 P) :: (b79 P) :: (b80 P) :: (o44 P) :: (b85 P) :: (b86 P) :: (o47 P) :: (b88 P) :: (b89 P) :: (b90 P) :: (b91 P) :: (o52 P) :: (b93 P) :: (b94 P) :: (b95 P) :: (b96 P) :: (b97 P) :: (o58 P) :: (o59 P) :: (b100 P) :: (b101 P) :: (b102 P) :: (b103 P) :: (b104 P) :: (b105 P) :: (b106 P) :: (b107 P) :: (o68 P) :: (o69 P) :: (b110 P) :: (b111 P) :: (o72 P) :: (b116 P) :: (b117 P) :: (b118 P) :: (b119 P) :: (b120 P) :: (b121 P) :: (b122 P) :: (o80 P) :: (o81 P) :: (b125 P) :: (b126 P) :: (b127 P) :: (b128 P) :: (b129 P) :: (b136 P) :: (b137 P) :: (b138 P) :: (b139 P) :: (b140 P) :: (b141 P) :: (b142 P) :: (o94 P) :: (b144 P) :: (b145 P) :: (b146 P) :: (b147 P) :: (b148 P) :: (o100 P) :: (o101 P) :: (b151 P) :: (b152 P) :: (b153 P) :: (b154 P) :: (b155 P) :: (o107 P) :: (o108 P) :: (b158 P) :: (b159 P) :: (b160 P) :: (b161 P) :: (b162 P) :: (o114 P) :: (o115 P) :: (b165 P) :: (b166 P) :: (b167 P) :: (b168 P) :: (b169 P) :: (b170 P) :: (b171 P) :: (b172 P) :: (b173 P) :: (b174 P) :: (b175 P) :: (b176 P) :: (b177 P) :: (b178 P) :: (b179 P) :: (b180 P) :: (b181 P) :: (b182 P) :: (b183 P) :: (b184 P) :: (b185 P) :: (b186 P) :: (b187 P) :: (b188 P) :: (b189 P) :: (b190 P) :: (o142 P) :: (o143 P) :: (b193 P) :: (b194 P) :: (b195 P) :: (b196 P) :: (b197 P) :: (b198 P) :: (b199 P) :: (b200 P) :: (b201 P) :: (b202 P) :: (b203 P) :: (b204 P) :: (b205 P) :: (b206 P) :: (b207 P) :: (b208 P) :: (b209 P) :: (b210 P) :: (b211 P) :: (b212 P) :: (b213 P) :: (b214 P) :: (o166 P) :: (o167 P) :: (b217 P) :: (b218 P) :: (b219 P) :: (b220 P) :: (o172 P) :: (o173 P) :: (o174 P) :: (o175 P) :: (b227 P) :: (b228 P) :: (b229 P) :: (b230 P) :: (b231 P) :: (o181 P) :: (o182 P) :: (b234 P) :: (b235 P) :: (b236 P) :: (b237 P) :: (b238 P) :: (o188 P) :: (o189 P) :: (b241 P) :: (b242 P) :: (b243 P) :: (o193 P) :: (o194 P) :: (b246 P) :: (b247 P) :: (b248 P) :: (b249 P) :: (b250 P) :: (o200 P) :: (o201 P) :: (b253 P) :: (b254 P) :: (b255 P) :: (o205 P) :: (o206 P) :: [])) (PySem.Life.mk ([]) ([]) ([]) 0 ([]) ([]) Bool.false (List.toArray ([])) ([]) 0 Bool.false Bool.false Bool.false 0 (2000 :: 10 :: 10 :: []) Bool.false 0 Bool.true ([]) ([]) 0 Bool.false))
theorem h_pre (w : World) (os : OsState) : topGo treeTable HP w 11 (some (Value.ref 6)) 12 ⟨boot_heap w.params, ⟨[]⟩, boot_drawn, boot_toks, os⟩ (topStub HP) = some (SH (hp46 w.params) 187 os, ⟨denote treeTable hC, hC, p0, [topFrame p0]⟩) := by kernel_rfl
theorem h_block (w : World) (os : OsState) : segRun treeTable HP w 11 (some (Value.ref 6)) 1 1 (SH (hp46 w.params) 187 os) (blockOf (behindTheImports HP) hEnv hC p0 [topFrame p0]) = some (Flow.next, (ST (tr47 w.params) 15 187 os).abs, hC, p0) := by kernel_rfl
theorem pa (w : World) (os : OsState) : segRunT treeTable HP w 11 (some (Value.ref 6)) 1 600 (ST (tr47 w.params) 15 187 os) (piecesOf sa hEnv hC p0 [topFrame p0]) = some (Flow.next, ST (tr80 w.params) 44 227 os, hC, ⟨2, 0, 9, 24⟩) := by kernel_rfl
theorem pb (w : World) (os : OsState) : segRunT treeTable HP w 11 (some (Value.ref 6)) 1 600 (ST (tr80 w.params) 44 227 os) (piecesOf sb hEnv hC ⟨2, 0, 9, 24⟩ [topFrame p0]) = some (Flow.next, ST (tr111 w.params) 72 262 os, hC, ⟨10, 0, 17, 47⟩) := by kernel_rfl
theorem pc_false (w : World) : ∀ os : OsState, segRunT treeTable HP (w.withFollow "special-get-raises" false) 11 (some (Value.ref 6)) 1 600 (ST (tr111 (w.withFollow "special-get-raises" false).params) 72 262 os) (piecesOf sc3 hEnv hC ⟨10, 0, 17, 47⟩ [topFrame p0]) = some (Flow.next, ST (tr132 (w.withFollow "special-get-raises" false).params) 87 373 os, hC, ⟨28, 0, 28, 12⟩) := fun os => by kernel_rfl
theorem pc_true (w : World) : ∀ os : OsState, segRunT treeTable HP (w.withFollow "special-get-raises" true) 11 (some (Value.ref 6)) 1 600 (ST (tr111 (w.withFollow "special-get-raises" true).params) 72 262 os) (piecesOf sc3 hEnv hC ⟨10, 0, 17, 47⟩ [topFrame p0]) = some (Flow.next, ST (tr132 (w.withFollow "special-get-raises" true).params) 87 373 os, hC, ⟨28, 0, 28, 12⟩) := fun os => by kernel_rfl
theorem pc (w : World) (os : OsState) : segRunT treeTable HP w 11 (some (Value.ref 6)) 1 600 (ST (tr111 w.params) 72 262 os) (piecesOf sc3 hEnv hC ⟨10, 0, 17, 47⟩ [topFrame p0]) = some (Flow.next, ST (tr132 w.params) 87 373 os, hC, ⟨28, 0, 28, 12⟩) := byRow2 "special-get-raises" (P := fun w => ∀ os : OsState, segRunT treeTable HP w 11 (some (Value.ref 6)) 1 600 (ST (tr111 w.params) 72 262 os) (piecesOf sc3 hEnv hC ⟨10, 0, 17, 47⟩ [topFrame p0]) = some (Flow.next, ST (tr132 w.params) 87 373 os, hC, ⟨28, 0, 28, 12⟩)) pc_false pc_true w os
theorem pd (w : World) (os : OsState) : segRunT treeTable HP w 11 (some (Value.ref 6)) 1 600 (ST (tr132 w.params) 87 373 os) (piecesOf sd hEnv hC ⟨28, 0, 28, 12⟩ [topFrame p0]) = some (Flow.next, ST (tr220 w.params) 172 491 os, hC, ⟨29, 0, 143, 20⟩) := by kernel_rfl
theorem pe (w : World) (os : OsState) : segRunT treeTable HP w 11 (some (Value.ref 6)) 1 600 (ST (tr220 w.params) 172 491 os) (piecesOf se hEnv hC ⟨29, 0, 143, 20⟩ [topFrame p0]) = some (Flow.next, ST (tr257 w.params) 207 565 os, hC, ⟨189, 0, 206, 91⟩) := by kernel_rfl
theorem h_fin (w : World) (os : OsState) : topRun treeTable HP w 11 (some (Value.ref 6)) 2 (ST (tr257 w.params) 207 565 os).abs ⟨doneF Flow.next, hC, ⟨189, 0, 206, 91⟩, [topFrame p0]⟩ = some (SH (hp258 w.params) 565 os) := by kernel_rfl
theorem h_run (w : World) (os : OsState) : topRun treeTable HP w 11 (some (Value.ref 6)) (12 + (1 + (600 + (600 + (600 + (600 + (600 + 2))))))) ⟨boot_heap w.params, ⟨[]⟩, boot_drawn, boot_toks, os⟩ (topStub HP) = some (SH (hp258 w.params) 565 os) := by
  have z := piece_app (segRun_of (pa w os)) (piece_app (segRun_of (pb w os)) (piece_app (segRun_of (pc w os)) (piece_app (segRun_of (pd w os)) (piece_app (segRun_of (pe w os)) (piece_nil (h_fin w os))))))
  rw [← body_is] at z
  exact go_top (h_pre w os) (piece_block (h_block w os) z)
theorem kadr : ∀ P, (2 :: 3 :: 15 :: 18 :: 23 :: 29 :: 30 :: 39 :: 40 :: 44 :: 47 :: 52 :: 58 :: 59 :: 68 :: 69 :: 72 :: 80 :: 81 :: 94 :: 100 :: 101 :: 107 :: 108 :: 114 :: 115 :: 142 :: 143 :: 166 :: 167 :: 172 :: 173 :: 174 :: 175 :: 181 :: 182 :: 188 :: 189 :: 193 :: 194 :: 200 :: 201 :: 205 :: 206 :: []) = (KK P).map (·.1) := fun _ => by kernel_rfl
noncomputable abbrev hX : Shared → Bool := fun s => xlAt vw [] s && recOk (RowW.records PySem.Challenge.rw_pq0371_01.row.toRowW) s
theorem h_look1 (w : World) (os : OsState) : (staticsOk (importedModules HP.main.body) (boot_heap w.params) (hp258 w.params) && namesBound HP (hp258 w.params) && gensDone (SH (hp258 w.params) 565 os) && laidKept (boot_heap w.params) (hp258 w.params)) = true := by kernel_rfl
theorem h_look2 (w : World) (os : OsState) : openSeen vw [Str.ofString "ESCAPES"] (importedModules HP.main.body) hX true (SH (hp258 w.params) 565 os) = openGood vw [Str.ofString "ESCAPES"] := by kernel_rfl
theorem h_look3 (w : World) (os : OsState) : (kHook KK (2 :: 3 :: 15 :: 18 :: 23 :: 29 :: 30 :: 39 :: 40 :: 44 :: 47 :: 52 :: 58 :: 59 :: 68 :: 69 :: 72 :: 80 :: 81 :: 94 :: 100 :: 101 :: 107 :: 108 :: 114 :: 115 :: 142 :: 143 :: 166 :: 167 :: 172 :: 173 :: 174 :: 175 :: 181 :: 182 :: 188 :: 189 :: 193 :: 194 :: 200 :: 201 :: 205 :: 206 :: []) kadr).obs (SH (hp258 w.params) 565 os) = (kHook KK (2 :: 3 :: 15 :: 18 :: 23 :: 29 :: 30 :: 39 :: 40 :: 44 :: 47 :: 52 :: 58 :: 59 :: 68 :: 69 :: 72 :: 80 :: 81 :: 94 :: 100 :: 101 :: 107 :: 108 :: 114 :: 115 :: 142 :: 143 :: 166 :: 167 :: 172 :: 173 :: 174 :: 175 :: 181 :: 182 :: 188 :: 189 :: 193 :: 194 :: 200 :: 201 :: 205 :: 206 :: []) kadr).val w := by kernel_rfl
theorem h_size (w : World) : ((boot_heap w.params).isNs mainGlobals && (⟨[]⟩ : Array GenState).size == 0, (boot_heap w.params).objs.size, (boot_heap w.params).nsMap mainGlobals "__annotations__") = (true, 11, some (Value.ref 6)) := by kernel_rfl
theorem h_left : LeftO HP vw [Str.ofString "ESCAPES"] hX (kHook KK (2 :: 3 :: 15 :: 18 :: 23 :: 29 :: 30 :: 39 :: 40 :: 44 :: 47 :: 52 :: 58 :: 59 :: 68 :: 69 :: 72 :: 80 :: 81 :: 94 :: 100 :: 101 :: 107 :: 108 :: 114 :: 115 :: 142 :: 143 :: 166 :: 167 :: 172 :: 173 :: 174 :: 175 :: 181 :: 182 :: 188 :: 189 :: 193 :: 194 :: 200 :: 201 :: 205 :: 206 :: []) kadr).obs (kHook KK (2 :: 3 :: 15 :: 18 :: 23 :: 29 :: 30 :: 39 :: 40 :: 44 :: 47 :: 52 :: 58 :: 59 :: 68 :: 69 :: 72 :: 80 :: 81 :: 94 :: 100 :: 101 :: 107 :: 108 :: 114 :: 115 :: 142 :: 143 :: 166 :: 167 :: 172 :: 173 :: 174 :: 175 :: 181 :: 182 :: 188 :: 189 :: 193 :: 194 :: 200 :: 201 :: 205 :: 206 :: []) kadr).val 3660 :=
  LeftO.of_pieces (boot_open (by kernel_rfl) (by kernel_rfl) (fun _ => by kernel_rfl)) h_size h_run (by kernel_rfl) (fun w => funext fun os => looks_pair (h_look1 w os) (looks_pair (h_look2 w os) (h_look3 w os)))
theorem q1 : sreFenced HP.main = true := by kernel_rfl
theorem q2 : ((moduleNames HP.main.body).isEmpty || lookedIntoSs (moduleNames HP.main.body) HP.main.body) = true := by kernel_rfl
theorem q3 : namesResolve HP = true := by kernel_rfl
theorem q4 : HP.boundNames.all (fun n => !worldNames.contains n) = true := by kernel_rfl
theorem q5a : (["vars", "dir", "locals"] : List Str).filter (readsOut HP HP.main.body) = [] := by kernel_rfl
theorem q5b : (importedModules HP.main.body).all cThrough.contains = true := by kernel_rfl
theorem q5c : noRoadLSs { strict := !true, foot := none, bare := [] } HP.main.body = true := by kernel_rfl
theorem q6 : (namesMeet HP HP.main.body fun _ n => attrL n) = true := by kernel_rfl
theorem h_looks : looksOpen HP = true := by
  unfold looksOpen
  rw [q5a, q5b]
  iterate 5 (with_reducible refine look_both ?_ ?_)
  · exact q1
  · exact q2
  · exact q3
  · exact q4
  · exact q5c
  · exact q6
theorem h_part : PySem.Challenge.rw_pq0371_01.row.partSaid = true := by
  unfold OpenRow.partSaid
  repeat' with_reducible refine look_both ?_ ?_
  · exact h_looks
  all_goals kernel_rfl
theorem h_row : PySem.Challenge.rw_pq0371_01.row.wellSaid = true := by
  unfold OpenRow.wellSaid
  repeat' with_reducible refine look_both ?_ ?_
  · exact h_part
  all_goals kernel_rfl
noncomputable abbrev LL : OpenLaw := PySem.Challenge.rw_pq0371_01
theorem r9 : LL.bound'.all (fun n => !builtinNamed n || LL.about == [n] || !LL.reads n) = true := by kernel_rfl
theorem r11 : namesMeet LL.prog LL.footing (fun sc n => (!(["type", "isinstance", "issubclass", "getattr", "hasattr"] : List Str).contains n || sc.names.lookup n == some .globalImplicit) &&
    (LL.may != some n || sc.kind == .module || sc.names.lookup n == some .globalImplicit)) = true := by kernel_rfl
theorem r15 : namesMeet LL.prog LL.above (fun _ n => !LL.own.contains n) = true := by kernel_rfl
theorem r16 : (namesMeet LL.prog LL.footing fun sc n => sc.kind == .module || sc.names.lookup n != some .globalExplicit) = true := by kernel_rfl
theorem h_said : PySem.Challenge.rw_pq0371_01.wellSaid = true := by
  unfold OpenLaw.wellSaid
  repeat' with_reducible refine look_both ?_ ?_
  all_goals (with_reducible first | exact h_row | exact r9 | exact r11 | exact r15 | exact r16 | kernel_rfl)
section
theorem law_holds : PySem.Challenge.rw_pq0371_01.Holds := by
  w_on
  refine holds_law h_said (fun said => ?_)
  refine holds_open (q := vw) (loose := [Str.ofString "ESCAPES"]) (Xt := hX) (XP := XL vw []) (Yf := (kHook KK (2 :: 3 :: 15 :: 18 :: 23 :: 29 :: 30 :: 39 :: 40 :: 44 :: 47 :: 52 :: 58 :: 59 :: 68 :: 69 :: 72 :: 80 :: 81 :: 94 :: 100 :: 101 :: 107 :: 108 :: 114 :: 115 :: 142 :: 143 :: 166 :: 167 :: 172 :: 173 :: 174 :: 175 :: 181 :: 182 :: 188 :: 189 :: 193 :: 194 :: 200 :: 201 :: 205 :: 206 :: []) kadr).obs) (Ya := (kHook KK (2 :: 3 :: 15 :: 18 :: 23 :: 29 :: 30 :: 39 :: 40 :: 44 :: 47 :: 52 :: 58 :: 59 :: 68 :: 69 :: 72 :: 80 :: 81 :: 94 :: 100 :: 101 :: 107 :: 108 :: 114 :: 115 :: 142 :: 143 :: 166 :: 167 :: 172 :: 173 :: 174 :: 175 :: 181 :: 182 :: 188 :: 189 :: 193 :: 194 :: 200 :: 201 :: 205 :: 206 :: []) kadr).val) (YP := (kHook KK (2 :: 3 :: 15 :: 18 :: 23 :: 29 :: 30 :: 39 :: 40 :: 44 :: 47 :: 52 :: 58 :: 59 :: 68 :: 69 :: 72 :: 80 :: 81 :: 94 :: 100 :: 101 :: 107 :: 108 :: 114 :: 115 :: 142 :: 143 :: 166 :: 167 :: 172 :: 173 :: 174 :: 175 :: 181 :: 182 :: 188 :: 189 :: 193 :: 194 :: 200 :: 201 :: 205 :: 206 :: []) kadr).says) (N := 3660) h_left (Hook.of _) (Hook.keeps _) (fun s e => xl_of s (Bool.and_eq_true_iff.mp e).1) XL.keeps (by rfl) (by rfl) (by rfl) (fun s e => recFacts_of (Bool.and_eq_true_iff.mp e).2) (by rfl) (by first | assumption | decide +kernel) (by decide +kernel) ⟨rfl, rfl, rfl, rfl, rfl, by decide +kernel⟩ ?hw ?hc
  case hw => w_witness2
  clear said
  k_go0
  all_goals try k_fold
  k_with_none
  k_with "execs cons" => (first | (k_here; k_gentoks) | ((with_reducible refine wpAny_execs_cons ?_); (try dsimp only); (try k_fold)))
  k_with "setItem ref str" => (k_here; k_dflt (refine kda_set (knd := PySem.strKind _ _) (by k_asm) (by k_asm) (by k_updF) (by k_asm) (strKind_is _ _ _ _) (by kob_size) ?_); intro hq₉ oq₉ Fq₉ Nq₉ hdq₉; (try kob_lit); (try dsimp only at Nq₉))
  k_with "subscriptTail" => (k_here; (with_reducible show wpAny _ _ (subscriptTail _ _ (Value.ref 172) (Value.int _ _)) _ _ _); k_dflt (refine menu_item (menu_plain (by k_in)) mPlain_len (by first | (with_reducible assumption) | decide | omega) (by first | (with_reducible assumption) | (show _ < (7 : Int); omega)) (by first | (with_reducible assumption) | decide | omega) ?_); intro t9k₉ l9k₉)
  k_with "subscriptTail" => (k_here; (with_reducible show wpAny _ _ (subscriptTail _ _ (Value.ref 173) (Value.int _ _)) _ _ _); k_dflt (refine menu_item (menu_hidden (by k_in)) mHidden_len (by first | (with_reducible assumption) | decide | omega) (by first | (with_reducible assumption) | (show _ < (7 : Int); omega)) (by first | (with_reducible assumption) | decide | omega) ?_); intro t9k₉ l9k₉)
  k_with "subscriptTail" => (k_here; (with_reducible show wpAny _ _ (subscriptTail _ _ (Value.ref 174) (Value.int _ _)) _ _ _); k_dflt (refine menu_item (menu_lone (by k_in)) mLone_len (by first | (with_reducible assumption) | decide | omega) (by first | (with_reducible assumption) | (show _ < (7 : Int); omega)) (by first | (with_reducible assumption) | decide | omega) ?_); intro t9k₉ l9k₉)
  k_with "subscriptTail" => (k_here; (with_reducible show wpAny _ _ (subscriptTail _ _ (Value.ref 175) (Value.int _ _)) _ _ _); k_dflt (refine menu_item (menu_escaped (by k_in)) mEscaped_len (by first | (with_reducible assumption) | decide | omega) (by first | (with_reducible assumption) | (show _ < (4 : Int); omega)) (by first | (with_reducible assumption) | decide | omega) ?_); intro t9k₉ l9k₉)
  k_with "call ref" => (k_here; (with_reducible show wpAny _ _ (call (Value.ref 182) _) _ _ _); k_dflt (refine dip_call (by k_asm) (by k_asm) (by k_asm) (by k_asm) (by k_asm) (by exact rfl) (by k_updF) (by k_asm) (by k_mem) (by assumption) (by assumption) (by assumption) (by first | (with_reducible assumption) | decide | omega) (by first | (with_reducible assumption) | decide | omega) (by first | (with_reducible assumption) | decide | omega) (by first | (with_reducible assumption) | decide | omega) (by first | (show _ + 1 + 1 < _; omega) | ktr_room) ?_); intro t9k₉ h9k₉ tk9k₉ o9k₉ t19k₉ lo9k₉ hi9k₉ Fq₉ Nq₉ hd9k₉; (try dsimp only at Nq₉))
  k_with "call ref" => (k_here; (first | (with_reducible show wpAny _ _ (call (Value.ref 189) _) _ _ _) | (with_reducible show wpAny _ _ (call (Value.ref 194) _) _ _ _) | (with_reducible show wpAny _ _ (call (Value.ref 201) _) _ _ _)); k_dflt (refine gen_useP (by assumption) (by first | (with_reducible assumption) | decide | omega) (by k_asm) (by k_asm) (by k_asm) (by k_asm) (by k_asm) (by exact rfl) (by k_asm) (by assumption) (by assumption) (by assumption) (by assumption) (by assumption) (by assumption) (by assumption) (by assumption) (by assumption) (by assumption) (by assumption) (by assumption) (by assumption) (by first | (with_reducible assumption) | decide | omega) (by first | (with_reducible assumption) | decide | omega) (by first | (with_reducible assumption) | decide | omega) (by first | (with_reducible assumption) | decide | omega) (by first | (with_reducible assumption) | decide | omega) (by first | (with_reducible assumption) | decide | omega) (by first | (with_reducible assumption) | decide | omega) (by first | (show _ + 1 + _ < _; omega) | ktr_room) ?_); intro x9k₉ pl9k₉ lf9k₉ ps9k₉ rs9k₉ pv9k₉ rv9k₉ np9k₉ nr9k₉ tl9k₉ rest9k₉ bs9k₉ t9k₉ h9k₉ tk9k₉ o9k₉ t19k₉ t29k₉ er9k₉ eb9k₉ ft9k₉ e19k₉ e29k₉ e39k₉ e49k₉ e59k₉ e69k₉ Fq₉ Nq₉ hd9k₉ hp9k₉ hr9k₉ hpl9k₉ hrl9k₉ r19k₉ r29k₉ r39k₉)
  k_with "exec For Name Call cons nil" => (k_here; (rename Fr _ _ _ _ => lFq₉); (with_unfolding_all refine For_invVF lFq₉ (by exact rfl) (by exact rfl) ?_; k_whole))
  k_with "pyIter ref" => (k_here; refine halt ?_)
  k_with "call type:range" => (k_here; (rename Fr _ _ _ _ => Fq₉); (rename News _ _ _ _ => Nq₉); (with_unfolding_all refine range1_rows Fq₉ Nq₉ ?_; intro _ _ _ _ _ _ _ _ _))
  k_with "call ref" => (k_here; (with_reducible show wpAny _ _ (call (Value.ref 189) _) _ _ _); refine halt ?_)
  k_with "call ref" => (k_here; (with_reducible show wpAny _ _ (call (Value.ref 143) _) _ _ _); refine halt ?_)
  k_with "call ref" => (k_here; (with_reducible show wpAny _ _ (call (Value.ref 182) _) _ _ _); k_dflt (refine dip_call (by k_asm) (by k_asm) (by k_asm) (by k_asm) (by k_asm) (by exact rfl) (by k_updF) (by k_asm) (by k_mem) (by first | assumption | (refine neN ?_; omega)) (by assumption) (by assumption) (by omega) (by omega) (by omega) (by omega) (by first | (show _ + 1 + 1 < _; omega) | ktr_room) ?_); intro t9k₉ h9k₉ tk9k₉ o9k₉ t19k₉ lo9k₉ hi9k₉ Fq₉ Nq₉ hd9k₉; (try dsimp only at Nq₉); (try dsimp only))
  k_with "subscriptTail" => (k_here; (with_reducible show wpAny _ _ (subscriptTail _ _ (Value.ref _) (Value.int _ _)) _ _ _); k_dflt (refine tail_item (by k_asm) (by k_mem) (by omega) (by omega) ?_); intro tailk₉ t7k₉ htailk₉ otailk₉; (try dsimp only))
  k_with "binaryOp Add str str" => (k_here; k_dflt (refine cat_any (by omega) ?_); intro T9k₉ t9k₉ tk9k₉ hT9k₉ hl9k₉; (try dsimp only))
  k_with "call builtin:len" => (k_here; (with_reducible show wpAny _ _ (call (Value.builtin "len") [Value.str _ _]) _ _ _); refine SBL.len (by omega) ?_)
  k_with "exec For Tuple Subscript cons nil" => (k_here; (rename Fr _ _ _ _ => lFq₉); (with_unfolding_all refine For_turns lFq₉ ?_); k_whole)
  k_with "exec If" => (k_here; (fail_if_success (with_reducible show wpAny _ _ _ (fun f s' => f = Flow.next ∧ EndG _ _ _ _ _ _ _ _ _ _ _ _ _ _ _ _ _ _ _ _ s') _ _)); k_dflt (refine end_join (by k_asm) (by k_asm) (by k_asm) (by k_asm) ?_ ?_); (try dsimp only))
  k_with "exec Assign cons ListComp" => (k_here; (with_reducible show wpAny _ _ (exec (Stmt.Assign _ (Expr.ListComp _ _ _ _) _) _) _ _ _); refine halt ?_)
  k_with "testChain" => (k_here; first | (with_reducible refine test_link ?_) | (k_dflt (refine test_link ?_)) | (k_dflt (refine test_last ?_)))
  k_with "binaryOp Add ref ref" => (k_here; k_dflt (refine kmk_add_ints (by k_asm) (by k_asm) (by kmk_list) (by kmk_list) (by assumption) (by exact .cons _ _ .nil) ?_ (by rw [sizeLine_eq]; simp only [List.length_cons, List.length_nil]; omega)); intro Dq₉ wsq₉ hq₉ Fq₉ Nq₉ l1k₉ hIq₉; (try k_lt l1k₉))
  k_with "subscriptTail" => (k_here; (with_reducible show wpAny _ _ (subscriptTail _ _ (Value.ref _) (Value.int 0 _)) _ _ _); k_dflt (refine ints_item0 (by k_asm) (by k_mem) (by assumption) ?_); intro z9k₉ tz9k₉ hz9k₉)
  k_with "exec Try" => (k_here; (with_reducible show wpAny _ _ (exec (Stmt.Try _ (_ :: _) _ [] _) _) _ _ _); refine wpAny_Try_except ?_)
  k_with "getAttr ref" => (k_here; (with_reducible show wpAny _ _ (getAttr (Value.ref _) (Str.ofString "spot") _) _ _ _); k_dflt (refine spot_attrN (by k_asm) (by k_asm) (by k_asm) (by k_mem) (by k_mem) (by assumption) (by assumption) (by assumption) ?_); intro tk9k₉)
  k_with "bind" => (k_here; (with_reducible show wpAny _ _ (do bindName _ _ Value.none; unbindBehindTheSuite _ _ _) _ _ _); k_dflt (refine unbindX (by k_asm) (by k_asm) ?_ (by rfl) (by rfl)); intro h9k₉ v9k₉ Fq₉ Nq₉; (try dsimp only))
  k_with "compareOp Eq ref ref" => (k_here; k_dflt (refine eq_four (by k_asm) (by k_mem) (by k_mem) (by assumption) (by ke_room) ?_))
  k_steps
  unfold Halt
  k_dflt (refine' law_gen ?gB ?gF ?gX ?gN ?gT ?ghk ?ghd ?gl1 ?ghI ?ghcl ?ghdp ?_)
  case gB => k_asm
  case gF => k_asm
  case gX => k_asm
  case gN => k_asm
  case gT => k_asm
  case ghk => exact rfl
  case ghd => k_asm
  case gl1 => refine ⟨?_, ?_, ?_, ?_, ?_, ?_⟩ <;> omega
  case ghI => assumption
  case ghcl => simp only [List.length_map, List.length_take]; exact Nat.min_le_left _ _
  case ghdp => ktr_room
  intro x pl' lf' ps' rs' pv' rv' np' nr' tl t h' tk' o' t1' t2' b0 b1 b2 b3 b4 b5 b6 F' N' hd' hp hr hpl hrl f1 f2 f3 f4 f5 f6
  have e0 : (Str.ofString "\"\\(").length = 3 := rfl
  k_steps
  all_goals try
    (k_dflt (refine' end_g ?eh3 ?eh4 ?eF ?eN ?ehd ?eho)
     case eN => k_asm
     case eho => k_asm
     case ehd => k_asm
     case eF => k_asm
     case eh3 => omega
     case eh4 => omega)
  unfold Halt
  rename News _ _ _ _ => kN
  rename Fr _ _ _ (fun _ => _) => kF
  rename _ = Str.ofString "\"\\(" ++ x => hTx
  rename (_ : Str) = _ ++ _ => hTt
  rename okT _ => hokt
  have hok := text_ok b1 hokt hTx hTt
  rename @LE.le Nat _ 3 _ => h3e
  rename @LE.le Nat _ _ (Str.length _) => hel
  have LP := law_plain2 b1 hTx hTt hel
  try dsimp only
  k_dflt (refine' law_loop (by rfl) ?lhh kF (news_rot kN) ?lhm ?lhF hp ?lhd ?lhx ?lht ?lturn ?ldone)
  case lhh => rfl
  case lhm => k_mem
  case lhF => assumption
  case lhd => rfl
  case lhx => rfl
  case lht => rfl
  case lturn =>
    intro I it oF' vF' a p1 p2 ta tb u h tk hit hI hps hma hoF' F7 N7
    have hLP := LP _ hps
    obtain ⟨b, rfl⟩ : ∃ b : Nat, p1 = b := ⟨p1.toNat, by omega⟩
    dsimp only at hLP
    rw [Int.toNat_natCast] at hLP
    simp only [List.forall_mem_cons] at hI
    obtain ⟨i1, i2, i3, i4, i5, i6, i7, i8⟩ := hI
    replace i8 : ∀ q ∈ tl, q.1 ≠ I := fun q hq => Nat.ne_of_lt (i8 q hq)
    k_dflt (refine' unpackN_ F7 N7 (News.isTup N7 ?uT) ?uk1 ?uk2 ?uk3 ?_)
    case uT => repeat' (first | (with_reducible assumption) | (with_reducible exact List.mem_cons_self) | (with_reducible refine List.mem_cons_of_mem _ ?_))
    case uk1 => exact rfl
    case uk2 => exact rfl
    case uk3 => exact rfl
    intro h1 F1 N1
    k_steps
    unfold Halt
    k_dflt (refine Assign_pick (hF0 := by k_asm) (by rfl) (by with_unfolding_all rfl) (by with_unfolding_all rfl) (by decide) (by rfl) (by decide) (by rfl) (by rfl) (by decide) (by rfl) (by rfl) ?_)
    k_steps
    k_dflt (refine' PickSrc.law (b : Int) h3e ?phh ?pF ?pN ?phm hr ?phtl ?phsz ?ptest ?phand ?pfin)
    case phh => rfl
    case pF => k_asm
    case pN => k_asm
    case phm => k_mem
    case phtl =>
      intro q hq
      repeat' (first | (with_reducible exact hq) | (with_reducible refine List.mem_cons_of_mem _ ?_))
    case phsz => rw [sizeLine_eq]; omega
    case ptest =>
      intro q1 q2 tx ty C oC m₂ h9 tk9 Q' E' hNs ha hb F9 N9 hQ9
      k_steps
      all_goals first
        | (rw [and3_dec] at hQ9
           · exact hQ9 _
           · omega
           · omega)
        | (rw [and3_f1] at hQ9
           · exact hQ9 _
           · omega)
        | (rw [and3_f2] at hQ9
           · exact hQ9 _
           · omega)
    case phand =>
      intro q1 q2 tx ty C oC m₂ h9 tk9 Q' E' hNs ha hb F9 N9 hQ9
      k_steps
      exact hQ9 _
    case pfin =>
      intro g9 ys9 l9 hl9 hll9 hys9 D9 h9 tk9 F9 N9 hD9 _
      k_steps
      · unfold Halt
        rename News _ _ _ _ => kN
        k_dflt (refine' inner_spec ?B1 ?F1 ?X1 (news_due1 kN) ?T1 ?hk1 ?ia1 ?ib1 ?ic1 ?id1 ?hret1 ?hraise1)
        case B1 => k_asm
        case F1 => k_asm
        case X1 => k_asm
        case T1 => k_asm
        case hk1 => exact rfl
        case ia1 => omega
        case ib1 => omega
        case ic1 => omega
        case id1 => ktr_room
        case hret1 =>
          intro n7 tn7 h7 tk7 hcl F7 N7
          have hnn := due_close hLP.2.2.2 (by dsimp only; omega) hcl
          dsimp only at hnn
          rw [hnn]
          k_steps
          rename News _ _ _ _ => kN
          dsimp only [scL] at kN
          k_dflt (refine' turn_end (m' := ?zm1) ?zF1 kN ?zI1 ?zc1 ?zr1 ?zo1 ?zd1 ?ze1 ?zf1)
          case zF1 => k_asm
          case zI1 => k_mem
          case zc1 => k_mem
          case zo1 => assumption
          case zd1 => rfl
          case ze1 => rfl
          case zf1 => rfl
          case zr1 =>
            intro q hq
            simp only [scL, List.mem_cons] at hq ⊢
            rcases hq with h | h | h | h | h | h | h <;> simp only [h, true_or, or_true]
        case hraise1 =>
          intro n7 hft
          exact (due_close_no hLP.2.2.2 (by dsimp only; omega) hft).elim
      · unfold Halt
        rename News _ _ _ _ => kN
        k_dflt (refine' inner_spec ?B2 ?F2 ?X2 (news_due2 kN) ?T2 ?hk2 ?ia2 ?ib2 ?ic2 ?id2 ?hret2 ?hraise2)
        case B2 => k_asm
        case F2 => k_asm
        case X2 => k_asm
        case T2 => k_asm
        case hk2 => exact rfl
        case ia2 => omega
        case ib2 => omega
        case ic2 => omega
        case id2 => ktr_room
        case hret2 =>
          intro n7 tn7 h7 tk7 hcl F7 N7
          exact (due_fault_no hLP.2.2.2 (by dsimp only; omega) hcl).elim
        case hraise2 =>
          intro n7 hft
          have hnn := due_fault hLP.2.2.2 (by dsimp only; omega) hft (by assumption) hl9
          unfold FaultTo
          intro e8 D8 t8 what8 tt8 tb8 k18 k28 g8 h8 tk8 R8 lt8 FG8 U8
          k_dflt (refine' caught_D ?zK FG8 U8 R8 ?zX ?zT ?zex ?zk)
          case zK => k_asm
          case zX => k_asm
          case zT => k_asm
          case zex => k_is
          case zk =>
            intro h7 oe7 vs7 tk7 F7 N7 hc7 hD7 hd7
            rw [hnn] at N7
            k_steps
            rename News _ _ _ _ => kN
            dsimp only [scL] at kN
            k_dflt (refine' turn_end (m' := ?zm2) ?zF2 kN ?zI2 ?zc2 ?zr2 ?zo2 ?zd2 ?ze2 ?zf2)
            case zF2 => k_asm
            case zI2 => k_mem
            case zc2 => k_mem
            case zo2 => assumption
            case zd2 => rfl
            case ze2 => rfl
            case zf2 => rfl
            case zr2 =>
              intro q hq
              simp only [scL, List.mem_cons] at hq ⊢
              rcases hq with h | h | h | h | h | h | h <;> simp only [h, true_or, or_true]
  case ldone =>
    intro oF' vF' u h tk hoF' F7 N7
    try dsimp only
    k_steps
end
theorem calm39 {M : Model} {A : Around} {E : Value → Shared → Prop} {s : Shared} {env : Env} {Q : Flow → Shared → Prop} (h : Q .next s) : wpAny M A (execs [] env) Q E s := by
  k_with_none
  w_top off
  walk1
  exact h
end LawProof

theorem PySem.Challenge.cw_pq0371_01_holds : PySem.Challenge.rw_pq0371_01.Holds :=
  LawProof.law_holds

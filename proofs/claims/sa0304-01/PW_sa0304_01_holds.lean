import PyProof.Rows.All
import Wide.All
import OpenK.AllK
import Wide.FinOn
import PySem.Challenge.RW_sa0304_01
open PySem PySem.W PyProof.Rows PySem.Calls PySem.Spec
set_option Elab.async false
set_option maxRecDepth 100000
set_option pp.deepTerms false
set_option pp.deepTerms.threshold 6
set_option pp.proofs false
set_option linter.unusedVariables false
namespace Mine

/-- the given program's statements, by their places -/
noncomputable def topAt (i : Nat) : Stmt := PySem.Challenge.pw_sa0304_01.main.body.getD i (.Pass default)
noncomputable def inAt (i j : Nat) : Stmt := match topAt i with
  | .ClassDef _ _ _ body _ _ _ _ _ _ _ => body.getD j (.Pass default)
  | s => s
noncomputable def fArgs : Stmt → Arguments
  | .FunctionDef _ a _ _ _ _ _ _ _ _ => a
  | _ => default
noncomputable def fBody : Stmt → List Stmt
  | .FunctionDef _ _ b _ _ _ _ _ _ _ => b
  | _ => []
noncomputable def fScope : Stmt → Scope
  | .FunctionDef _ _ _ _ _ _ s _ _ _ => s
  | _ => default

noncomputable def o3 (P : Params) : Obj := { cls := PySem.Value.type "dict", data := PySem.Data.dict #[{ hash := PySem.PyData.keyHash P (PySem.Str.ofString "__name__"), key := PySem.Value.str (PySem.Str.ofString "__name__") 165, val := PySem.Value.str (PySem.Str.ofString "law_sa0304_01") 435 }, { hash := PySem.PyData.keyHash P (PySem.Str.ofString "__doc__"), key := PySem.Value.str (PySem.Str.ofString "__doc__") 166, val := PySem.Value.none }, { hash := PySem.PyData.keyHash P (PySem.Str.ofString "__package__"), key := PySem.Value.str (PySem.Str.ofString "__package__") 167, val := PySem.Value.none }, { hash := PySem.PyData.keyHash P (PySem.Str.ofString "__loader__"), key := PySem.Value.str (PySem.Str.ofString "__loader__") 168, val := PySem.Value.builtin "__main__.__loader__#opaque" }, { hash := PySem.PyData.keyHash P (PySem.Str.ofString "__spec__"), key := PySem.Value.str (PySem.Str.ofString "__spec__") 169, val := PySem.Value.none }, { hash := PySem.PyData.keyHash P (PySem.Str.ofString "__annotations__"), key := PySem.Value.str (PySem.Str.ofString "__annotations__") 170, val := PySem.Value.ref 6 }, { hash := PySem.PyData.keyHash P (PySem.Str.ofString "__builtins__"), key := PySem.Value.str (PySem.Str.ofString "__builtins__") 171, val := PySem.Value.ref 4 }, { hash := PySem.PyData.keyHash P (PySem.Str.ofString "__file__"), key := PySem.Value.str (PySem.Str.ofString "__file__") 173, val := PySem.Value.str (PySem.Str.ofString "/claim/cut.py") 172 }, { hash := PySem.PyData.keyHash P (PySem.Str.ofString "__cached__"), key := PySem.Value.str (PySem.Str.ofString "__cached__") 174, val := PySem.Value.none }, { hash := PySem.PyData.keyHash P (PySem.Str.ofString "is_like"), key := PySem.Value.str (PySem.Str.ofString "is_like") 196, val := PySem.Value.ref 21 }, { hash := PySem.PyData.keyHash P (PySem.Str.ofString "functions_in"), key := PySem.Value.str (PySem.Str.ofString "functions_in") 209, val := PySem.Value.ref 28 }, { hash := PySem.PyData.keyHash P (PySem.Str.ofString "virtual_in"), key := PySem.Value.str (PySem.Str.ofString "virtual_in") 219, val := PySem.Value.ref 35 }, { hash := PySem.PyData.keyHash P (PySem.Str.ofString "super_in"), key := PySem.Value.str (PySem.Str.ofString "super_in") 230, val := PySem.Value.ref 42 }, { hash := PySem.PyData.keyHash P (PySem.Str.ofString "Decl"), key := PySem.Value.str (PySem.Str.ofString "Decl") 292, val := PySem.Value.ref 59 }, { hash := PySem.PyData.keyHash P (PySem.Str.ofString "MachineFault"), key := PySem.Value.str (PySem.Str.ofString "MachineFault") 323, val := PySem.Value.ref 80 }, { hash := PySem.PyData.keyHash P (PySem.Str.ofString "LineFault"), key := PySem.Value.str (PySem.Str.ofString "LineFault") 349, val := PySem.Value.ref 100 }, { hash := PySem.PyData.keyHash P (PySem.Str.ofString "SourceFault"), key := PySem.Value.str (PySem.Str.ofString "SourceFault") 365, val := PySem.Value.ref 112 }, { hash := PySem.PyData.keyHash P (PySem.Str.ofString "MOST_HEIGHT"), key := PySem.Value.str (PySem.Str.ofString "MOST_HEIGHT") 369, val := PySem.Value.int 120 368 }, { hash := PySem.PyData.keyHash P (PySem.Str.ofString "EXPRESSIONS"), key := PySem.Value.str (PySem.Str.ofString "EXPRESSIONS") 389, val := PySem.Value.ref 115 }, { hash := PySem.PyData.keyHash P (PySem.Str.ofString "Syn"), key := PySem.Value.str (PySem.Str.ofString "Syn") 428, val := PySem.Value.ref 132 }, { hash := PySem.PyData.keyHash P (PySem.Str.ofString "high_row"), key := PySem.Value.str (PySem.Str.ofString "high_row") 434, val := PySem.Value.ref 141 }, { hash := PySem.PyData.keyHash P (PySem.Str.ofString "_law_well"), key := PySem.Value.str (PySem.Str.ofString "_law_well") 442, val := PySem.Value.ref 146 }, { hash := PySem.PyData.keyHash P (PySem.Str.ofString "_law_draw"), key := PySem.Value.str (PySem.Str.ofString "_law_draw") 451, val := PySem.Value.ref 153 }, { hash := PySem.PyData.keyHash P (PySem.Str.ofString "_law_row"), key := PySem.Value.str (PySem.Str.ofString "_law_row") 465, val := PySem.Value.ref 160 }, { hash := PySem.PyData.keyHash P (PySem.Str.ofString "_law_decl"), key := PySem.Value.str (PySem.Str.ofString "_law_decl") 475, val := PySem.Value.ref 167 }, { hash := PySem.PyData.keyHash P (PySem.Str.ofString "_law_order"), key := PySem.Value.str (PySem.Str.ofString "_law_order") 485, val := PySem.Value.ref 174 }, { hash := PySem.PyData.keyHash P (PySem.Str.ofString "_law_least"), key := PySem.Value.str (PySem.Str.ofString "_law_least") 491, val := PySem.Value.ref 179 }, { hash := PySem.PyData.keyHash P (PySem.Str.ofString "_law_visible"), key := PySem.Value.str (PySem.Str.ofString "_law_visible") 497, val := PySem.Value.ref 184 }, { hash := PySem.PyData.keyHash P (PySem.Str.ofString "_law_alike"), key := PySem.Value.str (PySem.Str.ofString "_law_alike") 503, val := PySem.Value.ref 189 }, { hash := PySem.PyData.keyHash P (PySem.Str.ofString "_law_nearest"), key := PySem.Value.str (PySem.Str.ofString "_law_nearest") 509, val := PySem.Value.ref 194 }, { hash := PySem.PyData.keyHash P (PySem.Str.ofString "_law_next"), key := PySem.Value.str (PySem.Str.ofString "_law_next") 515, val := PySem.Value.ref 199 }, { hash := PySem.PyData.keyHash P (PySem.Str.ofString "_law_number"), key := PySem.Value.str (PySem.Str.ofString "_law_number") 523, val := PySem.Value.ref 206 }, { hash := PySem.PyData.keyHash P (PySem.Str.ofString "law"), key := PySem.Value.str (PySem.Str.ofString "law") 529, val := PySem.Value.ref 211 }] 33 }
noncomputable def o20 (P : Params) : Obj := { cls := PySem.Value.type "code", data := PySem.Data.fields #[PySem.Value.str (PySem.Str.ofString "is_like") 189, PySem.Value.str (PySem.Str.ofString "is_like") 190, PySem.Value.str (PySem.Str.ofString "/claim/cut.py") 191, PySem.Value.int 2 0, PySem.Value.int 2 0, PySem.Value.int 0 0, PySem.Value.int 0 0, PySem.Value.int 3 0, PySem.Value.ref 15, PySem.Value.bool Bool.true, PySem.Value.int 181 0, PySem.Value.ref 16, PySem.Value.none, PySem.Value.ref 17, PySem.Value.ref 18, PySem.Value.ref 19, PySem.Value.int 194 0, PySem.Value.int 2 0, PySem.Value.str (PySem.Str.ofString "/claim/cut.py") 195] }
noncomputable def o21 (P : Params) : Obj := ⟨PySem.Value.type "function", Option.none, .func (PySem.W.fnOf (PySem.Str.ofString "is_like") (PySem.Str.ofString "is_like") (fArgs (topAt 1)) (fBody (topAt 1)) (fScope (topAt 1)) (PySem.Value.none) (PySem.Value.none) (PySem.Value.none) (PySem.Value.str (PySem.Str.ofString "gasledger.sol_linear") 187) (Option.none) (PySem.Value.ref 20) (PySem.Value.none)), #[]⟩
noncomputable def o27 (P : Params) : Obj := { cls := PySem.Value.type "code", data := PySem.Data.fields #[PySem.Value.str (PySem.Str.ofString "functions_in") 197, PySem.Value.str (PySem.Str.ofString "functions_in") 198, PySem.Value.str (PySem.Str.ofString "/claim/cut.py") 199, PySem.Value.int 4 0, PySem.Value.int 3 0, PySem.Value.int 0 0, PySem.Value.int 0 0, PySem.Value.int 3 0, PySem.Value.ref 22, PySem.Value.bool Bool.true, PySem.Value.int 181 0, PySem.Value.ref 23, PySem.Value.none, PySem.Value.ref 24, PySem.Value.ref 25, PySem.Value.ref 26, PySem.Value.int 207 0, PySem.Value.int 4 0, PySem.Value.str (PySem.Str.ofString "/claim/cut.py") 208] }
noncomputable def o28 (P : Params) : Obj := ⟨PySem.Value.type "function", Option.none, .func (PySem.W.fnOf (PySem.Str.ofString "functions_in") (PySem.Str.ofString "functions_in") (fArgs (topAt 2)) (fBody (topAt 2)) (fScope (topAt 2)) (PySem.Value.none) (PySem.Value.none) (PySem.Value.none) (PySem.Value.str (PySem.Str.ofString "gasledger.sol_linear") 187) (Option.none) (PySem.Value.ref 27) (PySem.Value.none)), #[]⟩
noncomputable def o34 (P : Params) : Obj := { cls := PySem.Value.type "code", data := PySem.Data.fields #[PySem.Value.str (PySem.Str.ofString "virtual_in") 210, PySem.Value.str (PySem.Str.ofString "virtual_in") 211, PySem.Value.str (PySem.Str.ofString "/claim/cut.py") 212, PySem.Value.int 17 0, PySem.Value.int 2 0, PySem.Value.int 0 0, PySem.Value.int 0 0, PySem.Value.int 3 0, PySem.Value.ref 29, PySem.Value.bool Bool.true, PySem.Value.int 181 0, PySem.Value.ref 30, PySem.Value.none, PySem.Value.ref 31, PySem.Value.ref 32, PySem.Value.ref 33, PySem.Value.int 217 0, PySem.Value.int 17 0, PySem.Value.str (PySem.Str.ofString "/claim/cut.py") 218] }
noncomputable def o35 (P : Params) : Obj := ⟨PySem.Value.type "function", Option.none, .func (PySem.W.fnOf (PySem.Str.ofString "virtual_in") (PySem.Str.ofString "virtual_in") (fArgs (topAt 3)) (fBody (topAt 3)) (fScope (topAt 3)) (PySem.Value.none) (PySem.Value.none) (PySem.Value.none) (PySem.Value.str (PySem.Str.ofString "gasledger.sol_linear") 187) (Option.none) (PySem.Value.ref 34) (PySem.Value.none)), #[]⟩
noncomputable def o41 (P : Params) : Obj := { cls := PySem.Value.type "code", data := PySem.Data.fields #[PySem.Value.str (PySem.Str.ofString "super_in") 220, PySem.Value.str (PySem.Str.ofString "super_in") 221, PySem.Value.str (PySem.Str.ofString "/claim/cut.py") 222, PySem.Value.int 25 0, PySem.Value.int 3 0, PySem.Value.int 0 0, PySem.Value.int 0 0, PySem.Value.int 3 0, PySem.Value.ref 36, PySem.Value.bool Bool.true, PySem.Value.int 181 0, PySem.Value.ref 37, PySem.Value.none, PySem.Value.ref 38, PySem.Value.ref 39, PySem.Value.ref 40, PySem.Value.int 228 0, PySem.Value.int 25 0, PySem.Value.str (PySem.Str.ofString "/claim/cut.py") 229] }
noncomputable def o42 (P : Params) : Obj := ⟨PySem.Value.type "function", Option.none, .func (PySem.W.fnOf (PySem.Str.ofString "super_in") (PySem.Str.ofString "super_in") (fArgs (topAt 4)) (fBody (topAt 4)) (fScope (topAt 4)) (PySem.Value.none) (PySem.Value.none) (PySem.Value.none) (PySem.Value.str (PySem.Str.ofString "gasledger.sol_linear") 187) (Option.none) (PySem.Value.ref 41) (PySem.Value.none)), #[]⟩
noncomputable def o55 (P : Params) : Obj := { cls := PySem.Value.type "code", data := PySem.Data.fields #[PySem.Value.str (PySem.Str.ofString "__init__") 245, PySem.Value.str (PySem.Str.ofString "Decl.__init__") 246, PySem.Value.str (PySem.Str.ofString "/claim/cut.py") 247, PySem.Value.int 36 0, PySem.Value.int 4 0, PySem.Value.int 0 0, PySem.Value.int 0 0, PySem.Value.int 3 0, PySem.Value.ref 50, PySem.Value.bool Bool.true, PySem.Value.int 181 0, PySem.Value.ref 51, PySem.Value.none, PySem.Value.ref 52, PySem.Value.ref 53, PySem.Value.ref 54, PySem.Value.int 252 0, PySem.Value.int 36 0, PySem.Value.str (PySem.Str.ofString "/claim/cut.py") 253] }
noncomputable def o56 (P : Params) : Obj := ⟨PySem.Value.type "function", Option.none, .func (PySem.W.fnOf (PySem.Str.ofString "__init__") (PySem.Str.ofString "Decl.__init__") (fArgs (inAt 6 0)) (fBody (inAt 6 0)) (fScope (inAt 6 0)) (PySem.Value.none) (PySem.Value.none) (PySem.Value.none) (PySem.Value.str (PySem.Str.ofString "gasledger.sol_decls") 231) (Option.none) (PySem.Value.ref 55) (PySem.Value.none)), #[]⟩
noncomputable def o57 (P : Params) : Obj := { cls := PySem.Value.type "tuple", data := PySem.Data.seq #[PySem.Value.str (PySem.Str.ofString "base_args") 255, PySem.Value.str (PySem.Str.ofString "bases") 256, PySem.Value.str (PySem.Str.ofString "body") 257, PySem.Value.str (PySem.Str.ofString "getter") 258, PySem.Value.str (PySem.Str.ofString "is_constant") 259, PySem.Value.str (PySem.Str.ofString "is_immutable") 260, PySem.Value.str (PySem.Str.ofString "is_override") 261, PySem.Value.str (PySem.Str.ofString "is_virtual") 262, PySem.Value.str (PySem.Str.ofString "key") 263, PySem.Value.str (PySem.Str.ofString "kind") 264, PySem.Value.str (PySem.Str.ofString "line") 265, PySem.Value.str (PySem.Str.ofString "linear") 266, PySem.Value.str (PySem.Str.ofString "members") 267, PySem.Value.str (PySem.Str.ofString "modifiers") 268, PySem.Value.str (PySem.Str.ofString "mutability") 269, PySem.Value.str (PySem.Str.ofString "name") 270, PySem.Value.str (PySem.Str.ofString "names") 271, PySem.Value.str (PySem.Str.ofString "overrides") 272, PySem.Value.str (PySem.Str.ofString "owner") 273, PySem.Value.str (PySem.Str.ofString "params") 274, PySem.Value.str (PySem.Str.ofString "results") 275, PySem.Value.str (PySem.Str.ofString "selector_text") 276, PySem.Value.str (PySem.Str.ofString "syn") 277, PySem.Value.str (PySem.Str.ofString "type") 278, PySem.Value.str (PySem.Str.ofString "unique") 279, PySem.Value.str (PySem.Str.ofString "usings") 280, PySem.Value.str (PySem.Str.ofString "value") 281, PySem.Value.str (PySem.Str.ofString "value_of") 282, PySem.Value.str (PySem.Str.ofString "visibility") 283, PySem.Value.str (PySem.Str.ofString "word") 284] }
noncomputable def o58 (P : Params) : Obj := { cls := PySem.Value.type "dict", data := PySem.Data.dict #[{ hash := PySem.PyData.keyHash P (PySem.Str.ofString "__module__"), key := PySem.Value.str (PySem.Str.ofString "__module__") 240, val := PySem.Value.str (PySem.Str.ofString "gasledger.sol_decls") 231 }, { hash := PySem.PyData.keyHash P (PySem.Str.ofString "__firstlineno__"), key := PySem.Value.str (PySem.Str.ofString "__firstlineno__") 244, val := PySem.Value.int 34 243 }, { hash := PySem.PyData.keyHash P (PySem.Str.ofString "__init__"), key := PySem.Value.str (PySem.Str.ofString "__init__") 254, val := PySem.Value.ref 56 }, { hash := PySem.PyData.keyHash P (PySem.Str.ofString "__static_attributes__"), key := PySem.Value.str (PySem.Str.ofString "__static_attributes__") 285, val := PySem.Value.ref 57 }, { hash := PySem.PyData.keyHash P (PySem.Str.ofString "__dict__"), key := PySem.Value.str (PySem.Str.ofString "__dict__") 287, val := PySem.Value.ref 60 }, { hash := PySem.PyData.keyHash P (PySem.Str.ofString "__weakref__"), key := PySem.Value.str (PySem.Str.ofString "__weakref__") 289, val := PySem.Value.ref 61 }, { hash := PySem.PyData.keyHash P (PySem.Str.ofString "__doc__"), key := PySem.Value.str (PySem.Str.ofString "__doc__") 290, val := PySem.Value.none }] 4 }
noncomputable def o59 (P : Params) : Obj := { cls := PySem.Value.type "type", data := PySem.Data.cls { name := PySem.Str.ofString "Decl", bases := [PySem.Value.type "object"], mro := [PySem.Value.ref 59, PySem.Value.type "object"], ns := 58, qualname := PySem.Str.ofString "Decl" }, slots := #[Option.none, Option.none, Option.some (PySem.Value.str (PySem.Str.ofString "Decl") 233), Option.some (PySem.Value.str (PySem.Str.ofString "Decl") 241), Option.some (PySem.Value.builtin "object.__new__"), Option.some (PySem.Value.bool Bool.true)] }
noncomputable def o60 (P : Params) : Obj := { cls := PySem.Value.type "getset_descriptor", data := PySem.Data.fields #[PySem.Value.str (PySem.Str.ofString "__dict__") 286, PySem.Value.ref 59, PySem.Value.builtin "function.__dict__", PySem.Value.builtin "function.__dict__#set"] }
noncomputable def o61 (P : Params) : Obj := { cls := PySem.Value.type "getset_descriptor", data := PySem.Data.fields #[PySem.Value.str (PySem.Str.ofString "__weakref__") 288, PySem.Value.ref 59, PySem.Value.builtin "ExceptionGroup.__weakref__", PySem.Value.none] }
noncomputable def o128 (P : Params) : Obj := { cls := PySem.Value.type "code", data := PySem.Data.fields #[PySem.Value.str (PySem.Str.ofString "__init__") 402, PySem.Value.str (PySem.Str.ofString "Syn.__init__") 403, PySem.Value.str (PySem.Str.ofString "/claim/cut.py") 404, PySem.Value.int 85 0, PySem.Value.int 6 0, PySem.Value.int 0 0, PySem.Value.int 0 0, PySem.Value.int 3 0, PySem.Value.ref 123, PySem.Value.bool Bool.true, PySem.Value.int 181 0, PySem.Value.ref 124, PySem.Value.none, PySem.Value.ref 125, PySem.Value.ref 126, PySem.Value.ref 127, PySem.Value.int 412 0, PySem.Value.int 85 0, PySem.Value.str (PySem.Str.ofString "/claim/cut.py") 413] }
noncomputable def o129 (P : Params) : Obj := ⟨PySem.Value.type "function", Option.none, .func (PySem.W.fnOf (PySem.Str.ofString "__init__") (PySem.Str.ofString "Syn.__init__") (fArgs (inAt 14 0)) (fBody (inAt 14 0)) (fScope (inAt 14 0)) (PySem.Value.none) (PySem.Value.none) (PySem.Value.none) (PySem.Value.str (PySem.Str.ofString "gasledger.sol_syntax") 366) (Option.none) (PySem.Value.ref 128) (PySem.Value.none)), #[]⟩
noncomputable def o130 (P : Params) : Obj := { cls := PySem.Value.type "tuple", data := PySem.Data.seq #[PySem.Value.str (PySem.Str.ofString "height") 415, PySem.Value.str (PySem.Str.ofString "kids") 416, PySem.Value.str (PySem.Str.ofString "kind") 417, PySem.Value.str (PySem.Str.ofString "line") 418, PySem.Value.str (PySem.Str.ofString "more") 419, PySem.Value.str (PySem.Str.ofString "name") 420] }
noncomputable def o131 (P : Params) : Obj := { cls := PySem.Value.type "dict", data := PySem.Data.dict #[{ hash := PySem.PyData.keyHash P (PySem.Str.ofString "__module__"), key := PySem.Value.str (PySem.Str.ofString "__module__") 397, val := PySem.Value.str (PySem.Str.ofString "gasledger.sol_syntax") 366 }, { hash := PySem.PyData.keyHash P (PySem.Str.ofString "__firstlineno__"), key := PySem.Value.str (PySem.Str.ofString "__firstlineno__") 401, val := PySem.Value.int 83 400 }, { hash := PySem.PyData.keyHash P (PySem.Str.ofString "__init__"), key := PySem.Value.str (PySem.Str.ofString "__init__") 414, val := PySem.Value.ref 129 }, { hash := PySem.PyData.keyHash P (PySem.Str.ofString "__static_attributes__"), key := PySem.Value.str (PySem.Str.ofString "__static_attributes__") 421, val := PySem.Value.ref 130 }, { hash := PySem.PyData.keyHash P (PySem.Str.ofString "__dict__"), key := PySem.Value.str (PySem.Str.ofString "__dict__") 423, val := PySem.Value.ref 133 }, { hash := PySem.PyData.keyHash P (PySem.Str.ofString "__weakref__"), key := PySem.Value.str (PySem.Str.ofString "__weakref__") 425, val := PySem.Value.ref 134 }, { hash := PySem.PyData.keyHash P (PySem.Str.ofString "__doc__"), key := PySem.Value.str (PySem.Str.ofString "__doc__") 426, val := PySem.Value.none }] 4 }
noncomputable def o132 (P : Params) : Obj := { cls := PySem.Value.type "type", data := PySem.Data.cls { name := PySem.Str.ofString "Syn", bases := [PySem.Value.type "object"], mro := [PySem.Value.ref 132, PySem.Value.type "object"], ns := 131, qualname := PySem.Str.ofString "Syn" }, slots := #[Option.none, Option.none, Option.some (PySem.Value.str (PySem.Str.ofString "Syn") 390), Option.some (PySem.Value.str (PySem.Str.ofString "Syn") 398), Option.some (PySem.Value.builtin "object.__new__"), Option.some (PySem.Value.bool Bool.true)] }
noncomputable def o133 (P : Params) : Obj := { cls := PySem.Value.type "getset_descriptor", data := PySem.Data.fields #[PySem.Value.str (PySem.Str.ofString "__dict__") 422, PySem.Value.ref 132, PySem.Value.builtin "function.__dict__", PySem.Value.builtin "function.__dict__#set"] }
noncomputable def o134 (P : Params) : Obj := { cls := PySem.Value.type "getset_descriptor", data := PySem.Data.fields #[PySem.Value.str (PySem.Str.ofString "__weakref__") 424, PySem.Value.ref 132, PySem.Value.builtin "ExceptionGroup.__weakref__", PySem.Value.none] }
noncomputable def o145 (P : Params) : Obj := { cls := PySem.Value.type "code", data := PySem.Data.fields #[PySem.Value.str (PySem.Str.ofString "_law_well") 437, PySem.Value.str (PySem.Str.ofString "_law_well") 438, PySem.Value.str (PySem.Str.ofString "/claim/cut.py") 439, PySem.Value.int 105 0, PySem.Value.int 1 0, PySem.Value.int 0 0, PySem.Value.int 0 0, PySem.Value.int 3 0, PySem.Value.ref 142, PySem.Value.bool Bool.true, PySem.Value.int 181 0, PySem.Value.ref 143, PySem.Value.none, PySem.Value.none, PySem.Value.none, PySem.Value.ref 144, PySem.Value.int 440 0, PySem.Value.int 105 0, PySem.Value.str (PySem.Str.ofString "/claim/cut.py") 441] }
noncomputable def o146 (P : Params) : Obj := ⟨PySem.Value.type "function", Option.none, .func (PySem.W.fnOf (PySem.Str.ofString "_law_well") (PySem.Str.ofString "_law_well") (fArgs (topAt 17)) (fBody (topAt 17)) (fScope (topAt 17)) (PySem.Value.none) (PySem.Value.none) (PySem.Value.none) (PySem.Value.str (PySem.Str.ofString "law_sa0304_01") 435) (Option.none) (PySem.Value.ref 145) (PySem.Value.none)), #[]⟩
noncomputable def o152 (P : Params) : Obj := { cls := PySem.Value.type "code", data := PySem.Data.fields #[PySem.Value.str (PySem.Str.ofString "_law_draw") 443, PySem.Value.str (PySem.Str.ofString "_law_draw") 444, PySem.Value.str (PySem.Str.ofString "/claim/cut.py") 445, PySem.Value.int 107 0, PySem.Value.int 2 0, PySem.Value.int 0 0, PySem.Value.int 0 0, PySem.Value.int 3 0, PySem.Value.ref 147, PySem.Value.bool Bool.true, PySem.Value.int 181 0, PySem.Value.ref 148, PySem.Value.none, PySem.Value.ref 149, PySem.Value.ref 150, PySem.Value.ref 151, PySem.Value.int 449 0, PySem.Value.int 107 0, PySem.Value.str (PySem.Str.ofString "/claim/cut.py") 450] }
noncomputable def o153 (P : Params) : Obj := ⟨PySem.Value.type "function", Option.none, .func (PySem.W.fnOf (PySem.Str.ofString "_law_draw") (PySem.Str.ofString "_law_draw") (fArgs (topAt 18)) (fBody (topAt 18)) (fScope (topAt 18)) (PySem.Value.none) (PySem.Value.none) (PySem.Value.none) (PySem.Value.str (PySem.Str.ofString "law_sa0304_01") 435) (Option.none) (PySem.Value.ref 152) (PySem.Value.none)), #[]⟩
noncomputable def o159 (P : Params) : Obj := { cls := PySem.Value.type "code", data := PySem.Data.fields #[PySem.Value.str (PySem.Str.ofString "_law_row") 452, PySem.Value.str (PySem.Str.ofString "_law_row") 453, PySem.Value.str (PySem.Str.ofString "/claim/cut.py") 454, PySem.Value.int 115 0, PySem.Value.int 2 0, PySem.Value.int 0 0, PySem.Value.int 0 0, PySem.Value.int 3 0, PySem.Value.ref 154, PySem.Value.bool Bool.true, PySem.Value.int 181 0, PySem.Value.ref 155, PySem.Value.none, PySem.Value.ref 156, PySem.Value.ref 157, PySem.Value.ref 158, PySem.Value.int 463 0, PySem.Value.int 115 0, PySem.Value.str (PySem.Str.ofString "/claim/cut.py") 464] }
noncomputable def o160 (P : Params) : Obj := ⟨PySem.Value.type "function", Option.none, .func (PySem.W.fnOf (PySem.Str.ofString "_law_row") (PySem.Str.ofString "_law_row") (fArgs (topAt 19)) (fBody (topAt 19)) (fScope (topAt 19)) (PySem.Value.none) (PySem.Value.none) (PySem.Value.none) (PySem.Value.str (PySem.Str.ofString "law_sa0304_01") 435) (Option.none) (PySem.Value.ref 159) (PySem.Value.none)), #[]⟩
noncomputable def o166 (P : Params) : Obj := { cls := PySem.Value.type "code", data := PySem.Data.fields #[PySem.Value.str (PySem.Str.ofString "_law_decl") 466, PySem.Value.str (PySem.Str.ofString "_law_decl") 467, PySem.Value.str (PySem.Str.ofString "/claim/cut.py") 468, PySem.Value.int 123 0, PySem.Value.int 3 0, PySem.Value.int 0 0, PySem.Value.int 0 0, PySem.Value.int 3 0, PySem.Value.ref 161, PySem.Value.bool Bool.true, PySem.Value.int 181 0, PySem.Value.ref 162, PySem.Value.none, PySem.Value.ref 163, PySem.Value.ref 164, PySem.Value.ref 165, PySem.Value.int 473 0, PySem.Value.int 123 0, PySem.Value.str (PySem.Str.ofString "/claim/cut.py") 474] }
noncomputable def o167 (P : Params) : Obj := ⟨PySem.Value.type "function", Option.none, .func (PySem.W.fnOf (PySem.Str.ofString "_law_decl") (PySem.Str.ofString "_law_decl") (fArgs (topAt 20)) (fBody (topAt 20)) (fScope (topAt 20)) (PySem.Value.none) (PySem.Value.none) (PySem.Value.none) (PySem.Value.str (PySem.Str.ofString "law_sa0304_01") 435) (Option.none) (PySem.Value.ref 166) (PySem.Value.none)), #[]⟩
noncomputable def o173 (P : Params) : Obj := { cls := PySem.Value.type "code", data := PySem.Data.fields #[PySem.Value.str (PySem.Str.ofString "_law_order") 476, PySem.Value.str (PySem.Str.ofString "_law_order") 477, PySem.Value.str (PySem.Str.ofString "/claim/cut.py") 478, PySem.Value.int 130 0, PySem.Value.int 2 0, PySem.Value.int 0 0, PySem.Value.int 0 0, PySem.Value.int 3 0, PySem.Value.ref 168, PySem.Value.bool Bool.true, PySem.Value.int 181 0, PySem.Value.ref 169, PySem.Value.none, PySem.Value.ref 170, PySem.Value.ref 171, PySem.Value.ref 172, PySem.Value.int 483 0, PySem.Value.int 130 0, PySem.Value.str (PySem.Str.ofString "/claim/cut.py") 484] }
noncomputable def o174 (P : Params) : Obj := ⟨PySem.Value.type "function", Option.none, .func (PySem.W.fnOf (PySem.Str.ofString "_law_order") (PySem.Str.ofString "_law_order") (fArgs (topAt 21)) (fBody (topAt 21)) (fScope (topAt 21)) (PySem.Value.none) (PySem.Value.none) (PySem.Value.none) (PySem.Value.str (PySem.Str.ofString "law_sa0304_01") 435) (Option.none) (PySem.Value.ref 173) (PySem.Value.none)), #[]⟩
noncomputable def o178 (P : Params) : Obj := { cls := PySem.Value.type "code", data := PySem.Data.fields #[PySem.Value.str (PySem.Str.ofString "_law_least") 486, PySem.Value.str (PySem.Str.ofString "_law_least") 487, PySem.Value.str (PySem.Str.ofString "/claim/cut.py") 488, PySem.Value.int 136 0, PySem.Value.int 3 0, PySem.Value.int 0 0, PySem.Value.int 0 0, PySem.Value.int 3 0, PySem.Value.ref 175, PySem.Value.bool Bool.true, PySem.Value.int 181 0, PySem.Value.ref 176, PySem.Value.none, PySem.Value.none, PySem.Value.none, PySem.Value.ref 177, PySem.Value.int 489 0, PySem.Value.int 136 0, PySem.Value.str (PySem.Str.ofString "/claim/cut.py") 490] }
noncomputable def o179 (P : Params) : Obj := ⟨PySem.Value.type "function", Option.none, .func (PySem.W.fnOf (PySem.Str.ofString "_law_least") (PySem.Str.ofString "_law_least") (fArgs (topAt 22)) (fBody (topAt 22)) (fScope (topAt 22)) (PySem.Value.none) (PySem.Value.none) (PySem.Value.none) (PySem.Value.str (PySem.Str.ofString "law_sa0304_01") 435) (Option.none) (PySem.Value.ref 178) (PySem.Value.none)), #[]⟩
noncomputable def o183 (P : Params) : Obj := { cls := PySem.Value.type "code", data := PySem.Data.fields #[PySem.Value.str (PySem.Str.ofString "_law_visible") 492, PySem.Value.str (PySem.Str.ofString "_law_visible") 493, PySem.Value.str (PySem.Str.ofString "/claim/cut.py") 494, PySem.Value.int 139 0, PySem.Value.int 5 0, PySem.Value.int 0 0, PySem.Value.int 0 0, PySem.Value.int 3 0, PySem.Value.ref 180, PySem.Value.bool Bool.true, PySem.Value.int 181 0, PySem.Value.ref 181, PySem.Value.none, PySem.Value.none, PySem.Value.none, PySem.Value.ref 182, PySem.Value.int 495 0, PySem.Value.int 139 0, PySem.Value.str (PySem.Str.ofString "/claim/cut.py") 496] }
noncomputable def o184 (P : Params) : Obj := ⟨PySem.Value.type "function", Option.none, .func (PySem.W.fnOf (PySem.Str.ofString "_law_visible") (PySem.Str.ofString "_law_visible") (fArgs (topAt 23)) (fBody (topAt 23)) (fScope (topAt 23)) (PySem.Value.none) (PySem.Value.none) (PySem.Value.none) (PySem.Value.str (PySem.Str.ofString "law_sa0304_01") 435) (Option.none) (PySem.Value.ref 183) (PySem.Value.none)), #[]⟩
noncomputable def o188 (P : Params) : Obj := { cls := PySem.Value.type "code", data := PySem.Data.fields #[PySem.Value.str (PySem.Str.ofString "_law_alike") 498, PySem.Value.str (PySem.Str.ofString "_law_alike") 499, PySem.Value.str (PySem.Str.ofString "/claim/cut.py") 500, PySem.Value.int 151 0, PySem.Value.int 3 0, PySem.Value.int 0 0, PySem.Value.int 0 0, PySem.Value.int 3 0, PySem.Value.ref 185, PySem.Value.bool Bool.true, PySem.Value.int 181 0, PySem.Value.ref 186, PySem.Value.none, PySem.Value.none, PySem.Value.none, PySem.Value.ref 187, PySem.Value.int 501 0, PySem.Value.int 151 0, PySem.Value.str (PySem.Str.ofString "/claim/cut.py") 502] }
noncomputable def o189 (P : Params) : Obj := ⟨PySem.Value.type "function", Option.none, .func (PySem.W.fnOf (PySem.Str.ofString "_law_alike") (PySem.Str.ofString "_law_alike") (fArgs (topAt 24)) (fBody (topAt 24)) (fScope (topAt 24)) (PySem.Value.none) (PySem.Value.none) (PySem.Value.none) (PySem.Value.str (PySem.Str.ofString "law_sa0304_01") 435) (Option.none) (PySem.Value.ref 188) (PySem.Value.none)), #[]⟩
noncomputable def o193 (P : Params) : Obj := { cls := PySem.Value.type "code", data := PySem.Data.fields #[PySem.Value.str (PySem.Str.ofString "_law_nearest") 504, PySem.Value.str (PySem.Str.ofString "_law_nearest") 505, PySem.Value.str (PySem.Str.ofString "/claim/cut.py") 506, PySem.Value.int 154 0, PySem.Value.int 5 0, PySem.Value.int 0 0, PySem.Value.int 0 0, PySem.Value.int 3 0, PySem.Value.ref 190, PySem.Value.bool Bool.true, PySem.Value.int 181 0, PySem.Value.ref 191, PySem.Value.none, PySem.Value.none, PySem.Value.none, PySem.Value.ref 192, PySem.Value.int 507 0, PySem.Value.int 154 0, PySem.Value.str (PySem.Str.ofString "/claim/cut.py") 508] }
noncomputable def o194 (P : Params) : Obj := ⟨PySem.Value.type "function", Option.none, .func (PySem.W.fnOf (PySem.Str.ofString "_law_nearest") (PySem.Str.ofString "_law_nearest") (fArgs (topAt 25)) (fBody (topAt 25)) (fScope (topAt 25)) (PySem.Value.none) (PySem.Value.none) (PySem.Value.none) (PySem.Value.str (PySem.Str.ofString "law_sa0304_01") 435) (Option.none) (PySem.Value.ref 193) (PySem.Value.none)), #[]⟩
noncomputable def o198 (P : Params) : Obj := { cls := PySem.Value.type "code", data := PySem.Data.fields #[PySem.Value.str (PySem.Str.ofString "_law_next") 510, PySem.Value.str (PySem.Str.ofString "_law_next") 511, PySem.Value.str (PySem.Str.ofString "/claim/cut.py") 512, PySem.Value.int 159 0, PySem.Value.int 5 0, PySem.Value.int 0 0, PySem.Value.int 0 0, PySem.Value.int 3 0, PySem.Value.ref 195, PySem.Value.bool Bool.true, PySem.Value.int 181 0, PySem.Value.ref 196, PySem.Value.none, PySem.Value.none, PySem.Value.none, PySem.Value.ref 197, PySem.Value.int 513 0, PySem.Value.int 159 0, PySem.Value.str (PySem.Str.ofString "/claim/cut.py") 514] }
noncomputable def o199 (P : Params) : Obj := ⟨PySem.Value.type "function", Option.none, .func (PySem.W.fnOf (PySem.Str.ofString "_law_next") (PySem.Str.ofString "_law_next") (fArgs (topAt 26)) (fBody (topAt 26)) (fScope (topAt 26)) (PySem.Value.none) (PySem.Value.none) (PySem.Value.none) (PySem.Value.str (PySem.Str.ofString "law_sa0304_01") 435) (Option.none) (PySem.Value.ref 198) (PySem.Value.none)), #[]⟩
noncomputable def o205 (P : Params) : Obj := { cls := PySem.Value.type "code", data := PySem.Data.fields #[PySem.Value.str (PySem.Str.ofString "_law_number") 516, PySem.Value.str (PySem.Str.ofString "_law_number") 517, PySem.Value.str (PySem.Str.ofString "/claim/cut.py") 518, PySem.Value.int 163 0, PySem.Value.int 2 0, PySem.Value.int 0 0, PySem.Value.int 0 0, PySem.Value.int 3 0, PySem.Value.ref 200, PySem.Value.bool Bool.true, PySem.Value.int 181 0, PySem.Value.ref 201, PySem.Value.none, PySem.Value.ref 202, PySem.Value.ref 203, PySem.Value.ref 204, PySem.Value.int 521 0, PySem.Value.int 163 0, PySem.Value.str (PySem.Str.ofString "/claim/cut.py") 522] }
noncomputable def o206 (P : Params) : Obj := ⟨PySem.Value.type "function", Option.none, .func (PySem.W.fnOf (PySem.Str.ofString "_law_number") (PySem.Str.ofString "_law_number") (fArgs (topAt 27)) (fBody (topAt 27)) (fScope (topAt 27)) (PySem.Value.none) (PySem.Value.none) (PySem.Value.none) (PySem.Value.str (PySem.Str.ofString "law_sa0304_01") 435) (Option.none) (PySem.Value.ref 205) (PySem.Value.none)), #[]⟩
noncomputable def o210 (P : Params) : Obj := { cls := PySem.Value.type "code", data := PySem.Data.fields #[PySem.Value.str (PySem.Str.ofString "law") 524, PySem.Value.str (PySem.Str.ofString "law") 525, PySem.Value.str (PySem.Str.ofString "/claim/cut.py") 526, PySem.Value.int 165 0, PySem.Value.int 1 0, PySem.Value.int 0 0, PySem.Value.int 0 0, PySem.Value.int 3 0, PySem.Value.ref 207, PySem.Value.bool Bool.true, PySem.Value.int 181 0, PySem.Value.ref 208, PySem.Value.none, PySem.Value.none, PySem.Value.none, PySem.Value.ref 209, PySem.Value.int 527 0, PySem.Value.int 165 0, PySem.Value.str (PySem.Str.ofString "/claim/cut.py") 528] }
noncomputable def o211 (P : Params) : Obj := ⟨PySem.Value.type "function", Option.none, .func (PySem.W.fnOf (PySem.Str.ofString "law") (PySem.Str.ofString "law") (fArgs (topAt 28)) (fBody (topAt 28)) (fScope (topAt 28)) (PySem.Value.none) (PySem.Value.none) (PySem.Value.none) (PySem.Value.str (PySem.Str.ofString "law_sa0304_01") 435) (Option.none) (PySem.Value.ref 210) (PySem.Value.none)), #[]⟩
noncomputable def KH (P : Params) : Frag := (nat_lit 3, o3 P) :: (nat_lit 20, o20 P) :: (nat_lit 21, o21 P) :: (nat_lit 27, o27 P) :: (nat_lit 28, o28 P) :: (nat_lit 34, o34 P) :: (nat_lit 35, o35 P) :: (nat_lit 41, o41 P) :: (nat_lit 42, o42 P) :: (nat_lit 55, o55 P) :: (nat_lit 56, o56 P) :: (nat_lit 57, o57 P) :: (nat_lit 58, o58 P) :: (nat_lit 59, o59 P) :: (nat_lit 60, o60 P) :: (nat_lit 61, o61 P) :: (nat_lit 128, o128 P) :: (nat_lit 129, o129 P) :: (nat_lit 130, o130 P) :: (nat_lit 131, o131 P) :: (nat_lit 132, o132 P) :: (nat_lit 133, o133 P) :: (nat_lit 134, o134 P) :: (nat_lit 145, o145 P) :: (nat_lit 146, o146 P) :: (nat_lit 152, o152 P) :: (nat_lit 153, o153 P) :: (nat_lit 159, o159 P) :: (nat_lit 160, o160 P) :: (nat_lit 166, o166 P) :: (nat_lit 167, o167 P) :: (nat_lit 173, o173 P) :: (nat_lit 174, o174 P) :: (nat_lit 178, o178 P) :: (nat_lit 179, o179 P) :: (nat_lit 183, o183 P) :: (nat_lit 184, o184 P) :: (nat_lit 188, o188 P) :: (nat_lit 189, o189 P) :: (nat_lit 193, o193 P) :: (nat_lit 194, o194 P) :: (nat_lit 198, o198 P) :: (nat_lit 199, o199 P) :: (nat_lit 205, o205 P) :: (nat_lit 206, o206 P) :: (nat_lit 210, o210 P) :: (nat_lit 211, o211 P) :: []
noncomputable def KA : List Addr := nat_lit 3 :: nat_lit 20 :: nat_lit 21 :: nat_lit 27 :: nat_lit 28 :: nat_lit 34 :: nat_lit 35 :: nat_lit 41 :: nat_lit 42 :: nat_lit 55 :: nat_lit 56 :: nat_lit 57 :: nat_lit 58 :: nat_lit 59 :: nat_lit 60 :: nat_lit 61 :: nat_lit 128 :: nat_lit 129 :: nat_lit 130 :: nat_lit 131 :: nat_lit 132 :: nat_lit 133 :: nat_lit 134 :: nat_lit 145 :: nat_lit 146 :: nat_lit 152 :: nat_lit 153 :: nat_lit 159 :: nat_lit 160 :: nat_lit 166 :: nat_lit 167 :: nat_lit 173 :: nat_lit 174 :: nat_lit 178 :: nat_lit 179 :: nat_lit 183 :: nat_lit 184 :: nat_lit 188 :: nat_lit 189 :: nat_lit 193 :: nat_lit 194 :: nat_lit 198 :: nat_lit 199 :: nat_lit 205 :: nat_lit 206 :: nat_lit 210 :: nat_lit 211 :: []

noncomputable abbrev Led := List (Addr × Obj)

/-- the shape of what stands around a walk: nothing handled -/
noncomputable abbrev top (dp un : Nat) (fr : Option (List Env)) (gd : Option (List Code)) : Around := { handled := none, depth := dp, frames := fr, guards := gd, units := un }

section
variable {prog : Program} {w : World} {A : Around} {s : Shared} {K : Frag} {h₀ : Heap} {L : Addr} {m mg mb : Str → Option Value} {news : Led} {p : Program} {loose : List Str} {mean : ExcName → Option Value}
  {R : Result → Shared → Prop}

/-- a call's ground without the frames below -/
theorem ground (F : Fr h₀ L s.heap m) (N : News h₀ L s.heap news) :
    Fr h₀ L (hideAll s.heap (news.map (·.1))) m ∧ h₀.StaysIn (hideAll s.heap (news.map (·.1))) ∧
      ∀ v s', LeaveK h₀ L m (hideAll s.heap (news.map (·.1))) R v s' → R (.ok (.ret v)) s' := by
  have nm : ∀ b o, h₀.get? b = some o → b ∉ news.map (·.1) := fun b o e q => by
    obtain ⟨p, hp, rfl⟩ := List.mem_map.mp q
    rw [(N p hp).2.2] at e; cases e
  have st : h₀.StaysIn (hideAll s.heap (news.map (·.1))) := fun b o e => hideAll_get _ (F.keep b o e) (nm b o e)
  obtain ⟨oL, es, ep, hL, hLd, hLk, hLf⟩ := F.ns
  have nL : L ∉ news.map (·.1) := fun q => by
    obtain ⟨p, hp, e⟩ := List.mem_map.mp q
    exact (N p hp).2.1 e
  have hLg := hideAll_get (news.map (·.1)) hL nL
  refine ⟨⟨⟨oL, es, ep, hLg, hLd, hLk, hLf⟩, st, F.above⟩, st, fun v s' hl => ?_⟩
  obtain ⟨L', m', news', F', N', k⟩ := hl
  refine k ⟨⟨oL, es, ep, F'.keep L oL hLg, hLd, hLk, hLf⟩, fun b o e => F'.keep b o (st b o e), F.above⟩ fun p hp => ⟨(N' p hp).1, fun q => ?_, ?_⟩
  · have := (N' p hp).2.2; rw [q, hLg] at this; cases this
  · cases q : h₀.get? p.1 with
    | none => rfl
    | some o => have := (N' p hp).2.2; rw [st _ _ q] at this; cases this

theorem enter {name qual : Str} {params : Arguments} {body : List Stmt} {scope : Scope} {dV kV doc pm cdv ct oc : Value} {an od : Option Addr} {osl : Array (Option Value)} {f : Addr} {args : PySem.Args} {binds : List (Str × Value)}
    (F : Fr h₀ L s.heap m) (X₀ : K.In h₀) (N : News h₀ L s.heap news) (T : Top p loose mean mg mb h₀)
    (ho : K.lookup f = some ⟨oc, od, .func (fnOf name qual params body scope dV kV doc pm an cdv ct), osl⟩) (hcd : codeIn K cdv qual = true) (hroom : A.depth < recursionLimit)
    (hbind : BindsTo s (fnOf name qual params body scope dV kV doc pm an cdv ct) args binds) (hloc : ∀ y ∈ binds, scope.names.lookup y.1 = some .local)
    (hco : scope.isCoroutine = false) (hgen : scope.isGenerator = false) (hk : scope.kind = .function) (hcell : ∀ x ∈ scope.names, x.2 ≠ .cell)
    (h : ∀ g L' h₁, Fr g L' h₁ (fun y => binds.reverse.lookup y) → News g L' h₁ news → K.In g → Top p loose mean mg mb g → (∀ p ∈ news, p.1 < L') →
      wpAny (model prog w) (A.deeper (envOf qual scope L' f cdv)) (execs body (envOf qual scope L' f cdv))
        (fun fl s' => LeaveK h₀ L m g R (match fl with | .ret v => v | _ => .none) s') (fun _ _ => False)
        { s with heap := h₁, toks := s.toks + binds.length }) : codeAny (model prog w) A (.call (.ref f) args) R s := by
  obtain ⟨FG, st₀, lv⟩ := ground (R := R) F N
  have st : ∀ b o, h₀.get? b = some o → (hideAll s.heap (news.map (·.1))).get? b = some o := st₀
  refine codeAny_call_def (fd := fnX name qual params body scope [] dV kV doc pm an cdv ct) (body := body) (binds := binds) hroom ((X₀.keeps F.keep) _ _ ho) rfl (T.nolimit.keeps F.keep) (codeRec_of (X₀.keeps F.keep) hcd) rfl hbind hcell hloc (fun h₁ hns hk₁ => ?_) hco hgen hk
  exact wpAny_mono (h (hideAll s.heap (news.map (·.1))) s.heap.objs.size h₁ ⟨hns, fun b o e => hk₁ b o (of_hideAll _ e), Nat.le_of_eq (hideAll_size _ _)⟩
    (fun p hp => ⟨hk₁ _ _ (N p hp).1, Nat.ne_of_lt (Heap.lt_size (N p hp).1), hideAll_none _ (List.mem_map_of_mem hp)⟩) (X₀.keeps st) (T.keeps st) (fun p hp => Heap.lt_size (N p hp).1)) (fun fl s' hl => lv _ _ hl) fun _ _ y => y.elim

theorem enterC {name qual : Str} {params : Arguments} {body : List Stmt} {scope : Scope} {dV kV doc pm cdv ct oc : Value} {an od : Option Addr} {osl : Array (Option Value)} {f : Addr} {args : PySem.Args} {binds : List (Str × Value)}
    (F : Fr h₀ L s.heap m) (X₀ : K.In h₀) (N : News h₀ L s.heap news) (T : Top p loose mean mg mb h₀)
    (ho : K.lookup f = some ⟨oc, od, .func (fnOf name qual params body scope dV kV doc pm an cdv ct), osl⟩) (hcd : codeIn K cdv qual = true) (hroom : A.depth < recursionLimit)
    (hbind : BindsTo s (fnOf name qual params body scope dV kV doc pm an cdv ct) args binds) (hkind : (binds.all fun y => scope.names.lookup y.1 == some .local || scope.names.lookup y.1 == some .cell) = true)
    (hnd : ((cellsFrom 0 scope.names []).map (·.1)).Nodup)
    (hco : scope.isCoroutine = false) (hgen : scope.isGenerator = false) (hk : scope.kind = .function)
    (h : ∀ g L' h₁ tk cells, Fr g L' h₁ (bindL (envOfC qual scope L' f cdv).kindOf binds fun _ => none) → News g L' h₁ (cells ++ news) →
      CellsAre (bindC (envOfC qual scope L' f cdv).kindOf binds fun _ => none) (cellsFrom (L' + 1) scope.names []) cells → K.In g → Top p loose mean mg mb g → (∀ p ∈ news, p.1 < L') →
      wpAny (model prog w) (A.deeper (envOfC qual scope L' f cdv)) (execs body (envOfC qual scope L' f cdv))
        (fun fl s' => LeaveK h₀ L m g R (match fl with | .ret v => v | _ => .none) s') (fun _ _ => False)
        { s with heap := h₁, toks := tk }) : codeAny (model prog w) A (.call (.ref f) args) R s := by
  obtain ⟨FG, st₀, lv⟩ := ground (R := R) F N
  have st : ∀ b o, h₀.get? b = some o → (hideAll s.heap (news.map (·.1))).get? b = some o := st₀
  refine codeAny_call_function hroom ((X₀.keeps F.keep) _ _ ho) rfl hco hgen rfl (codeRec_of (X₀.keeps F.keep) hcd) (hbind _ _ _ _ ?_)
  refine wpAny_newFunctionEnv_cells hk (kindsX hkind _) fun env' he s' x => ?_
  subst he
  refine ⟨(T.nolimit.keeps F.keep).keeps x.toInCall.keep, codeAny_func ?_⟩
  obtain ⟨h₁, tk, rfl, _⟩ := x.done
  have hk₁ := x.toInCall.keep
  obtain ⟨cells, NC, Y⟩ := Cl.news (h₀ := s.heap) (Nat.le_refl _) fun n c hm => ⟨x.cell n c (lookup_of_mem_nodup (cellsFrom_names scope.names 0 (s.heap.objs.size + 1) [] [] rfl ▸ hnd) hm), x.above n c hm⟩
  refine wpAny_mono (h (hideAll s.heap (news.map (·.1))) s.heap.objs.size h₁ tk cells ⟨x.toInCall.ns, fun b o e => hk₁ b o (of_hideAll _ e), Nat.le_of_eq (hideAll_size _ _)⟩ (fun p hp => ?_) Y (X₀.keeps st) (T.keeps st) (fun p hp => Heap.lt_size (N p hp).1)) (fun fl s' hl => lv _ _ hl) fun _ _ y => y.elim
  rcases List.mem_append.mp hp with hp | hp
  · refine ⟨(NC p hp).1, (NC p hp).2.1, ?_⟩
    cases q : (hideAll s.heap (news.map (·.1))).get? p.1 with
    | none => rfl
    | some o => have := of_hideAll _ q; rw [(NC p hp).2.2] at this; cases this
  · exact ⟨hk₁ _ _ (N p hp).1, Nat.ne_of_lt (Heap.lt_size (N p hp).1), hideAll_none _ (List.mem_map_of_mem hp)⟩
end

theorem News.sub {h₀ h : Heap} {L : Addr} {news news' : Led} (N : News h₀ L h news) (hs : ∀ p ∈ news', p ∈ news) : News h₀ L h news' := fun p hp => N p (hs p hp)

/-- an object of the ledger, and the ledger with another object in its place -/
inductive At (d : Addr) (o : Obj) : Led → (Obj → Led) → Prop
  | head {r} : (∀ p ∈ r, p.1 ≠ d) → At d o ((d, o) :: r) (fun o' => (d, o') :: r)
  | tail {p r f} : p.1 ≠ d → At d o r f → At d o (p :: r) (fun o' => p :: f o')
theorem At.upd {d : Addr} {o : Obj} {l : Led} {f : Obj → Led} (h : At d o l f) (o' : Obj) : Upd d o o' l (f o') := by
  induction h with
  | head h => exact .head h
  | tail h _ ih => exact .tail h ih
theorem At.mem {d : Addr} {o : Obj} {l : Led} {f : Obj → Led} (h : At d o l f) : (d, o) ∈ l := by
  induction h with
  | head h => exact .head _
  | tail h _ ih => exact .tail _ ih
theorem lt_of_allLt {d : Addr} {l : Led} (h : AllLt d l) : ∀ p ∈ l, p.1 < d := by
  induction l with
  | nil => intro p hp; cases hp
  | cons q r ih =>
    intro p hp
    rcases List.mem_cons.mp hp with rfl | hp
    · exact h.1
    · exact ih h.2 p hp
theorem ne_of_allLt {d : Addr} {l : Led} (h : AllLt d l) : ∀ p ∈ l, p.1 ≠ d := fun p hp => Nat.ne_of_lt (lt_of_allLt h p hp)
theorem ne_of_lt' {d : Addr} {l : Led} (h : ∀ p ∈ l, p.1 < d) : ∀ p ∈ l, p.1 ≠ d := fun p hp => Nat.ne_of_lt (h p hp)

theorem At.again {d : Addr} {o : Obj} {l : Led} {f : Obj → Led} (h : At d o l f) (o' : Obj) : At d o' (f o') f := by
  induction h with
  | head h => exact .head h
  | tail h _ ih => exact .tail h ih
/-- the rest of a ledger -/
theorem At.split {d : Addr} {o : Obj} {l : Led} {f : Obj → Led} (h : At d o l f) :
    ∃ rest : Led, (∀ p ∈ rest, p.1 ≠ d) ∧ (∀ o', ∀ p, p ∈ f o' ↔ p = (d, o') ∨ p ∈ rest) ∧ (∀ p, p ∈ l ↔ p = (d, o) ∨ p ∈ rest) := by
  induction h with
  | @head r h => exact ⟨r, h, fun o' p => List.mem_cons, fun p => List.mem_cons⟩
  | @tail q r f hne _ ih =>
    obtain ⟨rest, h1, h2, h3⟩ := ih
    refine ⟨q :: rest, ?_, ?_, ?_⟩
    · intro p hp
      rcases List.mem_cons.mp hp with rfl | hp
      · exact hne
      · exact h1 p hp
    · intro o' p
      simp only [List.mem_cons, h2]
      constructor
      · rintro (h | h | h)
        · exact .inr (.inl h)
        · exact .inl h
        · exact .inr (.inr h)
      · rintro (h | h | h)
        · exact .inr (.inl h)
        · exact .inl h
        · exact .inr (.inr h)
    · intro p
      simp only [List.mem_cons, h3]
      constructor
      · rintro (h | h | h)
        · exact .inr (.inl h)
        · exact .inl h
        · exact .inr (.inr h)
      · rintro (h | h | h)
        · exact .inr (.inl h)
        · exact .inl h
        · exact .inr (.inr h)

/-- what a call of the def at f with these arguments does to the ledger -/
noncomputable def Con (w : World) (p : Program) (loose : List Str) (mean : ExcName → Option Value) (mg mb : Str → Option Value) (f : Addr) (vs : List Value) (news : Led) (k : Nat) (post : Led → Value → Prop) : Prop :=
  ∀ (dp un : Nat) (fr : Option (List Env)) (gd : Option (List Code)) (h₀ : Heap) (L : Addr) (m : Str → Option Value) (s : Shared) (Q E : Value → Shared → Prop),
    Fr h₀ L s.heap m → (KH w.params).In h₀ → News h₀ L s.heap news → Top p loose mean mg mb h₀ → dp + k < recursionLimit → un + 10 * k < cLine →
    (∀ v h' tk news', post news' v → Fr h₀ L h' m → News h₀ L h' news' → Q v { s with heap := h', toks := tk }) →
    wpAny (model Challenge.rw_sa0304_01.row.prog w) (top dp un fr gd) (call (.ref f) vs) Q E s
theorem Con.use {w : World} {p : Program} {loose : List Str} {mean : ExcName → Option Value} {mg mb : Str → Option Value} {f : Addr} {vs : List Value} {news : Led} {k : Nat} {post : Led → Value → Prop}
    {dp un : Nat} {fr : Option (List Env)} {gd : Option (List Code)} {h₀ : Heap} {L : Addr} {m : Str → Option Value} {s : Shared} {Q E : Value → Shared → Prop}
    (C : Con w p loose mean mg mb f vs news k post) (F : Fr h₀ L s.heap m) (X : (KH w.params).In h₀) (N : News h₀ L s.heap news) (T : Top p loose mean mg mb h₀)
    (hd : dp + k < recursionLimit) (hu : un + 10 * k < cLine)
    (h : ∀ v h' tk news', post news' v → Fr h₀ L h' m → News h₀ L h' news' → Q v { s with heap := h', toks := tk }) :
    wpAny (model Challenge.rw_sa0304_01.row.prog w) (top dp un fr gd) (call (.ref f) vs) Q E s := C dp un fr gd h₀ L m s Q E F X N T hd hu h
/-- a list or a tuple -/
noncomputable abbrev tupOf (vs : List Value) : Obj := { cls := .type "tuple", data := .seq vs.toArray }
noncomputable def seqO (tup : Bool) (vs : List Value) (n : Nat) : Obj := match tup with | true => tupOf vs | false => listOf vs.toArray n
noncomputable def iterC (tup : Bool) : String := match tup with | true => "tuple_iterator" | false => "list_iterator"
noncomputable def SeqIter (tup : Bool) (h : Heap) (I l : Addr) (i : Nat) : Prop := ∃ o, h.get? I = some o ∧ o.cls = .type (iterC tup) ∧ o.data = .fields #[.ref l, .int i 0]
section
variable {prog : Program} {w : World} {A : Around} {E : Value → Shared → Prop} {s : Shared} {I l : Addr} {i n : Nat} {vs : List Value} {tup : Bool}
theorem seq_item {x : Value} {Q : Option Value → Shared → Prop} (hit : SeqIter tup s.heap I l i) (hl : s.heap.get? l = some (seqO tup vs n)) (hx : vs[i]? = some x) (hQ : ∀ h', SeqIter tup h' I l (i + 1) → Heap.SameBut I s.heap h' → Q (some x) { s with heap := h' }) :
    wpAny (model prog w) A (pyNext (.ref I)) Q E s := by
  cases tup with
  | true => exact wpAny_pyNext_tuple_item hit ⟨_, hl, rfl, 0, rfl⟩ (x := x) (by simpa using hx) hQ
  | false => exact wpAny_pyNext_list_item hit ⟨_, hl, rfl, n, rfl⟩ (x := x) (by simpa using hx) hQ
theorem seq_end {Q : Option Value → Shared → Prop} (hh : A.handled = none) (hit : SeqIter tup s.heap I l i) (hl : s.heap.get? l = some (seqO tup vs n)) (hx : vs[i]? = none) (hQ : ∀ h', Heap.ExtBut I s.heap h' → Q none { s with heap := h' }) :
    wpAny (model prog w) A (pyNext (.ref I)) Q E s := by
  cases tup with
  | true => exact wpAny_pyNext_tuple_end hh hit ⟨_, hl, rfl, 0, rfl⟩ (by simpa using hx) hQ
  | false => exact wpAny_pyNext_list_end hh hit ⟨_, hl, rfl, n, rfl⟩ (by simpa using hx) hQ
theorem seq_iter {Q : Value → Shared → Prop} (hl : s.heap.get? l = some (seqO tup vs n)) (hQ : Q (.ref s.heap.objs.size) { s with heap := s.heap.push { cls := .type (iterC tup), data := .fields #[.ref l, .int 0 0] } }) :
    wpAny (model prog w) A (pyIter (.ref l)) Q E s := by
  cases tup with
  | true => exact wpAny_pyIter_tuple (items := vs.toArray) ⟨_, hl, rfl, 0, rfl⟩ hQ
  | false => exact wpAny_pyIter_list (items := vs.toArray) ⟨_, hl, rfl, n, rfl⟩ hQ
theorem seq_again {Q : Value → Shared → Prop} (hit : SeqIter tup s.heap I l i) (h : Q (.ref I) s) : wpAny (model prog w) A (pyIter (.ref I)) Q E s := by
  cases tup with
  | true => exact wpAny_pyIter_tupleiter hit h
  | false => exact wpAny_pyIter_listiter hit h
end

section
variable {prog : Program} {w : World} {A : Around} {E : Value → Shared → Prop} {s : Shared} {h₀ g : Heap} {L C : Addr} {m : Str → Option Value} {news : Led}

/-- back from a ground to the frame below it -/
theorem back {H : Heap} {m' : Str → Option Value} {led : Led} (FG : Fr h₀ L g m) (st : ∀ b o, h₀.get? b = some o → g.get? b = some o) (F' : Fr g C H m') (N' : News g C H led) : Fr h₀ L H m ∧ News h₀ L H led := by
  obtain ⟨oL, es, ep, hLg, hLd, hLk, hLf⟩ := FG.ns
  refine ⟨⟨⟨oL, es, ep, F'.keep L oL hLg, hLd, hLk, hLf⟩, fun b o e => F'.keep b o (st b o e), FG.above⟩, fun p hp => ⟨(N' p hp).1, fun q => ?_, ?_⟩⟩
  · have := (N' p hp).2.2; rw [q, hLg] at this; cases this
  · cases q : h₀.get? p.1 with
    | none => rfl
    | some o => have := (N' p hp).2.2; rw [st _ _ q] at this; cases this

theorem not_above {h : Heap} {a : Addr} (ha : h.objs.size ≤ a) : h.get? a = none := by
  cases e : h.get? a with
  | none => rfl
  | some o => exact absurd (Heap.lt_size e) (Nat.not_lt.mpr ha)

/-- nothing of the ledger stands at these places -/
noncomputable def Apart (led : Led) (as : List Addr) : Prop := ∀ p ∈ led, ∀ a ∈ as, p.1 ≠ a

/-- the end of a loop's turn: the ledger is another one, what the loop holds stands -/
inductive TurnEndM (g : Heap) (C : Addr) (own : Led) (J : (Str → Option Value) → Led → Prop) (s : Shared) : Shared → Prop
  | mk {s' : Shared} (h' : Heap) (tk : Nat) (m' : Str → Option Value) (led' : Led) (e : s' = { s with heap := h', toks := tk }) (F : Fr g C h' m') (N : News g C h' (own ++ led')) (a : Apart led' (own.map (·.1))) (j : J m' led') : TurnEndM g C own J s s'
theorem TurnEndM.intro {own led' : Led} {J : (Str → Option Value) → Led → Prop} {m' : Str → Option Value} {h' : Heap} {tk : Nat} (F : Fr g C h' m') (N : News g C h' (own ++ led')) (ha : Apart led' (own.map (·.1))) (hj : J m' led') :
    TurnEndM g C own J s { s with heap := h', toks := tk } := ⟨h', tk, m', led', rfl, F, N, ha, hj⟩

theorem sub_of_sameBut {D : Addr} {h h' : Heap} {led : Led} (N : News g C h led) (hs : Heap.SameBut D h h') (hD : ∀ p ∈ led, p.1 ≠ D) : News g C h' led :=
  fun p hp => ⟨(hs.2 _ (hD p hp)).trans (N p hp).1, (N p hp).2⟩

theorem fr_sameBut {D : Addr} {h h' : Heap} (F : Fr g C h m) (hs : Heap.SameBut D h h') (hC : D ≠ C) (hg : g.get? D = none) : Fr g C h' m :=
  ⟨F.ns.sameBut hs (Ne.symm hC), fun b o e => (hs.2 b (fun q => by rw [q, hg] at e; cases e)).trans (F.keep b o e), F.above⟩
theorem fr_extBut {D : Addr} {h h' : Heap} (F : Fr g C h m) (hs : Heap.ExtBut D h h') (hC : D ≠ C) (hg : g.get? D = none) : Fr g C h' m :=
  ⟨F.ns.extBut hs (Ne.symm hC), fun b o e => hs b o (fun q => by rw [q, hg] at e; cases e) (F.keep b o e), F.above⟩
theorem sub_of_extBut {D : Addr} {h h' : Heap} {led : Led} (N : News g C h led) (hs : Heap.ExtBut D h h') (hD : ∀ p ∈ led, p.1 ≠ D) : News g C h' led :=
  fun p hp => ⟨hs _ _ (hD p hp) (N p hp).1, (N p hp).2⟩

/-- the turns of a comprehension over a list of the ledger -/
theorem comp_core {elt iter : Expr} {x : Str} {px : Pos} {ifs : List Expr} {scope : Scope} {pos : Pos} {cenv : Env} {I D l : Addr} {vs : List Value} {n nD : Nat} {tup : Bool} {led₀ : Led} {R : Result → Shared → Prop}
    (J : Nat → List Value → Led → Prop)
    (hh : A.handled = none) (hDI : D ≠ I) (hIC : I ≠ C) (gI : g.get? I = none) (hsz : vs.length ≤ 1000)
    (F : Fr g C s.heap m) (N : News g C s.heap ((D, listOf #[] nD) :: led₀)) (hI : SeqIter tup s.heap I l 0) (ha : Apart led₀ [D, I])
    (hJ : J 0 [] led₀) (hJl : ∀ i outs led, J i outs led → (l, seqO tup vs n) ∈ led)
    (turn : ∀ i v outs led m' h tk oI nD, vs[i]? = some v → J i outs led → Apart led [D, I] → Fr g C h m' → News g C h ((D, listOf outs.toArray nD) :: (I, oI) :: led) → outs.length ≤ i →
      wpAny (model prog w) A (assign (.Name x px) cenv v) (fun _ s₂ =>
        wpAny (model prog w) A (forIn ifs true fun c r => if r = true then do let ok ← isTrue c cenv (eval c cenv); pure (ForInStep.yield ok) else pure (ForInStep.yield r)) (fun ok s₃ =>
          if ok = true then wpAny (model prog w) A (eval elt cenv) (fun r s₄ => TurnEndM g C [(D, listOf outs.toArray nD), (I, oI)] (fun _ => J (i + 1) (outs ++ [r])) { s with heap := h, toks := tk } s₄) (fun _ _ => False) s₃
          else TurnEndM g C [(D, listOf outs.toArray nD), (I, oI)] (fun _ => J (i + 1) outs) { s with heap := h, toks := tk } s₃) (fun _ _ => False) s₂) (fun _ _ => False) { s with heap := h, toks := tk })
    (done : ∀ outs led m' h tk nD, J vs.length outs led → Apart led [D, I] → Fr g C h m' → News g C h ((D, listOf outs.toArray nD) :: led) → outs.length ≤ vs.length → R (.ok .next) { s with heap := h, toks := tk }) :
    codeAny (model prog w) A (.compLoop (.ListComp elt [⟨.Name x px, iter, ifs, 0⟩] scope pos) 0 (.ref I) (.ref D) cenv) R s := by
  refine codeAny_compLoop_tests
    (fun k s' => ∃ h' tk m' outs nD led i, s' = { s with heap := h', toks := tk } ∧ SeqIter tup h' I l i ∧ Fr g C h' m' ∧ News g C h' ((D, listOf outs.toArray nD) :: led) ∧ Apart led [D, I] ∧ J i outs led ∧ outs.length ≤ i ∧ i ≤ vs.length ∧ k = vs.length + 1 - i) ?_ (vs.length + 1)
    ⟨s.heap, s.toks, m, [], nD, led₀, 0, rfl, hI, F, N, ha, hJ, Nat.le_refl _, Nat.zero_le _, rfl⟩
  rintro k s' ⟨h', tk, m', outs, nD, led, i, rfl, hI', F', N', ha', hJ', ho, hi, rfl⟩
  have hl := (N' _ (.tail _ (hJl _ _ _ hJ'))).1
  have hDC : D ≠ C := (N' _ (.head _)).2.1
  have gD : g.get? D = none := (N' _ (.head _)).2.2
  cases hv : vs[i]? with
  | none =>
    have hin : i = vs.length := by
      have : vs.length ≤ i := by simpa using hv
      omega
    subst hin
    refine seq_end hh hI' hl hv fun h₁ he₁ => ?_
    refine done outs led m' h₁ tk nD hJ' ha' (fr_extBut F' he₁ hIC gI) (sub_of_extBut N' he₁ fun p hp => ?_) ho
    rcases List.mem_cons.mp hp with rfl | hp
    · exact hDI
    · exact ha' p hp I (by simp)
  | some v =>
    have hlt : i < vs.length := by
      obtain ⟨h1, _⟩ := List.getElem?_eq_some_iff.mp hv
      exact h1
    refine seq_item hI' hl hv fun h₁ hI₁ hs₁ => ?_
    have hI₁' := hI₁
    obtain ⟨oI, hoI, hcI, hdI⟩ := hI₁
    have F₁ := fr_sameBut F' hs₁ hIC gI
    have N₁ : News g C h₁ ((D, listOf outs.toArray nD) :: (I, oI) :: led) := by
      have N₀ := sub_of_sameBut N' hs₁ (fun p hp => by
        rcases List.mem_cons.mp hp with rfl | hp
        · exact hDI
        · exact ha' p hp I (by simp))
      intro p hp
      rcases List.mem_cons.mp hp with rfl | hp
      · exact N₀ _ (.head _)
      · rcases List.mem_cons.mp hp with rfl | hp
        · exact ⟨hoI, hIC, gI⟩
        · exact N₀ _ (.tail _ hp)
    refine wpAny_mono (turn i v outs led m' h₁ tk oI nD hv hJ' ha' F₁ N₁ ho) (fun _ s₂ h₂ => ?_) fun _ _ x => x.elim
    refine wpAny_mono h₂ (fun ok s₃ h₃ => ?_) fun _ _ x => x.elim
    cases ok with
    | false =>
      simp only [Bool.false_eq_true, if_false] at h₃ ⊢
      obtain ⟨h₄, tk₄, m₄, led₄, rfl, F₄, N₄, a₄, j₄⟩ := h₃
      refine ⟨vs.length + 1 - (i + 1), by omega, h₄, tk₄, m₄, outs, nD, led₄, i + 1, rfl, ⟨oI, (N₄ _ (.tail _ (.head _))).1, hcI, hdI⟩, F₄, ?_, ?_, j₄, by omega, by omega, rfl⟩
      · intro p hp
        rcases List.mem_cons.mp hp with rfl | hp
        · exact N₄ _ (.head _)
        · exact N₄ _ (.tail _ (.tail _ hp))
      · intro p hp a hm
        exact a₄ p hp a (by simpa using hm)
    | true =>
      simp only [if_true] at h₃ ⊢
      refine wpAny_mono h₃ (fun r s₄ h₄ => ?_) fun _ _ x => x.elim
      obtain ⟨h₄, tk₄, m₄, led₄, rfl, F₄, N₄, a₄, j₄⟩ := h₄
      refine append_K (news' := (D, listOf (outs.toArray.push r) (nD + 1)) :: (I, oI) :: led₄) F₄ N₄ (.head ?_) (fun h₅ F₅ N₅ => ?_) ?_
      · intro p hp
        rcases List.mem_cons.mp hp with rfl | hp
        · exact Ne.symm hDI
        · exact a₄ p hp D (by simp)
      · refine ⟨vs.length + 1 - (i + 1), by omega, h₅, tk₄, m₄, outs ++ [r], nD + 1, led₄, i + 1, rfl, ⟨oI, (N₅ _ (.tail _ (.head _))).1, hcI, hdI⟩, F₅, ?_, ?_, j₄, by simp; omega, by omega, rfl⟩
        · intro p hp
          rcases List.mem_cons.mp hp with rfl | hp
          · have := N₅ _ (.head _)
            rw [List.push_toArray] at this
            exact this
          · exact N₅ _ (.tail _ (.tail _ hp))
        · intro p hp a hm
          exact a₄ p hp a (by simpa using hm)
      · rw [sizeLine_eq, List.size_toArray]; omega

end

section
variable {prog : Program} {w : World} {A : Around} {E : Value → Shared → Prop} {s : Shared} {h₀ : Heap} {L : Addr} {m mg mb : Str → Option Value} {K : Frag} {p : Program} {loose : List Str} {mean : ExcName → Option Value}

/-- the ground of a block inside a frame: what stands stays, the ledger may move -/
theorem ground' {news : Led} {H : Heap} (F : Fr h₀ L H m) (N : News h₀ L H news) :
    Fr h₀ L (hideAll H (news.map (·.1))) m ∧ (∀ b o, h₀.get? b = some o → (hideAll H (news.map (·.1))).get? b = some o) := by
  have nm : ∀ b o, h₀.get? b = some o → b ∉ news.map (·.1) := fun b o e q => by
    obtain ⟨p, hp, rfl⟩ := List.mem_map.mp q
    rw [(N p hp).2.2] at e; cases e
  have st : ∀ b o, h₀.get? b = some o → (hideAll H (news.map (·.1))).get? b = some o := fun b o e => hideAll_get _ (F.keep b o e) (nm b o e)
  obtain ⟨oL, es, ep, hL, hLd, hLk, hLf⟩ := F.ns
  have nL : L ∉ news.map (·.1) := fun q => by
    obtain ⟨p, hp, e⟩ := List.mem_map.mp q
    exact (N p hp).2.1 e
  have hLg := hideAll_get (news.map (·.1)) hL nL
  exact ⟨⟨⟨oL, es, ep, hLg, hLd, hLk, hLf⟩, st, F.above⟩, st⟩

/-- the comprehension's own cell, where its name is one -/
noncomputable def cellO (v : Option Value) : Obj := { cls := .type "cell", data := .cell v }
noncomputable def clK (kc : Bool) (x : Str) (C : Addr) (cl : List (Str × Addr)) : List (Str × Addr) := match kc with | true => (x, C + 1) :: cl | false => cl
noncomputable def cellK (kc : Bool) (C : Addr) (o : Obj) : Led := match kc with | true => [(C + 1, o)] | false => []
noncomputable def heapK (kc : Bool) (h : Heap) : Heap := match kc with | true => h.push (cellO none) | false => h
/-- the scope's cells: none, or the name's alone -/
noncomputable def CellOk (kc : Bool) (x : Str) (names : List (Str × NameKind)) : Prop :=
  (∀ n acc, cellsFrom n names acc = match kc with | true => (x, n) :: acc | false => acc) ∧ ∀ h, pushCells h names = heapK kc h
theorem newFE {scope : Scope} {globals : Addr} {cl : List (Str × Addr)} {qual : Str} {env : Env} {kc : Bool} {x : Str} {Q : Env → Shared → Prop} (hc : CellOk kc x scope.names)
    (hQ : Q { scope, locals := s.heap.objs.size, globals, cells := clK kc x s.heap.objs.size cl, qual, func := none, code := env.code, frame := env.frame, builtins := env.builtins }
      { s with heap := heapK kc (s.heap.push { cls := .type "dict", data := .dict #[] }) }) :
    wpAny (model prog w) A (newFunctionEnv scope globals cl [] qual none .none (some env)) Q E s := by
  simp only [newFunctionEnv, Option.isSome_some, if_true]
  refine wpAny_bind (wpAny_alloc ?_)
  refine wpAny_bind (wpAny_layCells _ (fun name kind cells => by cases hkc : kind == NameKind.cell <;> simp [hkc]) _ _ _ _ ?_)
  refine wpAny_bind ?_
  rw [List.forIn_nil, hc.1, hc.2]
  refine wpAny_pure (wpAny_pure ?_)
  rw [show ({ s with heap := s.heap.push { cls := .type "dict", data := .dict #[] } } : Shared).heap.objs.size = s.heap.objs.size + 1 from Heap.size_push ..]
  cases kc <;> exact hQ

/-- a comprehension's source is there: its turns, and what it goes on with -/
inductive CompAt (prog : Program) (w : World) (A : Around) (K : Frag) (p : Program) (loose : List Str) (mean : ExcName → Option Value) (mg mb : Str → Option Value) (h₀ : Heap) (L : Addr) (m : Str → Option Value)
    (env : Env) (scope : Scope) (cl : List (Str × Addr)) (kc : Bool) (x : Str) (px : Pos) (ifs : List Expr) (elt : Expr) (fin : Addr → Nat → List Value → Led → Shared → Prop) (xv : Value) (s : Shared) : Prop
  | mk (l : Addr) (tup : Bool) (vs : List Value) (n : Nat) (news : Led) (J : Addr → Nat → List Value → Led → Prop)
    (e : xv = .ref l) (F : Fr h₀ L s.heap m) (N : News h₀ L s.heap news) (X : K.In h₀) (T : Top p loose mean mg mb h₀) (hz : vs.length ≤ 1000) (hl : (l, seqO tup vs n) ∈ news) (h0 : ∀ C, (∀ p ∈ news, p.1 < C) → J C 0 [] (cellK kc C (cellO none) ++ news)) (hJ : ∀ C i outs led, J C i outs led → (l, seqO tup vs n) ∈ led)
    (turn : ∀ C i v outs led g h m' tk oI D I nD, vs[i]? = some v → J C i outs led → Apart led [D, I] → Fr g C h m' → News g C h ((D, listOf outs.toArray nD) :: (I, oI) :: led) → K.In g → Top p loose mean mg mb g → outs.length ≤ i → D < C → I < C →
      wpAny (model prog w) A (assign (.Name x px) (compEnvC scope (clK kc x C cl) C env) v) (fun _ s₂ =>
        wpAny (model prog w) A (forIn ifs true fun c r => if r = true then do let ok ← isTrue c (compEnvC scope (clK kc x C cl) C env) (eval c (compEnvC scope (clK kc x C cl) C env)); pure (ForInStep.yield ok) else pure (ForInStep.yield r)) (fun ok s₃ =>
          if ok = true then wpAny (model prog w) A (eval elt (compEnvC scope (clK kc x C cl) C env)) (fun r s₄ => TurnEndM g C [(D, listOf outs.toArray nD), (I, oI)] (fun _ => J C (i + 1) (outs ++ [r])) { s with heap := h, toks := tk } s₄) (fun _ _ => False) s₃
          else TurnEndM g C [(D, listOf outs.toArray nD), (I, oI)] (fun _ => J C (i + 1) outs) { s with heap := h, toks := tk } s₃) (fun _ _ => False) s₂) (fun _ _ => False) { s with heap := h, toks := tk })
    (done : ∀ C D nD outs led h tk, J C vs.length outs led → (∀ p ∈ led, p.1 ≠ D) → Fr h₀ L h m → News h₀ L h ((D, listOf outs.toArray nD) :: led) → outs.length ≤ vs.length → fin D nD outs led { s with heap := h, toks := tk }) :
    CompAt prog w A K p loose mean mg mb h₀ L m env scope cl kc x px ifs elt fin xv s

theorem comp_block {elt iter : Expr} {x : Str} {px : Pos} {ifs : List Expr} {scope : Scope} {cl : List (Str × Addr)} {pos : Pos} {env : Env} {xv : Value} {RR : Value → Addr → Result → Shared → Prop} {kc : Bool}
    {fin : Addr → Nat → List Value → Led → Shared → Prop}
    (hh : A.handled = none) (hcell : CellOk kc x scope.names)
    (h : CompAt prog w A K p loose mean mg mb h₀ L m env scope cl kc x px ifs elt fin xv s)
    (hR : ∀ g D C nD outs led h' m' tk, fin D nD outs led { s with heap := h', toks := tk } → (∀ p ∈ led, p.1 ≠ D) → Fr h₀ L g m → (∀ b o, h₀.get? b = some o → g.get? b = some o) → Fr g C h' m' → News g C h' ((D, listOf outs.toArray nD) :: led) → C ≠ L → D ≠ C →
      (∀ h'' : Heap, Heap.SameBut C h' h'' → fin D nD outs led { s with heap := h'', toks := tk }) →
      (∀ h'' tk'', Fr h₀ L h'' m → News h₀ L h'' ((D, listOf outs.toArray nD) :: led) → fin D nD outs led { s with heap := h'', toks := tk'' }) → RR (.ref D) C (.ok .next) { s with heap := h', toks := tk }) :
    wpAny (model prog w) A (pyIter xv) (fun it s₂ => wpAny (model prog w) A (newList []) (fun acc s₃ =>
      wpAny (model prog w) A (newFunctionEnv scope env.globals cl [] env.qual none .none (some env)) (fun cenv s₄ =>
        codeAny (model prog w) A (.compStart (.ListComp elt [⟨.Name x px, iter, ifs, 0⟩] scope pos) 0 it acc { cenv with scope := relabel scope env }) (RR acc cenv.locals) s₄) E s₃) E s₂) E s := by
  obtain ⟨l, tup, vs, n, news, J, rfl, F, N, X, T, hsz, hlm, hj0, hJl, turn, done⟩ := h
  refine seq_iter (N _ hlm).1 ?_
  refine wpAny_newObj_type (newFE hcell ?_)
  dsimp only
  obtain ⟨FG, st⟩ := ground' F N
  generalize hI1 : s.heap.push { cls := .type (iterC tup), data := .fields #[.ref l, .int 0 0] } = H1
  generalize hH2 : H1.push { cls := .type "list", dict := none, data := .seq ([] : List Value).toArray } = H2
  generalize hH3 : H2.push { cls := .type "dict", data := .dict #[] } = H3
  have sI : H1.objs.size = s.heap.objs.size + 1 := by rw [← hI1, Heap.size_push]
  have sD : H2.objs.size = s.heap.objs.size + 2 := by rw [← hH2, Heap.size_push, sI]
  have sC : H3.objs.size = H2.objs.size + 1 := by rw [← hH3, Heap.size_push]
  have gsz : (hideAll s.heap (news.map (·.1))).objs.size = s.heap.objs.size := hideAll_size _ _
  have hDI : H1.objs.size ≠ s.heap.objs.size := by rw [sI]; exact Nat.succ_ne_self _
  have hIC : s.heap.objs.size ≠ H2.objs.size := by rw [sD]; exact neN (by omega)
  have hDC : H1.objs.size ≠ H2.objs.size := by rw [sD, sI]; exact neN (by omega)
  generalize hh₁ : heapK kc H3 = h₁
  have up : ∀ b o, H3.get? b = some o → h₁.get? b = some o := fun b o e => by cases kc <;> subst hh₁ <;> first | exact e | exact Heap.get?_push_of_some _ e
  have up2 : ∀ b o, H2.get? b = some o → h₁.get? b = some o := fun b o e => up b o (hH3 ▸ Heap.get?_push_of_some _ e)
  have old : ∀ b o, s.heap.get? b = some o → h₁.get? b = some o := fun b o e => up2 b o (hH2 ▸ Heap.get?_push_of_some _ (hI1 ▸ Heap.get?_push_of_some _ e))
  have hns₁ : h₁.Ns H2.objs.size (fun _ => none) := (hH3 ▸ Heap.Ns.new H2 (.type "dict") : H3.Ns H2.objs.size fun _ => none).keeps up
  have hIt : h₁.get? s.heap.objs.size = some { cls := .type (iterC tup), data := .fields #[.ref l, .int 0 0] } := up2 _ _ (hH2 ▸ Heap.get?_push_of_some _ (hI1 ▸ Heap.get?_push_size _ rfl))
  have hDt : h₁.get? H1.objs.size = some { cls := .type "list", dict := none, data := .seq ([] : List Value).toArray } := up2 _ _ (hH2 ▸ Heap.get?_push_size _ rfl)
  have F₁ : Fr (hideAll s.heap (news.map (·.1))) H2.objs.size h₁ (fun _ => none) :=
    ⟨hns₁, fun b o e => old b o (of_hideAll _ e), by rw [gsz, sD]; exact Nat.le_add_right _ _⟩
  have ltN' : ∀ p ∈ news, p.1 < s.heap.objs.size := fun p hp => Heap.lt_size (N p hp).1
  have hkc : ∀ q ∈ cellK kc H2.objs.size (cellO none), q.1 = H2.objs.size + 1 ∧ h₁.get? q.1 = some q.2 := fun q hq => by
    cases kc with
    | false => exact nomatch hq
    | true =>
      rcases List.mem_singleton.mp hq with rfl
      exact ⟨rfl, by subst hh₁; exact sC ▸ Heap.get?_push_size _ rfl⟩
  have N₁ : News (hideAll s.heap (news.map (·.1))) H2.objs.size h₁ ((H1.objs.size, listOf #[] 0) :: (cellK kc H2.objs.size (cellO none) ++ news)) := by
    intro q hq
    rcases List.mem_cons.mp hq with rfl | hq
    · exact ⟨hDt, hDC, not_above (by rw [gsz, sI]; exact Nat.le_succ _)⟩
    · rcases List.mem_append.mp hq with hq | hq
      · obtain ⟨e1, e2⟩ := hkc q hq
        exact ⟨e2, by rw [e1]; exact Nat.succ_ne_self _, not_above (by rw [e1, gsz, sD]; exact Nat.le_trans (Nat.le_add_right _ 2) (Nat.le_succ _))⟩
      · exact ⟨old _ _ (N q hq).1, by have := PySem.W.ltN (ltN' q hq); rw [sD]; exact neN (by omega), hideAll_none _ (List.mem_map_of_mem hq)⟩
  have LC : H2.objs.size ≠ L := by
    obtain ⟨oL, _, _, hL, _⟩ := F.ns
    have := PySem.W.ltN (Heap.lt_size hL)
    rw [sD]; exact neN (by omega)
  have loop : ∀ s₃ : Shared, s₃ = { s with heap := h₁ } →
      codeAny (model prog w) A (.compLoop (.ListComp elt [⟨.Name x px, iter, ifs, 0⟩] scope pos) 0 (.ref s.heap.objs.size) (.ref H1.objs.size) (compEnvC scope (clK kc x H2.objs.size cl) H2.objs.size env))
        (RR (.ref H1.objs.size) H2.objs.size) s₃ := by
    rintro s₃ rfl
    refine comp_core (s := { s with heap := h₁ }) (led₀ := cellK kc H2.objs.size (cellO none) ++ news) (vs := vs) (n := n) (l := l) (tup := tup) (nD := 0) (J H2.objs.size) hh hDI hIC (not_above (by rw [gsz]; exact Nat.le_refl _)) hsz F₁ N₁ ⟨_, hIt, rfl, rfl⟩ ?_
      (hj0 _ fun p hp => by rw [sD]; exact Nat.lt_of_lt_of_le (ltN' p hp) (Nat.le_add_right _ 2)) (hJl _) ?_ ?_
    · intro q hq a ha
      have hq1 : q.1 < s.heap.objs.size ∨ q.1 = H2.objs.size + 1 := by
        rcases List.mem_append.mp hq with hq | hq
        · exact .inr (hkc q hq).1
        · exact .inl (ltN' q hq)
      simp only [List.mem_cons, List.not_mem_nil, or_false] at ha
      rcases hq1 with h1 | h1
      · have := PySem.W.ltN h1
        rcases ha with rfl | rfl
        · rw [sI]; exact neN (by omega)
        · exact neN (by omega)
      · rcases ha with rfl | rfl
        · rw [h1, sD, sI]; exact neN (by omega)
        · rw [h1, sD]; exact neN (by omega)
    · intro i v outs led m' h tk oI nD hv hJ ha F' N' ho
      exact turn _ i v outs led _ h m' tk oI _ _ nD hv hJ ha F' N' (X.keeps st) (T.keeps st) ho (by rw [sD, sI]; exact Nat.lt_succ_self _) (by rw [sD]; exact Nat.lt_succ_of_lt (Nat.lt_succ_self _))
    · intro outs led m' h tk nD hJ ha F' N' ho
      have bk : ∀ h'', Heap.SameBut H2.objs.size h h'' → Fr h₀ L h'' m ∧ News h₀ L h'' ((H1.objs.size, listOf outs.toArray nD) :: led) := fun h'' hs => by
        obtain ⟨F₂, N₂⟩ := back FG st F' N'
        refine ⟨⟨F₂.ns.sameBut hs (Ne.symm LC), fun b o e => ?_, F₂.above⟩, fun q hq => ?_⟩
        · refine (hs.2 b fun q => ?_).trans (F₂.keep b o e)
          have e1 := st b o e
          rw [q, not_above (by rw [gsz, sD]; exact Nat.le_add_right _ _)] at e1
          cases e1
        · exact ⟨(hs.2 _ (N' q hq).2.1).trans (N₂ q hq).1, (N₂ q hq).2⟩
      have dn : ∀ h'' tk'', Fr h₀ L h'' m → News h₀ L h'' ((H1.objs.size, listOf outs.toArray nD) :: led) → fin H1.objs.size nD outs led { s with heap := h'', toks := tk'' } := fun h'' tk'' F₂ N₂ =>
        done _ _ nD outs led h'' tk'' hJ (fun q hq => ha q hq _ (by simp)) F₂ N₂ ho
      have ⟨F₂, N₂⟩ := back FG st F' N'
      exact hR _ _ _ nD outs led h m' tk (dn h tk F₂ N₂) (fun q hq => ha q hq _ (by simp)) FG st F' N' LC hDC (fun h'' hs => dn h'' tk (bk h'' hs).1 (bk h'' hs).2) dn
  exact codeAny_compStart_list (loop _ rfl) (seq_again (tup := tup) (i := 0) (l := l) ⟨_, hIt, rfl, rfl⟩ (loop _ rfl))

/-- a comprehension as a value -/
theorem comp_eval {elt iter : Expr} {x : Str} {px : Pos} {ifs : List Expr} {scope : Scope} {cl : List (Str × Addr)} {pos : Pos} {env : Env} {Q : Value → Shared → Prop} {kc : Bool}
    (hh : A.handled = none) (hclos : closureFor scope env = pure cl) (hcell : CellOk kc x scope.names) (hkind : scope.kind = .function)
    (hnames : ∀ y ∈ scope.names, y.2 = .local → scope.names.lookup y.1 = some .local)
    (h : wpAny (model prog w) A (eval iter env) (CompAt prog w A K p loose mean mg mb h₀ L m env scope cl kc x px ifs elt fun D _ _ _ s' => Q (.ref D) s') E s)
    (hs : ∀ x, foldedSetIterable iter env x = pure x := by intro _; rfl) :
    wpAny (model prog w) A (eval (.ListComp elt [⟨.Name x px, iter, ifs, 0⟩] scope pos) env) Q E s := by
  rw [eval_ListComp]
  refine wpAny_comprehension_free (use := none) rfl hs hclos hkind hnames (wpAny_mono h (fun xv s₁ h₁ => ?_) fun _ _ e => e)
  exact comp_block (RR := fun acc C => compPost (model prog w) A E none Q acc C) hh hcell h₁ fun g D C nD outs led h' m' tk _ _ _ _ F' _ _ _ hf _ => ⟨m', F'.ns, fun h'' hs'' => hf h'' hs''⟩

/-- a comprehension stored under a local name at once -/
theorem comp_assign {elt iter : Expr} {x y : Str} {px py : Pos} {ifs : List Expr} {scope : Scope} {cl : List (Str × Addr)} {pos spos : Pos} {env : Env} {Q : Flow → Shared → Prop} {kc : Bool}
    (hsw : swapsWith (.ListComp elt [⟨.Name x px, iter, ifs, 0⟩] scope pos) (some (.Name y py)) spos.line env = pure true)
    (hL : env.locals = L)
    (hh : A.handled = none) (hclos : closureFor scope env = pure cl) (hcell : CellOk kc x scope.names) (hkind : scope.kind = .function)
    (hnames : ∀ y ∈ scope.names, y.2 = .local → scope.names.lookup y.1 = some .local)
    (hy : env.kindOf y = some .local) (hp : (env.scope.kind == .class || (env.scope.kind == .module && env.locals != env.globals)) = false)
    (h : wpAny (model prog w) A (eval iter env) (CompAt prog w A K p loose mean mg mb h₀ L m env scope cl kc x px ifs elt fun D nD outs led s' =>
      ∀ h' tk, Fr h₀ L h' (fun z => if z = y then some (.ref D) else m z) → News h₀ L h' ((D, listOf outs.toArray nD) :: led) → Q .next { s' with heap := h', toks := tk }) E s)
    (hs : ∀ x, foldedSetIterable iter env x = pure x := by intro _; rfl) :
    wpAny (model prog w) A (exec (.Assign [.Name y py] (.ListComp elt [⟨.Name x px, iter, ifs, 0⟩] scope pos) spos) env) Q E s := by
  subst hL
  rw [exec_Assign_Name_used _ _ _ _ hsw]
  refine wpAny_bind (wpAny_standAt (wpAny_bind ?_))
  show wpAny _ A (do let _ ← comprehension (.ListComp elt [⟨.Name x px, iter, ifs, 0⟩] scope pos) scope env _ (newList []) false (eval iter env) (some (assign (.Name y py) env))) _ _ s
  refine wpAny_bind (wpAny_mono (wpAny_comprehension_free (use := some (assign (.Name y py) env)) (Q := fun _ s' => Q .next s') rfl hs hclos hkind hnames
    (wpAny_mono h (fun xv s₁ h₁ => ?_) fun _ _ e => e)) (fun _ s' hq => wpAny_pure (wpAny_pure hq)) fun _ _ e => e)
  refine comp_block (RR := fun acc C => compPost (model prog w) A E (some (assign (.Name y py) env)) (fun _ s' => Q .next s') acc C) hh hcell h₁ fun g D C nD outs led h' m' tk hf ha FG st F' N' hCL hDC _ _ => ?_
  have ⟨F₂, N₂⟩ := back FG st F' N'
  show wpAny _ A (assign (.Name y py) env (.ref D)) _ _ _
  refine wpAny_assign_Name (wpAny_storeName_local hy F₂.ns (fun h₂ hn₂ hs₂ => ?_) hp)
  refine ⟨m', F'.ns.sameBut hs₂ hCL, fun h₃ hs₃ => ?_⟩
  refine hf h₃ _ ⟨hn₂.sameBut hs₃ (Ne.symm hCL), fun b o e => ?_, F₂.above⟩ fun q hq => ?_
  · have hb : b ≠ C := fun q => by
      subst q
      have e1 := st b o e
      exact absurd (Nat.lt_of_lt_of_le (Heap.lt_size e1) F'.above) (Nat.lt_irrefl _)
    have hbL : b ≠ env.locals := fun q => by
      subst q
      exact absurd (Nat.lt_of_lt_of_le (Heap.lt_size e) F₂.above) (Nat.lt_irrefl _)
    exact (hs₃.2 b hb).trans ((hs₂.2 b hbL).trans (F₂.keep b o e))
  · exact ⟨(hs₃.2 _ (N' q hq).2.1).trans ((hs₂.2 _ (N₂ q hq).2.1).trans (N₂ q hq).1), (N₂ q hq).2⟩
end

section
variable {prog : Program} {w : World} {A : Around} {E : Value → Shared → Prop} {s : Shared} {h₀ : Heap} {L : Addr} {m : Str → Option Value} {env : Env}

/-- the end of a for loop's turn -/
noncomputable def ForEnd (h₀ : Heap) (L : Addr) (own : Led) (J : (Str → Option Value) → Led → Prop) (Q : Flow → Shared → Prop) (s : Shared) (f : Flow) (s' : Shared) : Prop :=
  match f with
  | .ret v => Q (.ret v) s'
  | .brk => Q .next s'
  | _ => TurnEndM h₀ L own J s s'

theorem for_core {target : Expr} {body : List Stmt} {I : Addr} {fp : List Addr} {n : Nat} {P : Nat → Value → Prop} {St : Nat → Heap → Prop} {led₀ : Led} {Q : Flow → Shared → Prop}
    (W : Walks prog w A I fp [I] n P St) (J : Nat → (Str → Option Value) → Led → Prop) (hIL : I ≠ L) (gI : h₀.get? I = none)
    (hfp : ∀ b ∈ fp, b = I ∨ ∃ o, ∀ i m led, J i m led → (b, o) ∈ led) (hlive : ∀ i h, St i h → ∃ o, h.get? I = some o)
    (F : Fr h₀ L s.heap m) (N : News h₀ L s.heap led₀) (hst : St 0 s.heap) (ha : Apart led₀ [I]) (hJ : J 0 m led₀)
    (turn : ∀ i v m' led h tk oI, i < n → P i v → J i m' led → Apart led [I] → Fr h₀ L h m' → News h₀ L h ((I, oI) :: led) →
      wpAny (model prog w) A (assign target env v) (fun _ s₂ => wpAny (model prog w) A (execs body env) (ForEnd h₀ L [(I, oI)] (J (i + 1)) Q { s with heap := h, toks := tk }) (fun _ _ => False) s₂) (fun _ _ => False) { s with heap := h, toks := tk })
    (done : ∀ m' led h tk, J n m' led → Fr h₀ L h m' → News h₀ L h led → Q .next { s with heap := h, toks := tk })
    (ht : ∀ v, letOwnedTupleGo target (.ref I) v = pure ()) :
    codeAny (model prog w) A (.forLoop target (.ref I) body [] env) (fun r s' => match r with | .ok f => Q f s' | .error e => cameBackBy (model prog w) A env E e s') s := by
  have old : ∀ b o, h₀.get? b = some o → b ∉ [I] := fun b o e hb => by rw [List.mem_singleton.mp hb, gI] at e; cases e
  refine codeAny_forLoop
    (fun k s' => ∃ h' tk m' led i, s' = { s with heap := h', toks := tk } ∧ St i h' ∧ Fr h₀ L h' m' ∧ News h₀ L h' led ∧ Apart led [I] ∧ J i m' led ∧ i ≤ n ∧ k = n + 1 - i) ?_ (n + 1)
    ⟨s.heap, s.toks, m, led₀, 0, rfl, hst, F, N, ha, hJ, Nat.zero_le _, rfl⟩ ht
  rintro k s' ⟨h', tk, m', led, i, rfl, hst', F', N', ha', hJ', hi, rfl⟩
  have next : ∀ h₁ : Heap, (∀ b o, b ∉ [I] → h'.get? b = some o → h₁.get? b = some o) → Fr h₀ L h₁ m' ∧ News h₀ L h₁ led := fun h₁ hk₁ =>
    ⟨⟨F'.ns.at' fun o e => hk₁ _ o (by simpa using Ne.symm hIL) e, fun b o e => hk₁ b o (old b o e) (F'.keep b o e), F'.above⟩, fun p hp => ⟨hk₁ _ _ (by simpa using ha' p hp I (by simp)) (N' p hp).1, (N' p hp).2⟩⟩
  by_cases hlt : i < n
  · refine W.item i _ _ _ hlt hst' fun v h₁ tk₁ hP hst₁ hk₁ => ?_
    obtain ⟨F₁, N₁⟩ := next h₁ hk₁
    obtain ⟨oI, hoI⟩ := hlive _ _ hst₁
    have N₂ : News h₀ L h₁ ((I, oI) :: led) := by
      intro p hp
      rcases List.mem_cons.mp hp with rfl | hp
      · exact ⟨hoI, hIL, gI⟩
      · exact N₁ p hp
    refine wpAny_mono (turn i v m' led h₁ tk₁ oI hlt hP hJ' ha' F₁ N₂) (fun _ s₂ h₂ => wpAny_mono h₂ (fun f s₃ h₃ => ?_) fun _ _ x => x.elim) fun _ _ x => x.elim
    have nx : TurnEndM h₀ L [(I, oI)] (J (i + 1)) { s with heap := h₁, toks := tk₁ } s₃ →
        ∃ m, m < n + 1 - i ∧ (fun k s' => ∃ h' tk m' led i, s' = { s with heap := h', toks := tk } ∧ St i h' ∧ Fr h₀ L h' m' ∧ News h₀ L h' led ∧ Apart led [I] ∧ J i m' led ∧ i ≤ n ∧ k = n + 1 - i) m s₃ := by
      rintro ⟨h₄, tk₄, m₄, led₄, rfl, F₄, N₄, a₄, j₄⟩
      refine ⟨n + 1 - (i + 1), by omega, h₄, tk₄, m₄, led₄, i + 1, rfl, ?_, F₄, fun p hp => N₄ p (.tail _ hp), fun p hp a hm => a₄ p hp a (by simpa using hm), j₄, by omega, rfl⟩
      refine W.frame _ _ _ hst₁ fun b hb o e => ?_
      rcases hfp b hb with rfl | ⟨o', ho'⟩
      · rw [hoI] at e
        cases e
        exact (N₄ _ (.head _)).1
      · have e1 := (N₁ _ (ho' _ _ _ hJ')).1
        rw [e] at e1
        cases e1
        exact (N₄ _ (.tail _ (ho' _ _ _ j₄))).1
    cases f with
    | ret v => exact h₃
    | brk => exact h₃
    | cont => exact nx h₃
    | next => exact nx h₃
  · have hin : i = n := by omega
    subst hin
    refine W.done _ _ _ hst' fun h₁ tk₁ hk₁ => wpAny_execs_nil ?_
    obtain ⟨F₁, N₁⟩ := next h₁ hk₁
    exact done m' led h₁ tk₁ hJ' F₁ N₁

/-- a list of the ledger stands ready to be walked -/
inductive ForListAt (prog : Program) (w : World) (A : Around) (h₀ : Heap) (L : Addr) (env : Env) (target : Expr) (body : List Stmt) (Q : Flow → Shared → Prop) (xv : Value) (s : Shared) : Prop
  | mk (l : Addr) (tup : Bool) (vs : List Value) (n : Nat) (m : Str → Option Value) (news : Led) (J : Nat → (Str → Option Value) → Led → Prop)
    (e : xv = .ref l) (F : Fr h₀ L s.heap m) (N : News h₀ L s.heap news) (h0 : J 0 m news) (hJ : ∀ i m led, J i m led → (l, seqO tup vs n) ∈ led)
    (turn : ∀ i v m' led h tk I oI, vs[i]? = some v → J i m' led → Apart led [I] → Fr h₀ L h m' → News h₀ L h ((I, oI) :: led) →
      wpAny (model prog w) A (assign target env v) (fun _ s₂ => wpAny (model prog w) A (execs body env) (ForEnd h₀ L [(I, oI)] (J (i + 1)) Q { s with heap := h, toks := tk }) (fun _ _ => False) s₂) (fun _ _ => False) { s with heap := h, toks := tk })
    (done : ∀ m' led h tk, J vs.length m' led → Fr h₀ L h m' → News h₀ L h led → Q .next { s with heap := h, toks := tk }) : ForListAt prog w A h₀ L env target body Q xv s

theorem for_list {x : Str} {px : Pos} {iter : Expr} {body : List Stmt} {pos : Pos} {Q : Flow → Shared → Prop} (hh : A.handled = none)
    (h : wpAny (model prog w) A (eval iter env) (ForListAt prog w A h₀ L env (.Name x px) body Q) E s)
    (hs : ∀ x, foldedSetIterable iter env x = pure x := by intro _; rfl) :
    wpAny (model prog w) A (exec (.For (.Name x px) iter body [] pos) env) Q E s := by
  refine wpAny_For (wpAny_mono h (fun xv s₁ h₁ => ?_) fun _ _ e => e) hs
  obtain ⟨l, tup, vs, n, m, news, J, rfl, F, N, hj0, hJl, turn, done⟩ := h₁
  have hls := (N _ (hJl _ _ _ hj0)).1
  have hlt : l < s₁.heap.objs.size := Heap.lt_size hls
  refine seq_iter hls ?_
  obtain ⟨St, W, h0, hlive⟩ : ∃ St : Nat → Heap → Prop, Walks prog w A s₁.heap.objs.size [s₁.heap.objs.size, l] [s₁.heap.objs.size] vs.length (fun i v => vs[i]? = some v) St ∧
      (∀ h : Heap, h.get? s₁.heap.objs.size = some { cls := .type (iterC tup), data := .fields #[.ref l, .int 0 0] } → h.get? l = some (seqO tup vs n) → St 0 h) ∧ ∀ i h, St i h → ∃ o, h.get? s₁.heap.objs.size = some o := by
    cases tup with
    | true =>
      have W := Walks.tuple (prog := prog) (w := w) hh s₁.heap.objs.size l (Nat.ne_of_lt hlt) vs.toArray
      rw [List.size_toArray] at W
      simp only [List.getElem?_toArray] at W
      exact ⟨_, W, fun h a b => ⟨⟨_, a, rfl, rfl⟩, ⟨_, b, rfl, 0, rfl⟩⟩, fun i h ⟨⟨o, ho, _⟩, _⟩ => ⟨o, ho⟩⟩
    | false =>
      have W := Walks.list (prog := prog) (w := w) hh s₁.heap.objs.size l (Nat.ne_of_lt hlt) vs.toArray
      rw [List.size_toArray] at W
      simp only [List.getElem?_toArray] at W
      exact ⟨_, W, fun h a b => ⟨⟨_, a, rfl, rfl⟩, ⟨_, b, rfl, n, rfl⟩⟩, fun i h ⟨⟨o, ho, _⟩, _⟩ => ⟨o, ho⟩⟩
  have hI := Heap.get?_push_size s₁.heap (o := ({ cls := .type (iterC tup), data := .fields #[.ref l, .int 0 0] } : Obj)) rfl
  refine for_core W J ?_ (next_is_new F) ?_ ?_ (F.push _) (fun p hp => ⟨Heap.get?_push_of_some _ (N p hp).1, (N p hp).2⟩) (h0 _ hI (Heap.get?_push_of_some _ hls)) ?_ hj0 ?_ ?_ (by intro _; rfl)
  · intro e
    exact absurd F.ns.lt (e ▸ Nat.lt_irrefl _)
  · intro b hb
    rcases List.mem_cons.mp hb with rfl | hb
    · exact .inl rfl
    · rw [List.mem_singleton.mp hb]
      exact .inr ⟨_, hJl⟩
  · exact hlive
  · intro p hp a ham
    rw [List.mem_singleton.mp ham]
    exact Nat.ne_of_lt (Heap.lt_size (N p hp).1)
  · intro i v m' led h tk oI hi hP hJ ha F' N'
    exact turn i v m' led h tk _ oI hP hJ ha F' N'
  · intro m' led h tk hJ F' N'
    exact done m' led h tk hJ F' N'

/-- a range stands ready to be walked -/
inductive ForRangeAt (prog : Program) (w : World) (A : Around) (h₀ : Heap) (L : Addr) (env : Env) (target : Expr) (body : List Stmt) (Q : Flow → Shared → Prop) (xv : Value) (s : Shared) : Prop
  | mk (r : Addr) (k : Nat) (t u v : Tok) (m : Str → Option Value) (news : Led) (J : Nat → (Str → Option Value) → Led → Prop)
    (e : xv = .ref r) (hr : IsRange s.heap r 0 k 1 t u v) (hk : k ≤ 1000) (F : Fr h₀ L s.heap m) (N : News h₀ L s.heap news) (h0 : J 0 m news)
    (turn : ∀ (i : Nat) tv m' led h tk I oI, i < k → J i m' led → Apart led [I] → Fr h₀ L h m' → News h₀ L h ((I, oI) :: led) →
      wpAny (model prog w) A (assign target env (.int i tv)) (fun _ s₂ => wpAny (model prog w) A (execs body env) (ForEnd h₀ L [(I, oI)] (J (i + 1)) Q { s with heap := h, toks := tk }) (fun _ _ => False) s₂) (fun _ _ => False) { s with heap := h, toks := tk })
    (done : ∀ m' led h tk, J k m' led → Fr h₀ L h m' → News h₀ L h led → Q .next { s with heap := h, toks := tk }) : ForRangeAt prog w A h₀ L env target body Q xv s

theorem for_range {x : Str} {px : Pos} {iter : Expr} {body : List Stmt} {pos : Pos} {Q : Flow → Shared → Prop} (hh : A.handled = none)
    (h : wpAny (model prog w) A (eval iter env) (ForRangeAt prog w A h₀ L env (.Name x px) body Q) E s)
    (hs : ∀ x, foldedSetIterable iter env x = pure x := by intro _; rfl) :
    wpAny (model prog w) A (exec (.For (.Name x px) iter body [] pos) env) Q E s := by
  refine wpAny_For (wpAny_mono h (fun xv s₁ h₁ => ?_) fun _ _ e => e) hs
  obtain ⟨r, k, t, u, v, m, news, J, rfl, hr, hk, F, N, hj0, turn, done⟩ := h₁
  have hrs : Builtin.Range.rangeSize 0 k 1 = (k : Int) := by
    unfold Builtin.Range.rangeSize
    simp
    omega
  have hsm : Builtin.Range.small 0 k 1 = true := by
    unfold Builtin.Range.small
    rw [hrs]
    simp [Builtin.Range.rangeFitsLong]
    omega
  refine wpAny_pyIter_range hr hsm ?_
  have W := Walks.range (prog := prog) (w := w) hh s₁.heap.objs.size 0 1 k
  have hI := Heap.get?_push_size s₁.heap (o := ({ cls := .type "range_iterator", data := .fields #[rawInt 0, rawInt (Builtin.Range.rangeSize 0 k 1), rawInt 1] } : Obj)) rfl
  refine for_core W J ?_ (next_is_new F) ?_ ?_ (F.push _) (fun p hp => ⟨Heap.get?_push_of_some _ (N p hp).1, (N p hp).2⟩) ?_ ?_ hj0 ?_ ?_ (by intro _; rfl)
  · intro e
    exact absurd F.ns.lt (e ▸ Nat.lt_irrefl _)
  · intro b hb
    exact .inl (List.mem_singleton.mp hb)
  · intro i h hst
    exact ⟨_, hst⟩
  · show IsRangeIter _ _ _ _ _
    rw [hrs]
    simpa using Heap.get?_push_size _ rfl
  · intro p hp a ham
    rw [List.mem_singleton.mp ham]
    exact Nat.ne_of_lt (Heap.lt_size (N p hp).1)
  · intro i v m' led h tk oI hi hP hJ ha F' N'
    obtain ⟨tv, rfl⟩ := hP
    have e : (0 : Int) + (i : Int) * 1 = (i : Int) := by omega
    rw [e]
    exact turn i tv m' led h tk _ oI hi hJ ha F' N'
  · intro m' led h tk hJ F' N'
    exact done m' led h tk hJ F' N'
end
section
variable {prog : Program} {w : World} {A : Around} {E : Value → Shared → Prop} {s : Shared} {h₀ : Heap} {L l : Addr} {m : Str → Option Value} {news : Led} {vs : List Value} {n : Nat}

theorem len_led {Q : Value → Shared → Prop} (N : News h₀ L s.heap news) (hl : (l, listOf vs.toArray n) ∈ news) (hsz : vs.length ≤ 1000) (h : Q (.int vs.length (s.toks + 1)) { s with toks := s.toks + 1 + 1 }) :
    wpAny (model prog w) A (call (.builtin "len") [.ref l]) Q E s := by
  refine len_list (items := vs.toArray) ⟨_, (N _ hl).1, rfl, n, rfl⟩ (by rw [List.size_toArray]; omega) ?_
  rw [List.size_toArray]
  exact h

theorem item_led {value slice : PySem.Expr} {k : Int} {u : Tok} {v : Value} {Q : Value → Shared → Prop} (N : News h₀ L s.heap news) (hl : (l, listOf vs.toArray n) ∈ news) (h0 : 0 ≤ k) (hhi : k < 1000) (hx : vs[k.toNat]? = some v) (h : Q v s)
    (hs : subscripted slice false (.ref l) (.int k u) = operate [.ref l, .int k u] (getItem (.ref l) (.int k u)) := by with_unfolding_all rfl) :
    wpAny (model prog w) A (subscriptTail value slice (.ref l) (.int k u)) Q E s :=
  tail_any (T := "list") ⟨_, (N _ hl).1, rfl⟩ slot_list_getitem.lookup (wpAny_getItem_list (items := vs.toArray) ⟨_, (N _ hl).1, rfl, n, rfl⟩ h0 (by omega) (by simpa using hx) h) hs

theorem last_led {value slice : PySem.Expr} {u : Tok} {v : Value} {Q : Value → Shared → Prop} (N : News h₀ L s.heap news) (hl : (l, listOf vs.toArray n) ∈ news) (hsz : vs.length ≤ 1000) (hx : vs.getLast? = some v) (h : Q v s)
    (hs : subscripted slice false (.ref l) (.int (-1) u) = operate [.ref l, .int (-1) u] (getItem (.ref l) (.int (-1) u)) := by with_unfolding_all rfl) :
    wpAny (model prog w) A (subscriptTail value slice (.ref l) (.int (-1) u)) Q E s := by
  have hne : 0 < vs.length := by
    cases vs with
    | nil => simp at hx
    | cons a r => simp
  refine tail_any (T := "list") ⟨_, (N _ hl).1, rfl⟩ slot_list_getitem.lookup (wpAny_getItem_list_neg (items := vs.toArray) ⟨_, (N _ hl).1, rfl, n, rfl⟩ (by decide) (by rw [List.size_toArray]; omega) (by decide) ?_ h) hs
  rw [List.size_toArray, List.getElem?_toArray]
  have e : ((-1 : Int) + (vs.length : Int)).toNat = vs.length - 1 := by omega
  rw [e, ← List.getLast?_eq_getElem?]
  exact hx
end

/-- a name as an own dict bears it -/
noncomputable def Attr (led : Led) (a : Addr) (name : Str) (v : Value) : Prop := ∃ dx es n, (a, instObj 59 dx) ∈ led ∧ (dx, dictOf es n) ∈ led ∧ getL name es = some (some v)
theorem Attr.mono {led led' : Led} {a : Addr} {name : Str} {v : Value} (h : Attr led a name v) (hs : ∀ p ∈ led, p ∈ led') : Attr led' a name v := by
  obtain ⟨dx, es, n, h1, h2, h3⟩ := h
  exact ⟨dx, es, n, hs _ h1, hs _ h2, h3⟩

noncomputable def attrNames : List Str := [Str.ofString "kind", Str.ofString "name", Str.ofString "key", Str.ofString "word", Str.ofString "visibility", Str.ofString "body", Str.ofString "owner", Str.ofString "members", Str.ofString "linear"]
theorem attr_cls (P : Params) : ∀ x ∈ attrNames, findIn (KH P) (.ref 59) x = some none := by
  intro x hx
  simp only [attrNames, List.mem_cons, List.not_mem_nil, or_false] at hx
  rcases hx with rfl | rfl | rfl | rfl | rfl | rfl | rfl | rfl | rfl <;> kernel_rfl
theorem attr_dict (P : Params) : hasDictIn (KH P) 59 = true := by kernel_rfl
theorem attr_plain (P : Params) (x : Str) : plainGet (KH P) 59 x = true := by
  unfold plainGet
  kernel_rfl

section
variable {prog : Program} {w : World} {A : Around} {E : Value → Shared → Prop} {s : Shared} {h₀ : Heap} {L : Addr} {m : Str → Option Value} {news : Led}
theorem get_attr {a : Addr} {name : Str} {v : Value} {expr : Bool} {Q : Value → Shared → Prop} (F : Fr h₀ L s.heap m) (X : (KH w.params).In h₀) (N : News h₀ L s.heap news) (hA : Attr news a name v) (hn : name ∈ attrNames) (hv : handedIn v = true)
    (h : Q v { s with toks := s.toks + 1 }) : wpAny (model prog w) A (getAttr (.ref a) name expr) Q E s := by
  obtain ⟨dx, es, n, h1, h2, h3⟩ := hA
  exact get_own F X (InstAt.of_news N h1 h2) (attr_plain _ _) (attr_dict _) (attr_cls _ _ hn) rfl h3 hv h
end
/-- one drawn row -/
structure Row where
  spot : Nat
  sort : Str
  call : Str
  key : Str
  duty : Str
  seen : Str
  full : Bool

/-- a declaration as its object bears it -/
structure DeclAt (led : Led) (d : Addr) (r : Row) : Prop where
  kind : ∃ t, Attr led d (Str.ofString "kind") (.str r.sort t)
  name : ∃ t, Attr led d (Str.ofString "name") (.str r.call t)
  key : ∃ t, Attr led d (Str.ofString "key") (.str r.key t)
  word : ∃ t, Attr led d (Str.ofString "word") (.str r.duty t)
  visibility : ∃ t, Attr led d (Str.ofString "visibility") (.str r.seen t)
  body : if r.full = true then ∃ b, Attr led d (Str.ofString "body") (.ref b) else Attr led d (Str.ofString "body") .none
theorem DeclAt.mono {led led' : Led} {d : Addr} {r : Row} (h : DeclAt led d r) (hs : ∀ p ∈ led, p ∈ led') : DeclAt led' d r := by
  obtain ⟨⟨t1, h1⟩, ⟨t2, h2⟩, ⟨t3, h3⟩, ⟨t4, h4⟩, ⟨t5, h5⟩, h6⟩ := h
  refine ⟨⟨t1, h1.mono hs⟩, ⟨t2, h2.mono hs⟩, ⟨t3, h3.mono hs⟩, ⟨t4, h4.mono hs⟩, ⟨t5, h5.mono hs⟩, ?_⟩
  split at h6
  · rename_i e
    rw [if_pos e]
    obtain ⟨b, hb⟩ := h6
    exact ⟨b, hb.mono hs⟩
  · rename_i e
    rw [if_neg e]
    exact h6.mono hs

noncomputable def likeB (a b : Row) : Bool := a.sort == b.sort && a.key == b.key && a.duty == b.duty
open SeqAt in
/-- an own object of the ledger -/
noncomputable def IsInst (led : Led) (a : Addr) : Prop := ∃ dx, (a, instObj 59 dx) ∈ led
theorem IsInst.mono {led led' : Led} {a : Addr} (h : IsInst led a) (hs : ∀ p ∈ led, p ∈ led') : IsInst led' a := let ⟨dx, h⟩ := h; ⟨dx, hs _ h⟩
theorem Attr.inst {led : Led} {a : Addr} {name : Str} {v : Value} (h : Attr led a name v) : IsInst led a := let ⟨dx, _, _, h, _⟩ := h; ⟨dx, h⟩

section
open SeqAt
variable {prog : Program} {w : World} {A : Around} {E : Value → Shared → Prop} {s : Shared} {h₀ : Heap} {L l : Addr} {m : Str → Option Value} {news : Led} {n : Nat}

theorem nsOk58 (P : Params) : nsOkIn (KH P) 58 = true := by kernel_rfl
theorem ns58eq (P : Params) : nsIn (KH P) 58 "__eq__" = some none := by kernel_rfl
theorem ns58ne (P : Params) : nsIn (KH P) 58 "__ne__" = some none := by kernel_rfl

theorem cmp_of_led {h : Heap} {a : Addr} (X : (KH w.params).In h) (N : News h₀ L h news) (ha : IsInst news a) : h.CmpInst a 59 [.type "object"] := by
  obtain ⟨dx, ha⟩ := ha
  have hx := (N _ ha).1
  have e0 : Challenge.rw_sa0304_01 = Challenge.rw_sa0304_01 := rfl
  revert X e0; k_fill; intro X _
  have hC := X 59 _ (by k_is)
  exact ⟨_, _, _, _, _, _, _, _, _, _, _, _, _, _, _, _, _, _, hx, rfl, hC, .of_isNs (isNs_of_in X (nsOk58 _)), nsMap_none_of_in X (nsOk58 _) (ns58eq _), nsMap_none_of_in X (nsOk58 _) (ns58ne _)⟩

theorem eqAt_inst {A : Around} {a b : Addr} (X : (KH w.params).In s.heap) (N : News h₀ L s.heap news) (ha : IsInst news a) (hb : IsInst news b) (hu : A.units < cLine) : EqAt A s (.ref a) (.ref b) (a == b) := by
  by_cases h : a = b
  · subst h
    rw [beq_self_eq_true]
    exact EqAt.same _
  · rw [beq_eq_false_iff_ne.mpr h]
    refine EqAt.of_refs h fun prog w' E Q hq => ?_
    obtain ⟨hh, g, d, t, os⟩ := s
    exact richCompare_eq_other F.cmp_object F.cmp_object (cmp_of_led (w := w) X N ha) (cmp_of_led (w := w) X N hb) h hu hq

noncomputable def refsOf (as : List Addr) : List Value := as.map .ref
theorem refsOf_len (as : List Addr) : (refsOf as).length = as.length := List.length_map ..
theorem refsOf_get (as : List Addr) (i : Nat) : (refsOf as)[i]? = as[i]?.map .ref := by simp [refsOf]

noncomputable def isRef (x : Addr) : Value → Bool
  | .ref a => a == x
  | _ => false
theorem any_isRef (x : Addr) : ∀ as : List Addr, (refsOf as).any (isRef x) = decide (x ∈ as)
  | [] => rfl
  | a :: r => by
    have ih := any_isRef x r
    show ((a == x) || (refsOf r).any (isRef x)) = _
    rw [ih]
    by_cases h : a = x
    · subst h; simp
    · have : ¬ x = a := fun e => h e.symm
      simp [h, this]

theorem eqAt_refs {as : List Addr} {x : Addr} (F : Fr h₀ L s.heap m) (X : (KH w.params).In h₀) (N : News h₀ L s.heap news) (ha : ∀ a ∈ as, IsInst news a) (hx : IsInst news x) (hu : A.units < cLine) :
    ∀ y, y ∈ (refsOf as).toArray → EqAt A s y (.ref x) (isRef x y) := by
  intro y hy
  have hy : y ∈ refsOf as := by simpa using hy
  obtain ⟨a, ham, rfl⟩ := List.mem_map.mp hy
  exact eqAt_inst (w := w) (X.keeps F.keep) N (ha a ham) hx hu

theorem in_refs {as : List Addr} {x : Addr} {Q : Value → Shared → Prop} (F : Fr h₀ L s.heap m) (X : (KH w.params).In h₀) (N : News h₀ L s.heap news) (hl : (l, listOf (refsOf as).toArray n) ∈ news)
    (ha : ∀ a ∈ as, IsInst news a) (hx : IsInst news x) (hu : A.units + 10 < cLine) (h : Q (.bool (decide (x ∈ as))) s) :
    wpAny (model prog w) A (compareOp .In (.ref x) (.ref l)) Q E s :=
  in_listAt (isRef x) ⟨_, (N _ hl).1, rfl, n, rfl⟩ (eqAt_refs (A := A.in1) F X N ha hx (by show A.units + 1 < cLine; omega)) (by rw [← Array.any_toList, List.toList_toArray, any_isRef]; exact h)
theorem notin_refs {as : List Addr} {x : Addr} {Q : Value → Shared → Prop} (F : Fr h₀ L s.heap m) (X : (KH w.params).In h₀) (N : News h₀ L s.heap news) (hl : (l, listOf (refsOf as).toArray n) ∈ news)
    (ha : ∀ a ∈ as, IsInst news a) (hx : IsInst news x) (hu : A.units + 10 < cLine) (h : Q (.bool (!decide (x ∈ as))) s) :
    wpAny (model prog w) A (compareOp .NotIn (.ref x) (.ref l)) Q E s :=
  notIn_listAt (isRef x) ⟨_, (N _ hl).1, rfl, n, rfl⟩ (eqAt_refs (A := A.in1) F X N ha hx (by show A.units + 1 < cLine; omega)) (by rw [← Array.any_toList, List.toList_toArray, any_isRef]; exact h)

theorem index_refs {as : List Addr} {x : Addr} {Q : Value → Shared → Prop} (F : Fr h₀ L s.heap m) (X : (KH w.params).In h₀) (N : News h₀ L s.heap news) (hl : (l, listOf (refsOf as).toArray n) ∈ news)
    (ha : ∀ a ∈ as, IsInst news a) (hx : x ∈ as) (hu : A.units + 10 < cLine) (hz : as.length ≤ 1000) (h : Q (.int (as.idxOf x : Nat) s.toks) { s with toks := s.toks + 1 }) :
    wpAny (model prog w) A (call (.builtin "list.index") [.ref l, .ref x]) Q E s := by
  have hlt : as.idxOf x < as.length := List.idxOf_lt_length_of_mem hx
  refine call_meets PySem.F.slot_list_index ⟨_, (N _ hl).1, rfl⟩ PySem.F.entry_list_index (PySem.F.args_list_index_2 _ _)
    (list_indexAt l (refsOf as).toArray n none #[] (.ref x) (isRef x) (as.idxOf x) (by simpa [refsOf] using hlt) (by omega) ?_ ?_) ⟨(N _ hl).1, eqAt_refs (A := A.in1) F X N ha (ha x hx) (by show A.units + 1 < cLine; omega), h⟩
  · simp [refsOf, isRef, List.getElem_idxOf hlt]
  · intro i hi hlt'
    have hi' : i < as.length := by simpa [refsOf] using hi
    simp only [refsOf, List.getElem_toArray, List.getElem_map, isRef, beq_eq_false_iff_ne, ne_eq]
    intro e
    have h2 := List.not_of_lt_findIdx (p := (· == x)) (xs := as) hlt'
    simp [e] at h2
end

section
variable {prog : Program} {w : World} {A : Around} {E : Value → Shared → Prop} {s : Shared} {h₀ : Heap} {L l : Addr} {m : Str → Option Value} {news : Led} {n : Nat} {vs : List Value}

theorem pick_from (vs : List Value) {x : Int} (h0 : 0 ≤ x) : (slicePick vs.toArray (some x) none none).toList = vs.drop x.toNat := by
  rw [kms_pick_eq]
  obtain ⟨k, rfl⟩ := Int.eq_ofNat_of_zero_le h0
  have h1 : ¬ ((k : Int) < 0) := by omega
  simp only [kms_pick, kms_lo, kms_hi, h1, if_false, Int.toNat_natCast]
  by_cases hk : k ≤ vs.length
  · rw [Nat.min_eq_left hk]
    exact List.take_of_length_le (by rw [List.length_drop]; omega)
  · rw [Nat.min_eq_right (by omega)]
    rw [List.drop_of_length_le (by omega : vs.length ≤ k), List.drop_of_length_le (Nat.le_refl _)]
    simp
theorem slice_from {value slice : PySem.Expr} {x : Int} {t : Tok} {Q : Value → Shared → Prop} (F : Fr h₀ L s.heap m) (N : News h₀ L s.heap news) (hl : (l, listOf vs.toArray n) ∈ news) (h0 : 0 ≤ x) (hsz : vs.length ≤ 1000)
    (h : ∀ D h', Fr h₀ L h' m → News h₀ L h' ((D, listOf (vs.drop x.toNat).toArray 0) :: news) → (∀ p ∈ news, p.1 < D) → Q (.ref D) { s with heap := h' })
    (hs : subscripted slice false (.ref l) (.ref s.heap.objs.size) = operate [.ref s.heap.objs.size, .ref l] (getItem (.ref l) (.ref s.heap.objs.size))) :
    wpAny (model prog w) A (subscriptTail value slice (.ref l) (.ref s.heap.objs.size)) Q E { s with heap := s.heap.push { cls := .type "slice", data := .fields #[.int x t, .none, .none] } } := by
  have hl' : s.heap.IsList l vs.toArray := ⟨_, (N _ hl).1, rfl, n, rfl⟩
  refine tail_any (Heap.IsList.typeIs (s := { s with heap := s.heap.push { cls := .type "slice", data := .fields #[.int x t, .none, .none] } }) (hl'.push _)) slot_list_getitem.lookup
    (wpAny_getItem_list_slice (hl'.push _) (Heap.IsSliceOf.new ..) (IsPart.int _ _) IsPart.none .none (by simp) ?_ (by rw [List.size_toArray, sizeLine_eq]; omega)) hs
  have N1 := News.push (F.push { cls := .type "slice", data := .fields #[.int x t, .none, .none] }) (N.grown fun _ _ e => Heap.get?_push_of_some _ e) { cls := .type "list", data := .seq (slicePick vs.toArray (some x) none none) }
  have F1 := (F.push { cls := .type "slice", data := .fields #[.int x t, .none, .none] }).push { cls := .type "list", data := .seq (slicePick vs.toArray (some x) none none) }
  have e : slicePick vs.toArray (some x) none none = (vs.drop x.toNat).toArray := by rw [← pick_from vs h0, Array.toArray_toList]
  rw [e] at N1 F1 ⊢
  exact h _ _ F1 N1 fun p hp => by rw [Heap.size_push]; exact Nat.lt_succ_of_lt (Heap.lt_size (N p hp).1)
end
theorem units_top (dp un : Nat) (fr : Option (List Env)) (gd : Option (List Code)) : (top dp un fr gd).units = un := rfl
section
variable {prog : Program} {w : World} {A : Around} {E : Value → Shared → Prop} {s : Shared} {h₀ : Heap} {L : Addr} {m : Str → Option Value} {env : Env}
theorem for_listF {x : Str} {px : Pos} {iter : Expr} {body : List Stmt} {pos : Pos} {Q : Flow → Shared → Prop} (_F : Fr h₀ L s.heap m) (hh : A.handled = none) (hs : ∀ x, foldedSetIterable iter env x = pure x)
    (h : wpAny (model prog w) A (eval iter env) (ForListAt prog w A h₀ L env (.Name x px) body Q) E s) :
    wpAny (model prog w) A (exec (.For (.Name x px) iter body [] pos) env) Q E s := for_list hh h hs
theorem for_rangeF {x : Str} {px : Pos} {iter : Expr} {body : List Stmt} {pos : Pos} {Q : Flow → Shared → Prop} (_F : Fr h₀ L s.heap m) (hh : A.handled = none) (hs : ∀ x, foldedSetIterable iter env x = pure x)
    (h : wpAny (model prog w) A (eval iter env) (ForRangeAt prog w A h₀ L env (.Name x px) body Q) E s) :
    wpAny (model prog w) A (exec (.For (.Name x px) iter body [] pos) env) Q E s := for_range hh h hs
end
theorem depth_top (dp un : Nat) (fr : Option (List Env)) (gd : Option (List Code)) : (top dp un fr gd).depth = dp := rfl
theorem ForEnd.go {h₀ : Heap} {L : Addr} {own led' led'' : Led} {J : (Str → Option Value) → Led → Prop} {Q : Flow → Shared → Prop} {s : Shared} {h' : Heap} {tk : Nat} {m' : Str → Option Value} (F : Fr h₀ L h' m') (N : News h₀ L h' led'')
    (hsub : ∀ p ∈ own ++ led', p ∈ led'') (ha : Apart led' (own.map (·.1))) (hj : J m' led') : ForEnd h₀ L own J Q s .next { s with heap := h', toks := tk } :=
  ⟨h', tk, m', led', rfl, F, News.sub N hsub, ha, hj⟩
theorem ForEnd.cont {h₀ : Heap} {L : Addr} {own led' led'' : Led} {J : (Str → Option Value) → Led → Prop} {Q : Flow → Shared → Prop} {s : Shared} {h' : Heap} {tk : Nat} {m' : Str → Option Value} (F : Fr h₀ L h' m') (N : News h₀ L h' led'')
    (hsub : ∀ p ∈ own ++ led', p ∈ led'') (ha : Apart led' (own.map (·.1))) (hj : J m' led') : ForEnd h₀ L own J Q s .cont { s with heap := h', toks := tk } :=
  ⟨h', tk, m', led', rfl, F, News.sub N hsub, ha, hj⟩
theorem all_take {α : Type} {P : α → Prop} {l : List α} {j : Nat} {q : α} (h : ∀ x ∈ l.take j, P x) (hq : l[j]? = some q) (hp : P q) : ∀ x ∈ l.take (j + 1), P x := by
  intro x hx
  rw [List.take_add_one, hq] at hx
  rcases List.mem_append.mp hx with hx | hx
  · exact h x hx
  · simp at hx; exact hx ▸ hp
theorem flat_take {α β : Type} {f : α → List β} {P : β → Prop} {l : List α} {j : Nat} {a : α} (h : ∀ x ∈ (l.take j).flatMap f, P x) (ha : l[j]? = some a) (hp : ∀ x ∈ f a, P x) : ∀ x ∈ (l.take (j + 1)).flatMap f, P x := by
  intro x hx
  rw [List.take_add_one, ha] at hx
  simp only [Option.toList_some, List.flatMap_append, List.flatMap_cons, List.flatMap_nil, List.append_nil] at hx
  rcases List.mem_append.mp hx with hx | hx
  · exact h x hx
  · exact hp x hx
theorem find_at {α β : Type} {f : α → List β} {P : β → Bool} {l : List α} {j i : Nat} {a : α} {q : β} (ha : l[i]? = some a) (h1 : ∀ x ∈ (l.take i).flatMap f, P x = false) (hq : (f a)[j]? = some q) (h2 : ∀ x ∈ (f a).take j, P x = false) (hp : P q = true) :
    (l.flatMap f).find? P = some q := by
  have e : l = l.take i ++ a :: l.drop (i + 1) := by
    have hi : i < l.length := (List.getElem?_eq_some_iff.mp ha).1
    have : l[i] = a := (List.getElem?_eq_some_iff.mp ha).2
    rw [← this, ← List.drop_eq_getElem_cons hi, List.take_append_drop]
  have e2 : f a = (f a).take j ++ q :: (f a).drop (j + 1) := by
    have hi : j < (f a).length := (List.getElem?_eq_some_iff.mp hq).1
    have : (f a)[j] = q := (List.getElem?_eq_some_iff.mp hq).2
    rw [← this, ← List.drop_eq_getElem_cons hi, List.take_append_drop]
  rw [e, List.flatMap_append, List.flatMap_cons, e2, List.find?_append, List.find?_eq_none.mpr (fun x hx => by simp [h1 x hx]), Option.none_or, List.append_assoc, List.find?_append, List.find?_eq_none.mpr (fun x hx => by simp [h2 x hx]), Option.none_or]
  simp [hp]
theorem find_none {α β : Type} {f : α → List β} {P : β → Bool} {l : List α} (h1 : ∀ x ∈ (l.take l.length).flatMap f, P x = false) : (l.flatMap f).find? P = none := by
  rw [List.take_length] at h1
  exact List.find?_eq_none.mpr fun x hx => by simp [h1 x hx]
section
variable {prog : Program} {w : World} {A : Around} {E : Value → Shared → Prop} {s : Shared} {h₀ : Heap} {L a b : Addr} {news : Led}
theorem isnot_inst {Q : Value → Shared → Prop} (N : News h₀ L s.heap news) (ha : IsInst news a) (hb : IsInst news b) (h : Q (.bool (!(a == b))) s) : wpAny (model prog w) A (compareOp .IsNot (.ref a) (.ref b)) Q E s := by
  obtain ⟨da, ha⟩ := ha
  obtain ⟨db, hb⟩ := hb
  by_cases e : a = b
  · subst e
    rw [beq_self_eq_true] at h
    exact wpAny_isNot_ref_self h
  · rw [beq_eq_false_iff_ne.mpr e] at h
    exact wpAny_isNot_ref_other e (N _ ha).1 (N _ hb).1 (by intro q; cases q) h
end

noncomputable abbrev Map := Str → Option Value
noncomputable def upd (m : Map) (x : Str) (v : Value) : Map := fun y => if y = x then some v else m y
theorem upd_at {m : Map} {x : Str} {v : Value} : upd m x v x = some v := if_pos rfl
theorem upd_ne {m : Map} {x y : Str} {v w : Value} (h : m y = some w) (hn : y ≠ x) : upd m x v y = some w := (if_neg hn).trans h

/-- what stands fixed around a body -/
structure Cx where
  w : World
  dp : Nat
  un : Nat
  fr : Option (List Env)
  gd : Option (List Code)
  g : Heap
  L : Addr
  env : Env
noncomputable abbrev Cx.A (c : Cx) : Around := top c.dp c.un c.fr c.gd
noncomputable abbrev Cx.M (c : Cx) : Model := model Challenge.rw_sa0304_01.row.prog c.w
structure Cx.Ok (c : Cx) (k : Nat) : Prop where
  X : (KH c.w.params).In c.g
  T : ∃ p loose mean mg mb, Top p loose mean mg mb c.g
  room : c.dp + k < recursionLimit
  units : c.un + 10 * k < cLine
  loc : c.env.locals = c.L
  kind : c.env.scope.kind = .function
  glob : c.env.globals = mainGlobals
  blt : c.env.builtins = builtinsNs
theorem Cx.Ok.less {c : Cx} {k k' : Nat} (h : c.Ok k) (hk : k' ≤ k) : c.Ok k' := ⟨h.X, h.T, by have := h.room; omega, by have := h.units; omega, h.loc, h.kind, h.glob, h.blt⟩

/-- what stands behind -/
noncomputable def Post {α : Type} (c : Cx) (P : α → Map → Led → Prop) (s : Shared) (a : α) (s' : Shared) : Prop :=
  ∃ m' led' h' tk, P a m' led' ∧ s' = { s with heap := h', toks := tk } ∧ Fr c.g c.L h' m' ∧ News c.g c.L h' led'
theorem Post.mk {α : Type} {c : Cx} {P : α → Map → Led → Prop} {s : Shared} {a : α} {m' : Map} {led' : Led} {h' : Heap} {tk : Nat} (h : P a m' led') (F : Fr c.g c.L h' m') (N : News c.g c.L h' led') :
    Post c P s a { s with heap := h', toks := tk } := ⟨m', led', h', tk, h, rfl, F, N⟩
/-- a triple: from this frame and this ledger -/
noncomputable def Tr {α : Type} (c : Cx) (m : Map) (led : Led) (t : Sem α) (P : α → Map → Led → Prop) : Prop :=
  ∀ s : Shared, Fr c.g c.L s.heap m → News c.g c.L s.heap led →
    wpAny c.M c.A t (Post c P s) (fun _ _ => False) s

section
variable {α β : Type} {c : Cx} {m : Map} {led : Led} {t : Sem α} {P : α → Map → Led → Prop}
theorem Tr.use (h : Tr c m led t P) {s : Shared} {Q : α → Shared → Prop} {E : Value → Shared → Prop} (F : Fr c.g c.L s.heap m) (N : News c.g c.L s.heap led)
    (k : ∀ a m' led' h' tk, P a m' led' → Fr c.g c.L h' m' → News c.g c.L h' led' → Q a { s with heap := h', toks := tk }) : wpAny c.M c.A t Q E s :=
  wpAny_mono (h s F N) (fun a _ ⟨m', led', h', tk, hp, e, F', N'⟩ => e ▸ k a m' led' h' tk hp F' N') fun _ _ x => x.elim
theorem Tr.mono {P' : α → Map → Led → Prop} (h : Tr c m led t P) (k : ∀ a m' led', P a m' led' → P' a m' led') : Tr c m led t P' :=
  fun _ F N => h.use F N fun a m' led' h' tk hp F' N' => (.mk (k a m' led' hp) F' N')
theorem Tr.sub {led' : Led} (h : Tr c m led t P) (hs : ∀ p ∈ led, p ∈ led') : Tr c m led' t P := fun s F N => h s F (News.sub N hs)
/-- the ledger behind may forget -/
theorem Tr.drop {P' : α → Map → Led → Prop} (h : Tr c m led t P) (k : ∀ a m' led', P a m' led' → ∃ led'', P' a m' led'' ∧ ∀ p ∈ led'', p ∈ led') : Tr c m led t P' :=
  fun _ F N => h.use F N fun a m' led' h' tk hp F' N' => let ⟨led'', hp', hs⟩ := k a m' led' hp; (.mk hp' F' (News.sub N' hs))
theorem Tr.pure {a : α} (h : P a m led) : Tr c m led (pure a) P := fun s F N => wpAny_pure (.mk h F N)
end

/-- data that a value bears -/
inductive Dm where
  | ref (a : Addr) | none | bool (b : Bool) | str (x : Str) | int (k : Int)
noncomputable def Dm.Is : Dm → Value → Prop
  | .ref a, v => v = .ref a
  | .none, v => v = .none
  | .bool b, v => v = .bool b
  | .str x, v => ∃ t, v = .str x t
  | .int k, v => ∃ t, v = .int k t
theorem Dm.Is.handed {d : Dm} {v : Value} (h : d.Is v) : handedIn v = true := by
  cases d <;> first | (obtain ⟨t, rfl⟩ := h; rfl) | (cases h; rfl)

noncomputable def AttrD (led : Led) (a : Addr) (name : Str) (d : Dm) : Prop := ∃ v, d.Is v ∧ Attr led a name v
theorem AttrD.mono {led led' : Led} {a : Addr} {name : Str} {d : Dm} (h : AttrD led a name d) (hs : ∀ p ∈ led, p ∈ led') : AttrD led' a name d := let ⟨v, a, b⟩ := h; ⟨v, a, b.mono hs⟩
theorem AttrD.inst {led : Led} {a : Addr} {name : Str} {d : Dm} (h : AttrD led a name d) : IsInst led a := let ⟨_, _, b⟩ := h; b.inst

/-- an expression's datum; nothing is changed -/
noncomputable def Ev (c : Cx) (m : Map) (led : Led) (e : Expr) (d : Dm) : Prop := Tr c m led (eval e c.env) fun v m' led' => d.Is v ∧ m' = m ∧ led' = led
noncomputable def Tst (c : Cx) (m : Map) (led : Led) (e : Expr) (b : Bool) : Prop := Tr c m led (PySem.isTrue e c.env (eval e c.env)) fun v m' led' => v = b ∧ m' = m ∧ led' = led
noncomputable def AndT (c : Cx) (m : Map) (led : Led) (es : List Expr) (b : Bool) : Prop := ∀ pos whole, Tr c m led (PySem.isTrue (.BoolOp .And es pos) c.env whole) fun v m' led' => v = b ∧ m' = m ∧ led' = led
noncomputable def OrT (c : Cx) (m : Map) (led : Led) (es : List Expr) (b : Bool) : Prop := ∀ pos whole, Tr c m led (PySem.isTrue (.BoolOp .Or es pos) c.env whole) fun v m' led' => v = b ∧ m' = m ∧ led' = led
noncomputable def CmpD (c : Cx) (m : Map) (led : Led) (op : CmpOp) (d1 d2 : Dm) (b : Bool) : Prop := ∀ v1 v2, d1.Is v1 → d2.Is v2 → Tr c m led (compareOp op v1 v2) fun v m' led' => v = .bool b ∧ m' = m ∧ led' = led

section
variable {c : Cx} {m : Map} {led : Led} {e e1 e2 : Expr} {d d1 d2 : Dm} {b b1 b2 : Bool} {pos : Pos} {x : Str} {k : Nat}
theorem Ev.use (h : Ev c m led e d) {s : Shared} {Q : Value → Shared → Prop} {E : Value → Shared → Prop} (F : Fr c.g c.L s.heap m) (N : News c.g c.L s.heap led)
    (k : ∀ a h' tk, d.Is a → Fr c.g c.L h' m → News c.g c.L h' led → Q a { s with heap := h', toks := tk }) : wpAny c.M c.A (eval e c.env) Q E s :=
  Tr.use h F N fun a m' led' h' tk ⟨hp, e1, e2⟩ F' N' => k a h' tk hp (e1 ▸ F') (e2 ▸ N')
theorem Tr.useB {t : Sem Bool} (h : Tr c m led t fun v m' led' => v = b ∧ m' = m ∧ led' = led) {s : Shared} {Q : Bool → Shared → Prop} {E : Value → Shared → Prop} (F : Fr c.g c.L s.heap m) (N : News c.g c.L s.heap led)
    (k : ∀ h' tk, Fr c.g c.L h' m → News c.g c.L h' led → Q b { s with heap := h', toks := tk }) : wpAny c.M c.A t Q E s :=
  Tr.use h F N fun a m' led' h' tk ⟨hp, e1, e2⟩ F' N' => hp ▸ k h' tk (e1 ▸ F') (e2 ▸ N')

theorem Ev.loc {v : Value} (O : c.Ok k) (hk : c.env.kindOf x = some .local) (hv : m x = some v) (hd : d.Is v) (hx : (x == ("__debug__" : Str)) = false := by decide) : Ev c m led (.Name x pos) d :=
  fun s F N => wpAny_Name (wpAny_loadName_local O.kind hk (by rw [O.loc]; exact F.ns) hv (.mk ⟨hd, rfl, rfl⟩ F N)) hx
theorem Ev.cell {v : Value} {a : Addr} {o : Obj} (O : c.Ok k) (hk : c.env.kindOf x = some .cell) (hc : c.env.cells.lookup x = some a) (hm : (a, o) ∈ led) (ho : o.data = .cell (some v)) (hd : d.Is v)
    (hx : (x == ("__debug__" : Str)) = false := by decide) : Ev c m led (.Name x pos) d :=
  fun s F N => wpAny_Name (wpAny_loadName_cell O.kind hk hc ⟨o, N.get hm, ho⟩ (.mk ⟨hd, rfl, rfl⟩ F N)) hx
theorem Ev.free {v : Value} {a : Addr} {o : Obj} (O : c.Ok k) (hk : c.env.kindOf x = some .free) (hc : c.env.cells.lookup x = some a) (hm : (a, o) ∈ led) (ho : o.data = .cell (some v)) (hd : d.Is v)
    (hx : (x == ("__debug__" : Str)) = false := by decide) (hx2 : (x == ("__classdict__" : Str)) = false := by decide) : Ev c m led (.Name x pos) d :=
  fun s F N => wpAny_Name (wpAny_loadName_free O.kind hk hc ⟨o, N.get hm, ho⟩ (.mk ⟨hd, rfl, rfl⟩ F N) hx2) hx
/-- a def or class of the text's own -/
theorem glob_ {a : Addr} (O : c.Ok k) (hk : c.env.kindOf x = some .globalImplicit) (hn : nsIn (KH c.w.params) mainGlobals x = some (some (.ref a)))
    (hx : (x == ("__debug__" : Str)) = false := by decide) : Ev c m led (.Name x pos) (.ref a) := by
  intro s F N
  obtain ⟨p, loose, mean, mg, mb, T⟩ := O.T
  exact Name_function_global O.kind hk (loadGlobal_global (by rw [O.glob]; exact (topRead_of T).g.keeps F.keep) (mg_of O.X (topRead_of T).g hn) (.mk ⟨rfl, rfl, rfl⟩ F N)) hx

theorem Ev.attr {a : Addr} {name : Str} (O : c.Ok k) (h : Ev c m led e (.ref a)) (ha : AttrD led a name d) (hn : name ∈ attrNames)
    (hs : eval (e.Attribute name pos) c.env = (do let o ← eval e c.env; standAt pos.atName; let r ← holding [o] (getAttr o name true); letTemporaryGo e o r; pure r) := by rfl) : Ev c m led (.Attribute e name pos) d := by
  intro s F N
  obtain ⟨v, hd, ha⟩ := ha
  refine Attribute_any_ (h.use F N fun o h' tk ho F' N' => ?_) hs
  cases ho
  exact get_attr F' O.X N' ha hn hd.handed (.mk ⟨hd, rfl, rfl⟩ F' N')

theorem Ev.true_ {n : Nat} : Ev c m led (.Constant (.bool b) n pos) (.bool b) := fun s F N => Constant_bool (.mk ⟨rfl, rfl, rfl⟩ F N)
theorem Ev.none_ {n : Nat} : Ev c m led (.Constant .none n pos) .none := fun s F N => Constant_none (.mk ⟨rfl, rfl, rfl⟩ F N)
theorem Ev.int_ {i : Int} {n : Nat} : Ev c m led (.Constant (.int i) n pos) (.int i) := fun s F N => wpAny_Constant_int (.mk ⟨⟨_, rfl⟩, rfl, rfl⟩ F N)

theorem Ev.cmp {op : CmpOp} (h1 : Ev c m led e1 d1) (h2 : Ev c m led e2 d2) (h : CmpD c m led op d1 d2 b) (hs : behindInMarks op e2 = false := by rfl) : Ev c m led (.Compare e1 [op] [e2] pos) (.bool b) :=
  fun s F N => wpAny_Compare1 (h1.use F N fun v1 h' tk i1 F' N' => h2.use F' N' fun v2 h'' tk' i2 F'' N'' => Tr.use (h v1 v2 i1 i2) F'' N'' fun a m' led' h3 tk3 ⟨q1, q2, q3⟩ F3 N3 => (.mk ⟨q1, q2, q3⟩ F3 N3)) hs
theorem Tst.cmp {op : CmpOp} (h1 : Ev c m led e1 d1) (h2 : Ev c m led e2 d2) (h : CmpD c m led op d1 d2 b) (hs : behindInMarks op e2 = false := by rfl) : Tst c m led (.Compare e1 [op] [e2] pos) b :=
  fun s F N => wpAny_isTrue_Compare1 (h1.use F N fun v1 h' tk i1 F' N' => h2.use F' N' fun v2 h'' tk' i2 F'' N'' => Tr.use (h v1 v2 i1 i2) F'' N'' fun a m' led' h3 tk3 ⟨q1, q2, q3⟩ F3 N3 => q1 ▸ wpAny_truthy_bool (.mk ⟨rfl, q2, q3⟩ F3 N3)) hs
theorem Tst.of (h : Ev c m led e (.bool b)) (hs : ∀ whole, PySem.isTrue e c.env whole = (do let v ← whole; standAt e.pos; holding [v] (truthy v)) := by intro _; rfl) : Tst c m led e b :=
  fun s F N => isTrue_plain (h.use F N fun v h' tk i F' N' => by cases i; exact wpAny_truthy_bool (.mk ⟨rfl, rfl, rfl⟩ F' N')) (hs _)
theorem AndT.nil : AndT c m led [] true := fun _ _ s F N => isTrue_and_nil (.mk ⟨rfl, rfl, rfl⟩ F N)
theorem AndT.cons {es : List Expr} (h1 : Tst c m led e b1) (h2 : b1 = true → AndT c m led es b2) : AndT c m led (e :: es) (b1 && b2) := fun pos whole s F N =>
  isTrue_and (Tr.useB h1 F N fun h' tk F' N' => by
    cases b1 with
    | true => exact Tr.useB (h2 rfl pos whole) F' N' fun h'' tk' F'' N'' => (.mk ⟨rfl, rfl, rfl⟩ F'' N'')
    | false => rw [if_neg Bool.false_ne_true]; exact (.mk ⟨rfl, rfl, rfl⟩ F' N'))
theorem OrT.nil : OrT c m led [] false := fun _ _ s F N => isTrue_or_nil (.mk ⟨rfl, rfl, rfl⟩ F N)
theorem OrT.cons {es : List Expr} (h1 : Tst c m led e b1) (h2 : b1 = false → OrT c m led es b2) : OrT c m led (e :: es) (b1 || b2) := fun pos whole s F N =>
  isTrue_or (Tr.useB h1 F N fun h' tk F' N' => by
    cases b1 with
    | false => exact Tr.useB (h2 rfl pos whole) F' N' fun h'' tk' F'' N'' => (.mk ⟨rfl, rfl, rfl⟩ F'' N'')
    | true => rw [if_pos rfl]; exact (.mk ⟨rfl, rfl, rfl⟩ F' N'))
theorem Tst.and {es : List Expr} (h : AndT c m led es b) : Tst c m led (.BoolOp .And es pos) b := h pos _
theorem Tst.or {es : List Expr} (h : OrT c m led es b) : Tst c m led (.BoolOp .Or es pos) b := h pos _
theorem Tst.not (h : Tst c m led e b) : Tst c m led (.UnaryOp .Not e pos) (!b) := fun s F N => isTrue_not (Tr.useB h F N fun h' tk F' N' => (.mk ⟨rfl, rfl, rfl⟩ F' N'))
theorem Ev.one {op : BoolOp} (h : Ev c m led e d) : Ev c m led (.BoolOp op [e] pos) d := fun s F N => BoolOp_one (h s F N)
theorem Ev.and {es : List Expr} (h1 : Ev c m led e1 (.bool b1)) (h2 : b1 = true → Ev c m led (.BoolOp .And (e2 :: es) pos) (.bool b2)) : Ev c m led (.BoolOp .And (e1 :: e2 :: es) pos) (.bool (b1 && b2)) :=
  fun s F N => BoolOp_and (h1.use F N fun v h' tk i F' N' => by
    cases i
    refine wpAny_truthy_bool ?_
    cases b1 with
    | true => exact (h2 rfl).use F' N' fun v h'' tk' i F'' N'' => (.mk ⟨i, rfl, rfl⟩ F'' N'')
    | false => rw [if_neg Bool.false_ne_true]; exact (.mk ⟨rfl, rfl, rfl⟩ F' N'))
theorem Ev.or {es : List Expr} (h1 : Ev c m led e1 (.bool b1)) (h2 : b1 = false → Ev c m led (.BoolOp .Or (e2 :: es) pos) (.bool b2)) : Ev c m led (.BoolOp .Or (e1 :: e2 :: es) pos) (.bool (b1 || b2)) :=
  fun s F N => BoolOp_or (h1.use F N fun v h' tk i F' N' => by
    cases i
    refine wpAny_truthy_bool ?_
    cases b1 with
    | false => exact (h2 rfl).use F' N' fun v h'' tk' i F'' N'' => (.mk ⟨i, rfl, rfl⟩ F'' N'')
    | true => rw [if_pos rfl]; exact (.mk ⟨rfl, rfl, rfl⟩ F' N'))
theorem Tr.ifexp {test : Expr} {P : Value → Map → Led → Prop} (h : Tst c m led test b) (h1 : b = true → Tr c m led (eval e1 c.env) P) (h2 : b = false → Tr c m led (eval e2 c.env) P) : Tr c m led (eval (.IfExp test e1 e2 pos) c.env) P :=
  fun s F N => IfExp_ (Tr.useB h F N fun h' tk F' N' => by
    cases b with
    | true => exact Tr.use (h1 rfl) F' N' fun a m' led' h'' tk' hp F'' N'' => (.mk hp F'' N'')
    | false => exact Tr.use (h2 rfl) F' N' fun a m' led' h'' tk' hp F'' N'' => (.mk hp F'' N''))
end

inductive AreD : List Dm → List Value → Prop
  | nil : AreD [] []
  | cons {d : Dm} {v : Value} {ds : List Dm} {vs : List Value} : d.Is v → AreD ds vs → AreD (d :: ds) (v :: vs)
noncomputable def Args (c : Cx) (m : Map) (led : Led) (es : List Expr) (ds : List Dm) : Prop := ∀ pos, Tr c m led (spliced (backTo pos (starEach es c.env))) fun vs m' led' => AreD ds vs ∧ m' = m ∧ led' = led
/-- what a call of the def at f does -/
noncomputable def Fn (w : World) (f : Addr) (vs : List Value) (led : Led) (k : Nat) (post : Led → Value → Prop) : Prop :=
  ∀ (c : Cx) (m : Map), c.w = w → c.Ok k → Tr c m led (call (.ref f) vs) fun v m' led' => m' = m ∧ post led' v
noncomputable abbrev TrS (c : Cx) (m : Map) (led : Led) (ss : List Stmt) (P : Flow → Map → Led → Prop) : Prop := Tr c m led (execs ss c.env) P
noncomputable def Then (c : Cx) (rest : List Stmt) (P : Flow → Map → Led → Prop) : Flow → Map → Led → Prop
  | .next, m, led => TrS c m led rest P
  | f, m, led => P f m led

section
variable {c : Cx} {m : Map} {led : Led} {e e1 e2 : Expr} {d d1 d2 : Dm} {b b1 b2 : Bool} {pos px : Pos} {x : Str} {k n : Nat} {P : Flow → Map → Led → Prop} {rest body orelse : List Stmt}

theorem CmpD.eqStr {x y : Str} : CmpD c m led .Eq (.str x) (.str y) (x == y) := fun v1 v2 ⟨t, h1⟩ ⟨u, h2⟩ s F N => by
  subst h1; subst h2; exact eq_str (.mk ⟨rfl, rfl, rfl⟩ F N)
theorem CmpD.neStr {x y : Str} : CmpD c m led .NotEq (.str x) (.str y) (x != y) := fun v1 v2 ⟨t, h1⟩ ⟨u, h2⟩ s F N => by
  subst h1; subst h2; exact ne_str (.mk ⟨rfl, rfl, rfl⟩ F N)
theorem CmpD.eqInt {x y : Int} : CmpD c m led .Eq (.int x) (.int y) (x == y) := fun v1 v2 ⟨t, h1⟩ ⟨u, h2⟩ s F N => by
  subst h1; subst h2; exact eq_int (.mk ⟨rfl, rfl, rfl⟩ F N)
theorem CmpD.gtInt {x y : Int} : CmpD c m led .Gt (.int x) (.int y) (decide (y < x)) := fun v1 v2 ⟨t, h1⟩ ⟨u, h2⟩ s F N => by
  subst h1; subst h2; exact gt_int (.mk ⟨rfl, rfl, rfl⟩ F N)
theorem CmpD.isNone {d : Dm} : CmpD c m led .Is d .none (match d with | .none => true | _ => false) := fun v1 v2 h1 h2 s F N => by
  cases d <;> first | (obtain ⟨t, rfl⟩ := h1; cases h2; exact wpAny_is_plain rfl (.mk ⟨rfl, rfl, rfl⟩ F N)) | (cases h1; cases h2; exact wpAny_is_plain rfl (.mk ⟨rfl, rfl, rfl⟩ F N))
theorem CmpD.notNone {d : Dm} : CmpD c m led .IsNot d .none (match d with | .none => false | _ => true) := fun v1 v2 h1 h2 s F N => by
  cases d <;> first | (obtain ⟨t, rfl⟩ := h1; cases h2; exact wpAny_isNot_plain rfl (.mk ⟨rfl, rfl, rfl⟩ F N)) | (cases h1; cases h2; exact wpAny_isNot_plain rfl (.mk ⟨rfl, rfl, rfl⟩ F N))
theorem CmpD.isNot {a b : Addr} (ha : IsInst led a) (hb : IsInst led b) : CmpD c m led .IsNot (.ref a) (.ref b) (!(a == b)) := fun v1 v2 h1 h2 s F N => by
  cases h1; cases h2; exact isnot_inst N ha hb (.mk ⟨rfl, rfl, rfl⟩ F N)
theorem CmpD.inRefs {as : List Addr} {y l : Addr} (O : c.Ok (k + 1)) (hl : (l, listOf (refsOf as).toArray n) ∈ led) (ha : ∀ a ∈ as, IsInst led a) (hx : IsInst led y) : CmpD c m led .In (.ref y) (.ref l) (decide (y ∈ as)) := fun v1 v2 h1 h2 s F N => by
  cases h1; cases h2; exact in_refs F O.X N hl ha hx (by have := O.units; simp only [Cx.A, units_top]; omega) (.mk ⟨rfl, rfl, rfl⟩ F N)
theorem CmpD.notInRefs {as : List Addr} {y l : Addr} (O : c.Ok (k + 1)) (hl : (l, listOf (refsOf as).toArray n) ∈ led) (ha : ∀ a ∈ as, IsInst led a) (hx : IsInst led y) : CmpD c m led .NotIn (.ref y) (.ref l) (!decide (y ∈ as)) := fun v1 v2 h1 h2 s F N => by
  cases h1; cases h2; exact notin_refs F O.X N hl ha hx (by have := O.units; simp only [Cx.A, units_top]; omega) (.mk ⟨rfl, rfl, rfl⟩ F N)
theorem CmpD.inInts {vs : List Value} {ns : List Int} {y : Int} {l : Addr} (hl : (l, listOf vs.toArray n) ∈ led) (hi : IntsAre vs ns) : CmpD c m led .In (.int y) (.ref l) (ns.any (· == y)) := fun v1 v2 h1 h2 s F N => by
  obtain ⟨t, rfl⟩ := h1; cases h2; exact PyProof.Rows.in_list_ints ⟨_, (N _ hl).1, rfl, n, rfl⟩ hi (.mk ⟨rfl, rfl, rfl⟩ F N)
theorem CmpD.notInInts {vs : List Value} {ns : List Int} {y : Int} {l : Addr} (hl : (l, listOf vs.toArray n) ∈ led) (hi : IntsAre vs ns) : CmpD c m led .NotIn (.int y) (.ref l) (!ns.any (· == y)) := fun v1 v2 h1 h2 s F N => by
  obtain ⟨t, rfl⟩ := h1; cases h2; exact PyProof.Rows.notin_list_ints ⟨_, (N _ hl).1, rfl, n, rfl⟩ hi (.mk ⟨rfl, rfl, rfl⟩ F N)
theorem CmpD.notInStrs {vs : List Value} {ns : List Str} {y : Str} {l : Addr} (hl : (l, listOf vs.toArray n) ∈ led) (hi : StrsAre vs ns) : CmpD c m led .NotIn (.str y) (.ref l) (!ns.any (· == y)) := fun v1 v2 h1 h2 s F N => by
  obtain ⟨t, rfl⟩ := h1; cases h2; exact notin_list_strs ⟨_, (N _ hl).1, rfl, n, rfl⟩ hi (.mk ⟨rfl, rfl, rfl⟩ F N)
theorem Ev.str_ : Ev c m led (.Constant (.str x) n pos) (.str x) := fun s F N => Constant_str (.mk ⟨⟨_, rfl⟩, rfl, rfl⟩ F N)

/-- x in ('a', 'b') -/
theorem Tst.inTwo {y a b : Str} {k1 k2 k3 : Nat} {p1 p2 p3 : Pos} (h : Ev c m led e (.str y)) :
    Tst c m led (.Compare e [.In] [.Tuple [.Constant (.str a) k1 p1, .Constant (.str b) k2 p2] k3 p3] pos) ([a, b].any (· == y)) := fun s F N =>
  wpAny_isTrue_Compare1 (h.use F N fun v1 h' tk ⟨t, i1⟩ F' N' => by
    subst i1
    refine Tuple_ (spliced_more (Constant_str (spliced_more (Constant_str (spliced_none (wpAny_newTuple ?_ (show 2 ≤ sizeLine by rw [sizeLine_eq]; decide)))) (by with_unfolding_all rfl))) (by with_unfolding_all rfl))
    refine in_tuple_strs (ys := [a, b]) ⟨_, Heap.get?_push_size _ rfl, rfl, 0, rfl⟩ (.cons _ _ (.cons _ _ .nil)) (wpAny_truthy_bool (.mk ⟨rfl, rfl, rfl⟩ (F'.push _) (fun p hp => ⟨Heap.get?_push_of_some _ (N' p hp).1, (N' p hp).2⟩)))) (by rfl)

theorem Args.nil : Args c m led [] [] := fun pos s F N => spliced_none (.mk ⟨.nil, rfl, rfl⟩ F N)
theorem Args.cons {es : List Expr} {ds : List Dm} (h : Ev c m led e d) (h2 : Args c m led es ds) (hs : starEach (e :: es) c.env = (false, eval e c.env) :: starEach es c.env := by rfl) : Args c m led (e :: es) (d :: ds) := fun pos s F N =>
  spliced_more (h.use F N fun v h' tk i F' N' => Tr.use (h2 pos) F' N' fun vs m' led' h'' tk' ⟨q, e1, e2⟩ F'' N'' => (.mk ⟨.cons i q, e1, e2⟩ F'' N'')) hs
theorem Tr.call {f : Addr} {es : List Expr} {ds : List Dm} {post : Led → Value → Prop} (O : c.Ok k) (hf : Ev c m led e1 (.ref f)) (hk : keepIn (KH c.w.params) (.ref f) = true) (ha : Args c m led (e2 :: es) ds)
    (h : ∀ vs, AreD ds vs → Fn c.w f vs led k post)
    (hs : eval (e1.Call (e2 :: es) [] pos) c.env = (do let f ← eval e1 c.env; callWith pos f [] (backTo pos (starEach (e2 :: es) c.env)) (backToKw pos (keywordEach [] c.env))) := by rfl)
    (he : starEach (e2 :: es) c.env = (false, eval e2 c.env) :: starEach es c.env := by rfl) (hp : (backTo pos (starEach es c.env)).any (·.1) = false := by rfl) :
    Tr c m led (eval (.Call e1 (e2 :: es) [] pos) c.env) fun v m' led' => m' = m ∧ post led' v := fun s F N =>
  Call_ (hf.use F N fun v h' tk i F' N' => by
    cases i
    exact callWith_K O.X hk (Tr.use (ha pos) F' N' fun vs m' led' h'' tk' ⟨q, e1, e2⟩ F'' N'' => by
      subst e1; subst e2
      exact ⟨O.X.keeps F''.keep, Tr.use (h vs q c m' rfl O) F'' N'' fun a m3 led3 h3 tk3 hp F3 N3 => (.mk hp F3 N3)⟩) he hp) hs

theorem St.nil (h : P .next m led) : TrS c m led [] P := fun s F N => wpAny_execs_nil (.mk h F N)
theorem St.one {st : Stmt} (h : Tr c m led (exec st c.env) (Then c rest P)) : TrS c m led (st :: rest) P := fun s F N =>
  wpAny_execs_cons (h.use F N fun f m' led' h' tk hp F' N' => by
    cases f with
    | next => exact Tr.use (show TrS c m' led' rest P from hp) F' N' fun a m3 led3 h3 tk3 hp F3 N3 => (.mk hp F3 N3)
    | _ => exact (.mk hp F' N'))
theorem store_ {v : Value} (O : c.Ok k) (hk : c.env.kindOf x = some .local) : Tr c m led (storeName c.env x v) fun _ m' led' => m' = upd m x v ∧ led' = led := fun s F N => by
  have e := O.loc
  refine wpAny_storeName_local hk (by rw [e]; exact F.ns) (fun h' hn hs => ?_) (by rw [O.kind]; rfl)
  rw [e] at hn hs
  exact ⟨_, led, h', _, ⟨rfl, rfl⟩, rfl, F.set hn hs, News.set N hs⟩
theorem St.setT {P1 : Value → Map → Led → Prop} (O : c.Ok k) (hk : c.env.kindOf x = some .local) (h : Tr c m led (eval e c.env) P1) (hn : ∀ v m' led', P1 v m' led' → TrS c (upd m' x v) led' rest P)
    (hs : swapsWith e (some (.Name x px)) pos.line c.env = (Pure.pure false : Sem Bool) := by rfl) : TrS c m led (.Assign [.Name x px] e pos :: rest) P :=
  St.one fun s F N => wpAny_Assign_Name (h.use F N fun v m' led' h' tk hp F' N' => Tr.use (store_ (v := v) O hk) F' N' fun _ m2 led2 h2 tk2 ⟨q1, q2⟩ F2 N2 => (.mk (by subst q1; subst q2; exact hn v m' _ hp) F2 N2)) hs
theorem St.set (O : c.Ok k) (hk : c.env.kindOf x = some .local) (h : Ev c m led e d) (hn : ∀ v, d.Is v → TrS c (upd m x v) led rest P)
    (hs : swapsWith e (some (.Name x px)) pos.line c.env = (Pure.pure false : Sem Bool) := by rfl) : TrS c m led (.Assign [.Name x px] e pos :: rest) P :=
  St.setT O hk h (fun v m' led' ⟨h1, h2, h3⟩ => by subst h2; subst h3; exact hn v h1) hs
theorem St.ret (h : Tr c m led (eval e c.env) fun v m' led' => P (.ret v) m' led') : TrS c m led (.Return (some e) pos :: rest) P :=
  St.one fun s F N => wpAny_Return_some (h.use F N fun v m' led' h' tk hp F' N' => (.mk hp F' N'))
theorem St.cont (h : P .cont m led) : TrS c m led (.Continue pos :: rest) P := St.one fun s F N => wpAny_Continue (.mk h F N)
theorem St.if_ (h : Tst c m led e b) (h1 : b = true → TrS c m led body (Then c rest P)) (h2 : b = false → TrS c m led orelse (Then c rest P)) : TrS c m led (.If e body orelse pos :: rest) P :=
  St.one fun s F N => wpAny_If (Tr.useB h F N fun h' tk F' N' => by
    cases b with
    | true => exact Tr.use (h1 rfl) F' N' fun a m3 led3 h3 tk3 hp F3 N3 => (.mk hp F3 N3)
    | false => exact Tr.use (h2 rfl) F' N' fun a m3 led3 h3 tk3 hp F3 N3 => (.mk hp F3 N3))
theorem St.if0 (h : Tst c m led e b) (h1 : b = true → TrS c m led body (Then c rest P)) (h2 : b = false → TrS c m led rest P) : TrS c m led (.If e body [] pos :: rest) P :=
  St.if_ h h1 fun hb => St.nil (P := Then c rest P) (h2 hb)
theorem St.expr (h : Tr c m led (eval e c.env) fun _ m' led' => TrS c m' led' rest P) (hi : interactive c.env = false := by rfl) (hs : swapsWith e none pos.line c.env = (Pure.pure false : Sem Bool) := by rfl) : TrS c m led (.Expr e pos :: rest) P :=
  St.one fun s F N => wpAny_Expr_any (h.use F N fun v m' led' h' tk hp F' N' => (.mk hp F' N')) hi hs

/-- the end of a turn -/
noncomputable def TurnP (c : Cx) (rest : List Stmt) (P : Flow → Map → Led → Prop) (I : Addr) (oI : Obj) (J : Map → Led → Prop) : Flow → Map → Led → Prop
  | .ret v, m, led => P (.ret v) m led
  | .brk, m, led => TrS c m led rest P
  | _, m, led => ∃ led', (∀ p ∈ (I, oI) :: led', p ∈ led) ∧ Apart led' [I] ∧ J m led'
inductive ForL (c : Cx) (x : Str) (body rest : List Stmt) (P : Flow → Map → Led → Prop) (v : Value) (m : Map) (led : Led) : Prop
  | mk (l : Addr) (tup : Bool) (vs : List Value) (n : Nat) (J : Nat → Map → Led → Prop) (e : v = .ref l) (h0 : J 0 m led) (hJ : ∀ i m led, J i m led → (l, seqO tup vs n) ∈ led)
    (turn : ∀ i u m' led' I oI, vs[i]? = some u → J i m' led' → Apart led' [I] → TrS c (upd m' x u) ((I, oI) :: led') body (TurnP c rest P I oI (J (i + 1))))
    (done : ∀ m' led', J vs.length m' led' → TrS c m' led' rest P) : ForL c x body rest P v m led
theorem St.for_ {iter : Expr} (O : c.Ok k) (hk : c.env.kindOf x = some .local) (h : Tr c m led (eval iter c.env) (ForL c x body rest P))
    (hs : ∀ v, foldedSetIterable iter c.env v = (Pure.pure v : Sem Value) := by intro _; rfl) : TrS c m led (.For (.Name x px) iter body [] pos :: rest) P :=
  St.one fun s F N => for_list (h₀ := c.g) (L := c.L) rfl (h.use F N fun v m1 led1 h1 tk1 ⟨l, tup, vs, n, J, e, hj, hJl, turn, done⟩ F1 N1 => by
    refine ⟨l, tup, vs, n, m1, led1, J, e, F1, N1, hj, hJl, ?_, ?_⟩
    · intro i v m' led' h' tk I oI hi hJ ha F' N'
      refine wpAny_assign_Name ?_
      refine Tr.use (store_ (v := v) (led := (I, oI) :: led') O hk) F' N' fun _ m2 led2 h2 tk2 ⟨q1, q2⟩ F2 N2 => ?_
      subst q1; subst q2
      refine Tr.use (turn i v m' led' I oI hi hJ ha) F2 N2 fun f m3 led3 h3 tk3 hp F3 N3 => ?_
      cases f with
      | ret v => exact (.mk hp F3 N3)
      | brk => exact (.mk hp F3 N3)
      | next =>
        obtain ⟨led4, h4, a4, j4⟩ := hp
        exact ⟨h3, tk3, m3, led4, rfl, F3, News.sub N3 h4, a4, j4⟩
      | cont =>
        obtain ⟨led4, h4, a4, j4⟩ := hp
        exact ⟨h3, tk3, m3, led4, rfl, F3, News.sub N3 h4, a4, j4⟩
    · intro m' led' h' tk hJ F' N'
      exact (.mk (done m' led' hJ) F' N')) hs

theorem Tr.sliceFrom {vs : List Value} {y : Int} {l : Addr} {p2 : Pos} (h1 : Ev c m led e1 (.ref l)) (h2 : Ev c m led e2 (.int y)) (hl : (l, listOf vs.toArray n) ∈ led) (h0 : 0 ≤ y) (hsz : vs.length ≤ 1000)
    (hs : ∀ a : Addr, subscripted (.Slice (some e2) none none p2) false (.ref l) (.ref a) = operate [.ref a, .ref l] (getItem (.ref l) (.ref a)) := by intro _; with_unfolding_all rfl) :
    Tr c m led (eval (.Subscript e1 (.Slice (some e2) none none p2) pos) c.env) fun v m' led' => ∃ D, v = .ref D ∧ m' = m ∧ led' = (D, listOf (vs.drop y.toNat).toArray 0) :: led ∧ ∀ p ∈ led, p.1 ≠ D := fun s F N =>
  Subscript_ (h1.use F N fun v h' tk i F' N' => by
    cases i
    refine wpAny_Slice (evalPart_some_step (h2.use F' N' fun v2 h2 tk2 i2 F2 N2 => evalPart_none_step (evalPart_none_step ?_)))
    obtain ⟨t, rfl⟩ := i2
    exact slice_from (s := ⟨h2, s.gens, s.drawn, tk2, s.os⟩) F2 N2 hl h0 hsz (fun D h3 F3 N3 l3 => (.mk ⟨D, rfl, rfl, rfl, fun p hp => Nat.ne_of_lt (l3 p hp)⟩ F3 N3)) (hs _))
theorem Ev.indexRefs {as : List Addr} {y l : Addr} {apos : Pos} {pl : Sem Bool} (O : c.Ok (k + 1)) (h1 : Ev c m led e1 (.ref l)) (h2 : Ev c m led e2 (.ref y)) (hl : (l, listOf (refsOf as).toArray n) ∈ led) (ha : ∀ a ∈ as, IsInst led a) (hx : y ∈ as) (hz : as.length ≤ 1000)
    (hs : eval ((e1.Attribute (Str.ofString "index") apos).Call [e2] [] pos) c.env = (do
          let ov ← eval e1 c.env
          standAt apos.atName
          let __x ← holding [ov] (getMethod ov (Str.ofString "index") pl)
          match __x with
            | (f, first) => callWith pos f first (backTo pos (starEach [e2] c.env)) []) := by rfl)
    (he : starEach [e2] c.env = (false, eval e2 c.env) :: starEach [] c.env := by rfl) (hp : (backTo pos (starEach [] c.env)).any (·.1) = false := by rfl) :
    Ev c m led (.Call (.Attribute e1 (Str.ofString "index") apos) [e2] [] pos) (.int (as.idxOf y : Nat)) := fun s F N =>
  MethodCall_ (pl := pl) (h1.use F N fun v h' tk i F' N' => by
    cases i
    refine kf_method N' hl PySem.F.slot_list_index PySem.F.type_list_index ?_
    refine callWith_method1 (spliced_more (h2.use F' N' fun v2 h3 tk3 i2 F3 N3 => spliced_none ?_) he) he hp
    cases i2
    exact index_refs F3 O.X N3 hl ha hx (by have := O.units; simp only [units_top]; omega) hz (.mk ⟨⟨_, rfl⟩, rfl, rfl⟩ F3 N3)) hs
theorem Ev.add {x y : Int} (h1 : Ev c m led e1 (.int x)) (h2 : Ev c m led e2 (.int y)) : Ev c m led (.BinOp e1 .Add e2 pos) (.int (x + y)) := fun s F N =>
  wpAny_BinOp (h1.use F N fun v h' tk ⟨t, i⟩ F' N' => h2.use F' N' fun v2 h3 tk3 ⟨t2, i2⟩ F3 N3 => by
    subst i; subst i2
    exact add_int (.mk ⟨⟨_, rfl⟩, rfl, rfl⟩ F3 N3))
end

section
variable {w : World} {name qual : Str} {params : Arguments} {body : List Stmt} {scope : Scope} {dV kV doc pm cdv ct oc : Value} {an od : Option Addr} {osl : Array (Option Value)} {f : Addr} {vs : List Value} {binds : List (Str × Value)} {led : Led} {k : Nat} {post : Led → Value → Prop}

/-- the end of a def's body -/
noncomputable def FinP (post : Led → Value → Prop) : Flow → Map → Led → Prop
  | .ret v, _, led => post led v
  | _, _, led => post led .none
theorem Fn.enter (ho : (KH w.params).lookup f = some ⟨oc, od, .func (fnOf name qual params body scope dV kV doc pm an cdv ct), osl⟩) (hcd : codeIn (KH w.params) cdv qual = true)
    (hbind : ∀ s, BindsTo s (fnOf name qual params body scope dV kV doc pm an cdv ct) ⟨vs, []⟩ binds) (hloc : ∀ y ∈ binds, scope.names.lookup y.1 = some .local)
    (hco : scope.isCoroutine = false) (hgen : scope.isGenerator = false) (hk : scope.kind = .function) (hcell : ∀ x ∈ scope.names, x.2 ≠ .cell)
    (h : ∀ c : Cx, c.w = w → c.Ok k → c.env = envOf qual scope c.L f cdv → (∀ p ∈ led, p.1 < c.L) → TrS c (fun y => binds.reverse.lookup y) led body (FinP post)) : Fn w f vs led (k + 1) post := by
  intro c m hw O s F N
  subst hw
  obtain ⟨p, loose, mean, mg, mb, T⟩ := O.T
  have hr := O.room
  have hu := O.units
  refine wpAny_call (enter F O.X N T ho hcd (show c.dp < recursionLimit by omega) (hbind s) hloc hco hgen hk hcell fun g L' h₁ F' N' X' T' l1 => ?_)
  have := h ⟨c.w, c.dp + 1, c.un + 3, (c.A.deeper (envOf qual scope L' f cdv)).frames, (c.A.deeper (envOf qual scope L' f cdv)).guards, g, L', envOf qual scope L' f cdv⟩ rfl
    ⟨X', ⟨_, _, _, _, _, T'⟩, by show c.dp + 1 + k < _; omega, by show c.un + 3 + 10 * k < _; omega, rfl, hk, rfl, rfl⟩ rfl l1
  refine Tr.use (c := ⟨c.w, c.dp + 1, c.un + 3, (c.A.deeper (envOf qual scope L' f cdv)).frames, (c.A.deeper (envOf qual scope L' f cdv)).guards, g, L', envOf qual scope L' f cdv⟩) this F' N' fun fl m' led' h' tk hp F2 N2 => ?_
  refine leaveK_ F2 N2 fun F3 N3 => ?_
  cases fl <;> exact (.mk ⟨rfl, hp⟩ F3 N3)
theorem Fn.enterC (ho : (KH w.params).lookup f = some ⟨oc, od, .func (fnOf name qual params body scope dV kV doc pm an cdv ct), osl⟩) (hcd : codeIn (KH w.params) cdv qual = true)
    (hbind : ∀ s, BindsTo s (fnOf name qual params body scope dV kV doc pm an cdv ct) ⟨vs, []⟩ binds) (hkind : (binds.all fun y => scope.names.lookup y.1 == some .local || scope.names.lookup y.1 == some .cell) = true)
    (hnd : ((cellsFrom 0 scope.names []).map (·.1)).Nodup)
    (hco : scope.isCoroutine = false) (hgen : scope.isGenerator = false) (hk : scope.kind = .function)
    (h : ∀ (c : Cx) cells, c.w = w → c.Ok k → c.env = envOfC qual scope c.L f cdv → (∀ p ∈ led, p.1 < c.L) → CellsAre (bindC (envOfC qual scope c.L f cdv).kindOf binds fun _ => none) (cellsFrom (c.L + 1) scope.names []) cells →
      TrS c (bindL (envOfC qual scope c.L f cdv).kindOf binds fun _ => none) (cells ++ led) body (FinP post)) : Fn w f vs led (k + 1) post := by
  intro c m hw O s F N
  subst hw
  obtain ⟨p, loose, mean, mg, mb, T⟩ := O.T
  have hr := O.room
  have hu := O.units
  refine wpAny_call (Mine.enterC F O.X N T ho hcd (show c.dp < recursionLimit by omega) (hbind s) hkind hnd hco hgen hk fun g L' h₁ tk₁ cells F' N' Y X' T' l1 => ?_)
  have := h ⟨c.w, c.dp + 1, c.un + 3, (c.A.deeper (envOfC qual scope L' f cdv)).frames, (c.A.deeper (envOfC qual scope L' f cdv)).guards, g, L', envOfC qual scope L' f cdv⟩ cells rfl
    ⟨X', ⟨_, _, _, _, _, T'⟩, by show c.dp + 1 + k < _; omega, by show c.un + 3 + 10 * k < _; omega, rfl, hk, rfl, rfl⟩ rfl l1 Y
  refine Tr.use (c := ⟨c.w, c.dp + 1, c.un + 3, (c.A.deeper (envOfC qual scope L' f cdv)).frames, (c.A.deeper (envOfC qual scope L' f cdv)).guards, g, L', envOfC qual scope L' f cdv⟩) this F' N' fun fl m' led' h' tk hp F2 N2 => ?_
  refine leaveK_ F2 N2 fun F3 N3 => ?_
  cases fl <;> exact (.mk ⟨rfl, hp⟩ F3 N3)
end

noncomputable def Its (c : Cx) (m : Map) (led : Led) (es : List Expr) (P : List Value → Map → Led → Prop) : Prop := ∀ pos, Tr c m led (spliced (backTo pos (starEach es c.env))) P
section
variable {c : Cx} {m : Map} {led : Led} {e e1 e2 : Expr} {d : Dm} {b : Bool} {pos px tp : Pos} {x : Str} {k n : Nat} {P : Flow → Map → Led → Prop} {rest : List Stmt} {es : List Expr}
theorem Its.nil {P : List Value → Map → Led → Prop} (h : P [] m led) : Its c m led [] P := fun pos s F N => spliced_none (.mk h F N)
theorem Its.cons {P : List Value → Map → Led → Prop} {P1 : Value → Map → Led → Prop} (h : Tr c m led (eval e c.env) P1) (h2 : ∀ v m' led', P1 v m' led' → Its c m' led' es fun vs => P (v :: vs)) (hs : starEach (e :: es) c.env = (false, eval e c.env) :: starEach es c.env := by rfl) : Its c m led (e :: es) P := fun pos s F N =>
  spliced_more (h.use F N fun v m' led' h' tk i F' N' => Tr.use (h2 v m' led' i pos) F' N' fun vs m2 led2 h2 tk2 q F2 N2 => .mk q F2 N2) hs
theorem Its.ev {P : List Value → Map → Led → Prop} (h : Ev c m led e d) (h2 : ∀ v, d.Is v → Its c m led es fun vs => P (v :: vs)) (hs : starEach (e :: es) c.env = (false, eval e c.env) :: starEach es c.env := by rfl) : Its c m led (e :: es) P :=
  Its.cons h (fun v m' led' ⟨h1, e2, e3⟩ => by subst e2; subst e3; exact h2 v h1) hs
theorem Tr.list {P : Value → Map → Led → Prop} (h : Its c m led es fun vs m' led' => vs.length ≤ 1000 ∧ ∀ l, (∀ p ∈ led', p.1 < l) → P (.ref l) m' ((l, listOf vs.toArray 0) :: led')) : Tr c m led (eval (.List es pos) c.env) P := fun s F N =>
  List_ (Tr.use (h pos) F N fun vs m' led' h' tk ⟨hz, i⟩ F' N' => newList_K F' N' (fun l h2 F2 N2 hl => .mk (i l hl) F2 N2) (by rw [sizeLine_eq]; omega))
theorem Tr.tuple {P : Value → Map → Led → Prop} (h : Its c m led es fun vs m' led' => vs.length ≤ 1000 ∧ ∀ l, (∀ p ∈ led', p.1 < l) → P (.ref l) m' ((l, tupOf vs) :: led')) : Tr c m led (eval (.Tuple es n pos) c.env) P := fun s F N =>
  Tuple_ (Tr.use (h pos) F N fun vs m' led' h' tk ⟨hz, i⟩ F' N' => wpAny_newTuple (.mk (i _ fun p hp => Heap.lt_size (N' p hp).1) (F'.push _) (N'.push F' _)) (by rw [sizeLine_eq]; omega))
theorem Tr.dict0 {P : Value → Map → Led → Prop} (O : c.Ok k) (h : ∀ d o, (∀ p ∈ led, p.1 < d) → (d == sysModules) = false → o.IsDictOf (PySem.strKind Challenge.rw_sa0304_01.row.prog c.w) [] → P (.ref d) m ((d, o) :: led)) : Tr c m led (eval (.Dict [] [] pos) c.env) P := by
  intro s F N
  obtain ⟨p, loose, mean, mg, mb, T⟩ := O.T
  exact newDict_K F N (topRead_of T).nolimit fun d h' o F' N' l1 lo hs _ _ _ => .mk (h d o l1 lo hs) F' N'

noncomputable def Asg (c : Cx) (m : Map) (led : Led) (es : List Expr) (vs : List Value) (P : Map → Led → Prop) : Prop := Tr c m led (assignInOrder ((assignEach es c.env).map (·.2)) vs) fun _ m' led' => P m' led'
theorem Asg.nil {P : Map → Led → Prop} (h : P m led) : Asg c m led [] [] P := fun s F N => wpAny_pure (.mk h F N)
theorem Asg.name {P : Map → Led → Prop} {v : Value} {vs : List Value} (O : c.Ok k) (hk : c.env.kindOf x = some .local) (h : Asg c (upd m x v) led es vs P) : Asg c m led (.Name x px :: es) (v :: vs) P := fun s F N =>
  wpAny_bind (wpAny_holding (wpAny_assign_Name (Tr.use (store_ (v := v) O hk) F N fun _ m2 led2 h2 tk2 q F2 N2 =>
    Tr.use (q.1 ▸ q.2 ▸ h : Asg c m2 led2 es vs P) F2 N2 fun _ m3 led3 h3 tk3 hp F3 N3 => .mk hp F3 N3)))
theorem St.tup (h : Tr c m led (eval e c.env) fun v m' led' => ∃ t vs, v = .ref t ∧ (t, tupOf vs) ∈ led' ∧ (assignEach es c.env).length = vs.length ∧ Asg c m' led' es vs fun m2 led2 => TrS c m2 led2 rest P)
    (hstar : (assignEach es c.env).findIdx? (·.1) = none := by rfl) (hs : swapsWithSole [.Tuple es n tp] e pos.line c.env = (Pure.pure false : Sem Bool) := by rfl) (hw : swappedStores [.Tuple es n tp] e c.env = (Pure.pure none : Sem _) := by rfl) :
    TrS c m led (.Assign [.Tuple es n tp] e pos :: rest) P :=
  St.one fun s F N => Assign_Tuple (h.use F N fun v m' led' h' tk ⟨t, vs, e1, ht, hl, ha⟩ F' N' => by
    subst e1
    refine unpackN_ F' N' ⟨_, (N' _ ht).1, rfl, 0, rfl⟩ rfl (by rw [hl, List.size_toArray]) hstar fun h2 F2 N2 => ?_
    exact Tr.use ha F2 N2 fun _ m3 led3 h3 tk3 hp F3 N3 => .mk hp F3 N3) hs hw
end

noncomputable def Asn (c : Cx) (m : Map) (led : Led) (ns : List Str) (vs : List Value) (P : Map → Led → Prop) : Prop := Tr c m led (assignInOrder (ns.map fun n => bindName c.env n) vs) fun _ m' led' => P m' led'
section
variable {c : Cx} {m : Map} {led : Led} {e : Expr} {pos tp : Pos} {x : Str} {k n : Nat} {P : Flow → Map → Led → Prop} {rest : List Stmt} {es : List Expr} {ns : List Str}
theorem Asn.nil {P : Map → Led → Prop} (h : P m led) : Asn c m led [] [] P := fun s F N => wpAny_pure (.mk h F N)
theorem Asn.name {P : Map → Led → Prop} {v : Value} {vs : List Value} (O : c.Ok k) (hk : c.env.kindOf x = some .local) (h : Asn c (upd m x v) led ns vs P) : Asn c m led (x :: ns) (v :: vs) P := fun s F N =>
  wpAny_bind (wpAny_holding (bindName_ (Tr.use (store_ (v := v) O hk) F N fun _ m2 led2 h2 tk2 q F2 N2 =>
    Tr.use (q.1 ▸ q.2 ▸ h : Asn c m2 led2 ns vs P) F2 N2 fun _ m3 led3 h3 tk3 hp F3 N3 => .mk hp F3 N3)))
/-- a, b = x, y into names of the frame -/
theorem St.swap (names : List Str) (h : Tr c m led (eval e c.env) fun v m' led' => ∃ t vs, v = .ref t ∧ (t, tupOf vs) ∈ led' ∧ names.length = vs.length ∧ Asn c m' led' names.reverse vs.reverse fun m2 led2 => TrS c m2 led2 rest P)
    (hw : swappedStores [.Tuple es n tp] e c.env = (Pure.pure (some names) : Sem _)) (hs : swapsWithSole [.Tuple es n tp] e pos.line c.env = (Pure.pure false : Sem Bool) := by rfl) :
    TrS c m led (.Assign [.Tuple es n tp] e pos :: rest) P :=
  St.one fun s F N => Assign_Tuple_swapped (names := names) (h.use F N fun v m' led' h' tk ⟨t, vs, e1, ht, hl, ha⟩ F' N' => by
    subst e1
    refine unpackItemsN_ F' N' ⟨_, (N' _ ht).1, rfl, 0, rfl⟩ rfl (by rw [hl, List.size_toArray]) fun h2 F2 N2 => ?_
    exact Tr.use ha F2 N2 fun _ m3 led3 h3 tk3 hp F3 N3 => .mk hp F3 N3) hs hw
end

theorem DeclAt.kindD {led : Led} {a : Addr} {r : Row} (h : DeclAt led a r) : AttrD led a (Str.ofString "kind") (.str r.sort) := let ⟨t, h⟩ := h.kind; ⟨_, ⟨t, rfl⟩, h⟩
theorem DeclAt.nameD {led : Led} {a : Addr} {r : Row} (h : DeclAt led a r) : AttrD led a (Str.ofString "name") (.str r.call) := let ⟨t, h⟩ := h.name; ⟨_, ⟨t, rfl⟩, h⟩
theorem DeclAt.keyD {led : Led} {a : Addr} {r : Row} (h : DeclAt led a r) : AttrD led a (Str.ofString "key") (.str r.key) := let ⟨t, h⟩ := h.key; ⟨_, ⟨t, rfl⟩, h⟩
theorem DeclAt.wordD {led : Led} {a : Addr} {r : Row} (h : DeclAt led a r) : AttrD led a (Str.ofString "word") (.str r.duty) := let ⟨t, h⟩ := h.word; ⟨_, ⟨t, rfl⟩, h⟩
theorem DeclAt.visD {led : Led} {a : Addr} {r : Row} (h : DeclAt led a r) : AttrD led a (Str.ofString "visibility") (.str r.seen) := let ⟨t, h⟩ := h.visibility; ⟨_, ⟨t, rfl⟩, h⟩
noncomputable def bodyD (r : Row) (b : Addr) : Dm := if r.full then .ref b else .none
theorem DeclAt.bodyD {led : Led} {a : Addr} {r : Row} (h : DeclAt led a r) : ∃ b, AttrD led a (Str.ofString "body") (bodyD r b) := by
  have h := h.body
  unfold Mine.bodyD
  split at h
  · rename_i e
    obtain ⟨b, hb⟩ := h
    exact ⟨b, _, by rw [if_pos e]; rfl, hb⟩
  · rename_i e
    exact ⟨0, _, by rw [if_neg e]; rfl, h⟩
theorem DeclAt.inst {led : Led} {a : Addr} {r : Row} (h : DeclAt led a r) : IsInst led a := h.kindD.inst
theorem inAttr {x : Str} (h : attrNames.contains x = true) : x ∈ attrNames := List.contains_iff_mem.mp h

theorem like_fn (w : World) {a b : Addr} {ra rb : Row} {led : Led} (ha : DeclAt led a ra) (hb : DeclAt led b rb) :
    Fn w 21 [.ref a, .ref b] led 1 (fun led' v => v = .bool (likeB ra rb) ∧ led' = led) := by
  have e0 : Challenge.rw_sa0304_01 = Challenge.rw_sa0304_01 ∧ KH = KH := ⟨rfl, rfl⟩
  revert e0; k_fill; intro _
  k_dflt (refine' Fn.enter (binds := [(Str.ofString "member", .ref a), (Str.ofString "decl", .ref b)]) ?ho ?hcd ?hb ?hl ?c2 ?c3 ?c4 ?c5 ?_; (case ho => k_is); (case hcd => k_is); (case hb => exact fun s => BindsTo.of_eq rfl); (case hl => exact locs rfl); (case c2 => exact rfl); (case c3 => exact rfl); (case c4 => exact rfl); (case c5 => decide))
  intro c hw O he l1
  have n1 {p} : Ev c _ led (.Name (Str.ofString "member") p) (.ref a) := .loc O (m := fun y => [(Str.ofString "member", Value.ref a), (Str.ofString "decl", Value.ref b)].reverse.lookup y) (by rw [he]; rfl) rfl rfl
  have n2 {p} : Ev c _ led (.Name (Str.ofString "decl") p) (.ref b) := .loc O (m := fun y => [(Str.ofString "member", Value.ref a), (Str.ofString "decl", Value.ref b)].reverse.lookup y) (by rw [he]; rfl) rfl rfl
  refine St.ret (Tr.mono (Ev.and (b1 := ra.sort == rb.sort) (b2 := ra.key == rb.key && ra.duty == rb.duty) (.cmp (n1.attr O ha.kindD (inAttr rfl)) (n2.attr O hb.kindD (inAttr rfl)) .eqStr) fun _ =>
    .and (.cmp (n1.attr O ha.keyD (inAttr rfl)) (n2.attr O hb.keyD (inAttr rfl)) .eqStr) fun _ => .one (.cmp (n1.attr O ha.wordD (inAttr rfl)) (n2.attr O hb.wordD (inAttr rfl)) .eqStr)) fun v m' led' ⟨h1, _, h3⟩ => ⟨?_, h3⟩)
  rw [h1]
  unfold likeB
  rw [Bool.and_assoc]

/-- a contract's order and what its members are -/
structure LinAt (led : Led) (c : Addr) (lin : List Addr) (mem : Addr → List (Addr × Row)) : Prop where
  linear : ∃ l n, AttrD led c (Str.ofString "linear") (.ref l) ∧ (l, listOf (refsOf lin).toArray n) ∈ led
  bases : ∀ b ∈ lin, ∃ l n, AttrD led b (Str.ofString "members") (.ref l) ∧ (l, listOf (refsOf ((mem b).map (·.1))).toArray n) ∈ led
  mems : ∀ b ∈ lin, ∀ q ∈ mem b, DeclAt led q.1 q.2
  short : lin.length ≤ 100 ∧ ∀ b ∈ lin, (mem b).length ≤ 100
theorem LinAt.mono {led led' : Led} {c : Addr} {lin : List Addr} {mem : Addr → List (Addr × Row)} (h : LinAt led c lin mem) (hs : ∀ p ∈ led, p ∈ led') : LinAt led' c lin mem := by
  obtain ⟨⟨l, n, h1, h2⟩, h3, h4, h5⟩ := h
  refine ⟨⟨l, n, h1.mono hs, hs _ h2⟩, fun b hb => ?_, fun b hb q hq => (h4 b hb q hq).mono hs, h5⟩
  obtain ⟨l, n, a, b⟩ := h3 b hb
  exact ⟨l, n, a.mono hs, hs _ b⟩
theorem LinAt.inst {led : Led} {c : Addr} {lin : List Addr} {mem : Addr → List (Addr × Row)} (h : LinAt led c lin mem) : ∀ b ∈ lin, IsInst led b := fun b hb => let ⟨_, _, a, _⟩ := h.bases b hb; a.inst

noncomputable def optV : Option (Addr × Row) → Value
  | some q => .ref q.1
  | none => .none
/-- a body's end: a value, and what stood still stands -/
noncomputable def FinQ (led0 : Led) (p : Value → Prop) : Flow → Map → Led → Prop
  | .ret v, _, led => p v ∧ ∀ q ∈ led0, q ∈ led
  | _, _, _ => False
theorem FinQ.fin {c : Cx} {m : Map} {led led0 : Led} {ss : List Stmt} {p : Value → Prop} (h : TrS c m led ss (FinQ led0 p)) : TrS c m led ss (FinP fun led' v => p v ∧ led' = led0) :=
  Tr.drop h fun f m' led' hp => by
    cases f with
    | ret v => exact ⟨led0, ⟨hp.1, rfl⟩, hp.2⟩
    | _ => exact hp.elim

section
variable {c : Cx} {m : Map} {led led0 : Led} {k : Nat} {iter cond : Expr} {rest : List Stmt} {P : Flow → Map → Led → Prop} {R : List Addr} {mem : Addr → List (Addr × Row)} {pr : Row → Bool} {d : Addr} {p1 p2 p3 p4 p5 p6 p7 p8 p9 : Pos}
/-- the search: for base in ..: for member in base.members: if cond: return member -/
theorem St.search (O : c.Ok k) (kb : c.env.kindOf (Str.ofString "base") = some .local) (km : c.env.kindOf (Str.ofString "member") = some .local)
    (hb : ∀ b ∈ R, ∃ l n, AttrD led0 b (Str.ofString "members") (.ref l) ∧ (l, listOf (refsOf ((mem b).map (·.1))).toArray n) ∈ led0)
    (hs0 : ∀ p ∈ led0, p ∈ led) (hm : m (Str.ofString "decl") = some (.ref d))
    (hiter : Tr c m led (eval iter c.env) fun v m' led' => m' = m ∧ ∃ l n, v = .ref l ∧ (l, listOf (refsOf R).toArray n) ∈ led' ∧ ∀ p ∈ led, p ∈ led')
    (hs : ∀ v, foldedSetIterable iter c.env v = (Pure.pure v : Sem Value))
    (hcond : ∀ m' led' b q, b ∈ R → q ∈ mem b → m' (Str.ofString "member") = some (.ref q.1) → m' (Str.ofString "decl") = some (.ref d) → (∀ p ∈ led0, p ∈ led') → Tst c m' led' cond (pr q.2))
    (hret : ∀ m' led' q, (R.flatMap mem).find? (fun q => pr q.2) = some q → (∀ p ∈ led0, p ∈ led') → P (.ret (.ref q.1)) m' led')
    (hrest : ∀ m' led', (R.flatMap mem).find? (fun q => pr q.2) = none → m' (Str.ofString "decl") = some (.ref d) → (∀ p ∈ led0, p ∈ led') → TrS c m' led' rest P)
    (hs2 : ∀ v, foldedSetIterable (.Attribute (.Name (Str.ofString "base") p3) (Str.ofString "members") p4) c.env v = (Pure.pure v : Sem Value))
    (hs3 : eval (.Attribute (.Name (Str.ofString "base") p3) (Str.ofString "members") p4) c.env = (do let o ← eval (.Name (Str.ofString "base") p3) c.env; standAt p4.atName; let r ← holding [o] (getAttr o (Str.ofString "members") true); letTemporaryGo (.Name (Str.ofString "base") p3) o r; Pure.pure r)) :
    TrS c m led (.For (.Name (Str.ofString "base") p1) iter [.For (.Name (Str.ofString "member") p2) (.Attribute (.Name (Str.ofString "base") p3) (Str.ofString "members") p4) [.If cond [.Return (some (.Name (Str.ofString "member") p5)) p6] [] p7] [] p8] [] p9 :: rest) P := by
  refine St.for_ O kb (Tr.mono hiter fun v m' led' ⟨e, l, n, hv, hl, hs'⟩ => ?_) hs
  subst e
  refine ⟨l, false, refsOf R, n, fun i m2 led2 => (∀ p ∈ led', p ∈ led2) ∧ m2 (Str.ofString "decl") = some (.ref d) ∧ ∀ q ∈ (R.take i).flatMap mem, pr q.2 = false, hv, ⟨fun p hp => hp, hm, by simp⟩, fun i m2 led2 hj => hj.1 _ hl, ?_, ?_⟩
  · rintro i u m2 led2 I oI hi ⟨hsl, hdm, hno⟩ hap
    rw [refsOf_get] at hi
    obtain ⟨b, hbi, rfl⟩ := Option.map_eq_some_iff.mp hi
    obtain ⟨ml, mn, b1, b2⟩ := hb b (List.mem_of_getElem? hbi)
    have s0 : ∀ p ∈ led0, p ∈ (I, oI) :: led2 := fun p hp => .tail _ (hsl _ (hs' _ (hs0 _ hp)))
    refine St.for_ O km (Tr.mono (Ev.attr O (Ev.loc O kb upd_at rfl) (b1.mono s0) (inAttr rfl) hs3) fun v m3 led3 ⟨e1, e2, e3⟩ => ?_) hs2
    subst e2; subst e3
    refine ⟨ml, false, refsOf ((mem b).map (·.1)), mn, fun j m4 led4 => (∀ p ∈ (I, oI) :: led2, p ∈ led4) ∧ m4 (Str.ofString "decl") = some (.ref d) ∧ ∀ q ∈ (mem b).take j, pr q.2 = false, e1, ⟨fun p hp => hp, upd_ne hdm (by decide), by simp⟩, fun j m4 led4 hj => by exact hj.1 _ (s0 _ b2), ?_, ?_⟩
    · rintro j u m4 led4 I4 oI4 hj ⟨hsl4, hdm4, hno4⟩ hap4
      rw [refsOf_get, List.getElem?_map, Option.map_map] at hj
      obtain ⟨q, hqj, rfl⟩ := Option.map_eq_some_iff.mp hj
      have s4 : ∀ p ∈ led0, p ∈ (I4, oI4) :: led4 := fun p hp => .tail _ (hsl4 _ (s0 _ hp))
      refine St.if0 (hcond _ _ b q (List.mem_of_getElem? hbi) (List.mem_of_getElem? hqj) upd_at (upd_ne hdm4 (by decide)) s4) (fun hp => ?_) fun hp => ?_
      · exact St.ret (Tr.mono (Ev.loc (d := .ref q.1) O km upd_at rfl) fun v m5 led5 ⟨e1, e2, e3⟩ => by
          cases e1; subst e3
          exact hret _ _ q (find_at hbi hno hqj hno4 hp) s4)
      · exact St.nil ⟨led4, fun p hp => hp, hap4, hsl4, upd_ne hdm4 (by decide), all_take hno4 hqj hp⟩
    · rintro m4 led4 ⟨hsl4, hdm4, hno4⟩
      refine St.nil ⟨led2, hsl4, hap, hsl, hdm4, flat_take hno hbi ?_⟩
      rw [refsOf_len, List.length_map, List.take_length] at hno4
      exact hno4
  · rintro m2 led2 ⟨hsl, hdm, hno⟩
    rw [refsOf_len] at hno
    exact hrest _ _ (find_none hno) hdm fun p hp => hsl _ (hs' _ (hs0 _ hp))
end

noncomputable def innerB (r : Row) : Bool := [(Str.ofString "public"), (Str.ofString "internal")].any (· == r.seen) && r.full
noncomputable def npB (r : Row) : Bool := r.seen != (Str.ofString "private")
noncomputable def privB (r : Row) : Bool := r.seen == (Str.ofString "private")
theorem keep21 (P : Params) : keepIn (KH P) (.ref 21) = true := by kernel_rfl
theorem glob21 (P : Params) : nsIn (KH P) mainGlobals (Str.ofString "is_like") = some (some (.ref 21)) := by kernel_rfl
theorem like_ev {c : Cx} {m : Map} {led : Led} {e1 e2 : Expr} {a b : Addr} {ra rb : Row} {k : Nat} {p1 p2 : Pos} (O : c.Ok (k + 1)) (hk : c.env.kindOf (Str.ofString "is_like") = some .globalImplicit) (h1 : Ev c m led e1 (.ref a)) (h2 : Ev c m led e2 (.ref b)) (ha : DeclAt led a ra) (hb : DeclAt led b rb)
    (hs : eval ((Expr.Name (Str.ofString "is_like") p1).Call [e1, e2] [] p2) c.env = (do let f ← eval (.Name (Str.ofString "is_like") p1) c.env; callWith p2 f [] (backTo p2 (starEach [e1, e2] c.env)) (backToKw p2 (keywordEach [] c.env))) := by rfl)
    (he : starEach [e1, e2] c.env = (false, eval e1 c.env) :: starEach [e2] c.env := by rfl) (he2 : starEach [e2] c.env = (false, eval e2 c.env) :: starEach [] c.env := by rfl) (hp : (backTo p2 (starEach [e2] c.env)).any (·.1) = false := by rfl) :
    Ev c m led (.Call (.Name (Str.ofString "is_like") p1) [e1, e2] [] p2) (.bool (likeB ra rb)) :=
  Tr.mono (Tr.call (post := fun led' v => v = .bool (likeB ra rb) ∧ led' = led) (O.less (Nat.succ_le_succ (Nat.zero_le k))) (glob_ O hk (glob21 _)) (keep21 _) (.cons h1 (.cons h2 .nil he2) he) (fun vs q => by
    cases q with | cons i1 q => cases q with | cons i2 q => cases q; cases i1; cases i2; exact like_fn c.w ha hb) hs he hp) fun v m' led' ⟨e1, e2, e3⟩ => ⟨e2, e1, e3⟩

theorem super_fn (w : World) {c0 o d : Addr} {rd : Row} {lin : List Addr} {mem : Addr → List (Addr × Row)} {led : Led} (hc : LinAt led c0 lin mem) (ho : IsInst led o) (hdd : DeclAt led d rd) :
    Fn w 42 [.ref c0, .ref o, .ref d] led 3 (fun led' v => v = optV (if o ∈ lin then ((lin.drop (lin.idxOf o + 1)).flatMap mem).find? (fun q => likeB q.2 rd && innerB q.2) else none) ∧ led' = led) := by
  have e0 : Challenge.rw_sa0304_01 = Challenge.rw_sa0304_01 ∧ KH = KH := ⟨rfl, rfl⟩
  revert e0; k_fill; intro _
  k_dflt (refine' Fn.enter (binds := [(Str.ofString "contract", .ref c0), (Str.ofString "owner", .ref o), (Str.ofString "decl", .ref d)]) ?ho ?hcd ?hb ?hl ?c2 ?c3 ?c4 ?c5 ?_; (case ho => k_is); (case hcd => k_is); (case hb => exact fun s => BindsTo.of_eq rfl); (case hl => exact locs rfl); (case c2 => exact rfl); (case c3 => exact rfl); (case c4 => exact rfl); (case c5 => decide))
  intro c hw O he l1
  obtain ⟨l, n, a1, a2⟩ := hc.linear
  generalize hm0 : (fun y => List.lookup y [((Str.ofString "contract"), Value.ref c0), ((Str.ofString "owner"), Value.ref o), ((Str.ofString "decl"), Value.ref d)].reverse) = m0
  have n1 {p} : Ev c m0 led (.Name (Str.ofString "contract") p) (.ref c0) := .loc O (by rw [he]; rfl) (by subst hm0; rfl) rfl
  have n2 {p} : Ev c m0 led (.Name (Str.ofString "owner") p) (.ref o) := .loc O (by rw [he]; rfl) (by subst hm0; rfl) rfl
  have n3 {p p'} : Ev c m0 led (.Attribute (.Name (Str.ofString "contract") p) (Str.ofString "linear") p') (.ref l) := n1.attr O a1 (inAttr rfl)
  have kl : c.env.kindOf (Str.ofString "is_like") = some .globalImplicit := by rw [he]; rfl
  refine FinQ.fin (St.if0 (Tst.cmp n2 n3 (.notInRefs O a2 hc.inst ho)) (fun hn => ?_) fun hn => ?_)
  · refine St.ret (Tr.mono Ev.none_ fun v m' led' ⟨e1, e2, e3⟩ => ?_)
    subst e3
    rw [if_neg (by simpa using hn)]
    exact ⟨e1, fun p hp => hp⟩
  · have hin : o ∈ lin := by simpa using hn
    have hlt : ∀ b ∈ lin.drop (lin.idxOf o + 1), b ∈ lin := fun b => List.mem_of_mem_drop
    rw [if_pos hin]
    refine St.search (led0 := led) (pr := fun r => likeB r rd && innerB r) (mem := mem) (R := lin.drop (lin.idxOf o + 1)) O (by rw [he]; rfl) (by rw [he]; rfl) (fun b hb => hc.bases b (hlt b hb)) (fun p hp => hp) (by subst hm0; rfl)
      ?hiter (by intro _; rfl) ?_ ?_ ?_ (by intro _; rfl) rfl
    case hiter =>
      refine Tr.mono (Tr.sliceFrom (y := (lin.idxOf o : Nat) + 1) n3 ?_ a2 (by omega) (by rw [refsOf_len]; have := hc.short.1; omega)) ?_
      · exact .add (.indexRefs O n3 n2 a2 hc.inst hin (by have := hc.short.1; omega)) .int_
      · rintro v m' led' ⟨D, e1, e2, e3, e4⟩
        refine ⟨e2, D, 0, e1, ?_, fun p hp => e3 ▸ .tail _ hp⟩
        rw [e3, show ((lin.idxOf o : Int) + 1).toNat = lin.idxOf o + 1 by omega, show List.drop (lin.idxOf o + 1) (refsOf lin) = refsOf (lin.drop (lin.idxOf o + 1)) from (List.map_drop ..).symm]
        exact .head _
    · intro m' led' b q hb hq h1 h2 hs
      have d1 := (hc.mems b (hlt b hb) q hq).mono hs
      obtain ⟨bb, hbb⟩ := d1.bodyD
      have v1 {p} : Ev c m' led' (.Name (Str.ofString "member") p) (.ref q.1) := .loc O (by rw [he]; rfl) h1 rfl
      have v2 {p} : Ev c m' led' (.Name (Str.ofString "decl") p) (.ref d) := .loc O (by rw [he]; rfl) h2 rfl
      have hv : (likeB q.2 rd && innerB q.2) = (likeB q.2 rd && ([(Str.ofString "public"), (Str.ofString "internal")].any (· == q.2.seen) && ((match Mine.bodyD q.2 bb with | .none => false | _ => true) && true))) := by
        unfold innerB Mine.bodyD
        cases q.2.full <;> rfl
      rw [hv]
      exact .and (.cons (.of (like_ev O kl v1 v2 d1 (hdd.mono hs) rfl rfl rfl rfl)) fun _ => .cons (.inTwo (v1.attr O d1.visD (inAttr rfl))) fun _ => .cons (.cmp (v1.attr O hbb (inAttr rfl)) .none_ .notNone) fun _ => .nil)
    · intro m' led' q hf hs
      exact ⟨by rw [hf]; rfl, hs⟩
    · intro m' led' hf _ hs
      refine St.ret (Tr.mono Ev.none_ fun v m2 led2 ⟨e1, e2, e3⟩ => ?_)
      subst e3
      exact ⟨by rw [hf]; exact e1, hs⟩

noncomputable def ownD : Option Addr → Dm
  | some b => .ref b
  | none => .none
noncomputable def ownOut (lin : List Addr) : Option Addr → Bool
  | none => true
  | some b => !decide (b ∈ lin)
noncomputable def virtR (lin : List Addr) (mem : Addr → List (Addr × Row)) (d : Addr) (rd : Row) (own : Option Addr) : Addr :=
  if (privB rd || ownOut lin own) then d else (((lin.flatMap mem).find? (fun q => likeB q.2 rd && npB q.2)).map (·.1)).getD d

theorem virtual_fn (w : World) {c0 d : Addr} {rd : Row} {own : Option Addr} {lin : List Addr} {mem : Addr → List (Addr × Row)} {led : Led} (hc : LinAt led c0 lin mem) (ho : ∀ b, own = some b → IsInst led b) (hdd : DeclAt led d rd) (how : AttrD led d (Str.ofString "owner") (ownD own)) :
    Fn w 35 [.ref c0, .ref d] led 3 (fun led' v => v = .ref (virtR lin mem d rd own) ∧ led' = led) := by
  have e0 : Challenge.rw_sa0304_01 = Challenge.rw_sa0304_01 ∧ KH = KH := ⟨rfl, rfl⟩
  revert e0; k_fill; intro _
  k_dflt (refine' Fn.enter (binds := [(Str.ofString "contract", .ref c0), (Str.ofString "decl", .ref d)]) ?ho ?hcd ?hb ?hl ?c2 ?c3 ?c4 ?c5 ?_; (case ho => k_is); (case hcd => k_is); (case hb => exact fun s => BindsTo.of_eq rfl); (case hl => exact locs rfl); (case c2 => exact rfl); (case c3 => exact rfl); (case c4 => exact rfl); (case c5 => decide))
  intro c hw O he l1
  obtain ⟨l, n, a1, a2⟩ := hc.linear
  generalize hm0 : (fun y => List.lookup y [((Str.ofString "contract"), Value.ref c0), ((Str.ofString "decl"), Value.ref d)].reverse) = m0
  have n1 {p} : Ev c m0 led (.Name (Str.ofString "contract") p) (.ref c0) := .loc O (by rw [he]; rfl) (by subst hm0; rfl) rfl
  have n2 {p} : Ev c m0 led (.Name (Str.ofString "decl") p) (.ref d) := .loc O (by rw [he]; rfl) (by subst hm0; rfl) rfl
  have n3 {p p'} : Ev c m0 led (.Attribute (.Name (Str.ofString "contract") p) (Str.ofString "linear") p') (.ref l) := n1.attr O a1 (inAttr rfl)
  have n4 {p p'} : Ev c m0 led (.Attribute (.Name (Str.ofString "decl") p) (Str.ofString "owner") p') (ownD own) := n2.attr O how (inAttr rfl)
  have kl : c.env.kindOf (Str.ofString "is_like") = some .globalImplicit := by rw [he]; rfl
  have hmd : m0 (Str.ofString "decl") = some (.ref d) := by subst hm0; rfl
  clear hm0
  unfold virtR
  refine FinQ.fin (St.if0 (b := privB rd || ownOut lin own) (.or ?hor) (fun hn => ?_) fun hn => ?_)
  case hor =>
    refine OrT.cons (.cmp (n2.attr O hdd.visD (inAttr rfl)) .str_ .eqStr) fun _ => ?_
    cases own with
    | none => exact OrT.cons (b1 := true) (b2 := false) (.cmp n4 .none_ .isNone) fun h => nomatch h
    | some b =>
      show OrT c m0 led _ (!decide (b ∈ lin))
      rw [← Bool.false_or (!decide (b ∈ lin)), ← Bool.or_false (!decide (b ∈ lin))]
      exact OrT.cons (.cmp n4 .none_ .isNone) fun _ => OrT.cons (.cmp n4 n3 (.notInRefs O a2 hc.inst (ho b rfl))) fun _ => .nil
  · refine St.ret (Tr.mono n2 fun v m' led' ⟨e1, e2, e3⟩ => ?_)
    subst e3
    rw [if_pos hn]
    exact ⟨e1, fun p hp => hp⟩
  · rw [if_neg (by rw [hn]; exact Bool.false_ne_true)]
    refine St.search (led0 := led) (pr := fun r => likeB r rd && npB r) (mem := mem) (R := lin) O (by rw [he]; rfl) (by rw [he]; rfl) hc.bases (fun p hp => hp) hmd
      (Tr.mono n3 fun v m' led' ⟨e1, e2, e3⟩ => ⟨e2, l, n, e1, e3 ▸ a2, fun p hp => e3 ▸ hp⟩) (by intro _; rfl) ?_ ?_ ?_ (by intro _; rfl) rfl
    · intro m' led' b q hb hq h1 h2 hs
      have d1 := (hc.mems b hb q hq).mono hs
      have v1 {p} : Ev c m' led' (.Name (Str.ofString "member") p) (.ref q.1) := .loc O (by rw [he]; rfl) h1 rfl
      have v2 {p} : Ev c m' led' (.Name (Str.ofString "decl") p) (.ref d) := .loc O (by rw [he]; rfl) h2 rfl
      rw [← Bool.and_true (npB q.2)]
      exact .and (.cons (.of (like_ev O kl v1 v2 d1 (hdd.mono hs) rfl rfl rfl rfl)) fun _ => .cons (.cmp (v1.attr O d1.visD (inAttr rfl)) .str_ .neStr) fun _ => .nil)
    · intro m' led' q hf hs
      exact ⟨by rw [hf]; rfl, hs⟩
    · intro m' led' hf h2 hs
      refine St.ret (Tr.mono (Ev.loc (d := .ref d) O (by rw [he]; rfl) h2 rfl) fun v m2 led2 ⟨e1, e2, e3⟩ => ?_)
      subst e3
      exact ⟨by rw [hf]; exact e1, hs⟩

/-- a dict of marks by their keys -/
noncomputable def keysD (ks : List Str) : List (PyData × PyData) := ks.map fun k => (.str k, .bool true)
theorem keysD_lookup (k : Str) : ∀ ks : List Str, (PySem.Spec.lookup (.str k) (keysD ks)).isSome = ks.any (· == k)
  | [] => rfl
  | a :: r => by
    show (if PySem.Spec.same (.str a) (.str k) = true then _ else PySem.Spec.lookup (.str k) (keysD r)).isSome = _
    rw [PyProof.V.same_str, List.any_cons, ← keysD_lookup k r]
    by_cases h : a = k
    · simp [h]
    · simp [h]
theorem keysD_put (k : Str) (ks : List Str) (h : ks.any (· == k) = false) : PyProof.V.putD (.str k) (.bool true) (keysD ks) = keysD (ks ++ [k]) := by
  have e : (keysD ks).any (fun p => PySem.Spec.same p.1 (.str k)) = false := by
    rw [← h]
    unfold keysD
    rw [List.any_map]
    congr 1
  unfold PyProof.V.putD
  rw [e]
  simp [keysD]
/-- a dict object of marks -/
noncomputable def MarksAt (w : World) (ks : List Str) (o : Obj) : Prop :=
  o.IsDictOf (PySem.strKind Challenge.rw_sa0304_01.row.prog w) (ks.map fun k => (k, Value.bool true)) ∧ PyProof.V.FlatPairs PyData.str (ks.map fun k => (k, Value.bool true)) (keysD ks)

section
variable {c : Cx} {m : Map} {led : Led} {e e1 e2 : Expr} {k n : Nat} {P : Flow → Map → Led → Prop} {rest : List Stmt} {pos : Pos} {a d : Addr} {o : Obj} {ks : List Str} {key : Str}
theorem CmpD.inMarks (hl : (d, o) ∈ led) (ho : MarksAt c.w ks o) (hd : (d == sysModules) = false) : CmpD c m led .In (.str key) (.ref d) (ks.any (· == key)) := fun v1 v2 h1 h2 s F N => by
  obtain ⟨t, rfl⟩ := h1; cases h2
  refine in_strTab (TabAt.ofNews N hl hd ho.1 ho.2) ?_
  rw [keysD_lookup]
  exact .mk ⟨rfl, rfl, rfl⟩ F N
/-- an object of the ledger taken out, another put in -/
noncomputable def put (led : Led) (d : Addr) (o : Obj) : Led := (d, o) :: led.filter fun p => p.1 != d
theorem put_ne {d : Addr} {o : Obj} {p : Addr × Obj} (h : p ∈ led) (hn : p.1 ≠ d) : p ∈ put led d o := .tail _ (List.mem_filter.mpr ⟨h, by simpa using hn⟩)
theorem put_upd {d : Addr} {o o' : Obj} {g : Heap} {L : Addr} {h : Heap} (N : News g L h led) (hm : (d, o) ∈ led) : News g L h (put led d o) ∧ Upd d o o' (put led d o) (put led d o') ∧ UpdF d o (put led d o) (put led d) := by
  have hf : ∀ p ∈ led.filter (fun p => p.1 != d), p.1 ≠ d := fun p hp => by simpa using (List.mem_filter.mp hp).2
  refine ⟨fun p hp => ?_, .head hf, .head hf⟩
  rcases List.mem_cons.mp hp with rfl | hp
  · exact N _ hm
  · exact N _ (List.mem_filter.mp hp).1
theorem St.append {v : Dm} {vs : List Value} {apos : Pos} {pl : Sem Bool} (h1 : Ev c m led e1 (.ref a)) (h2 : Ev c m led e2 v) (hl : (a, listOf vs.toArray n) ∈ led) (hz : vs.length ≤ 20000)
    (hn : ∀ u, v.Is u → TrS c m (put led a (listOf (vs ++ [u]).toArray (n + 1))) rest P)
    (hs : eval ((e1.Attribute (Str.ofString "append") apos).Call [e2] [] pos) c.env = (do
          let ov ← eval e1 c.env
          standAt apos.atName
          let __x ← holding [ov] (getMethod ov (Str.ofString "append") pl)
          match __x with
            | (f, first) => callWith pos f first (backTo pos (starEach [e2] c.env)) []) := by rfl)
    (he : starEach [e2] c.env = (false, eval e2 c.env) :: starEach [] c.env := by rfl) (hp : (backTo pos (starEach [] c.env)).any (·.1) = false := by rfl)
    (hi : interactive c.env = false := by rfl) {p2 : Pos} (hw : swapsWith ((e1.Attribute (Str.ofString "append") apos).Call [e2] [] pos) none p2.line c.env = (Pure.pure false : Sem Bool) := by rfl) :
    TrS c m led (.Expr (.Call (.Attribute e1 (Str.ofString "append") apos) [e2] [] pos) p2 :: rest) P := by
  refine St.expr (fun s F N => MethodCall_ (pl := pl) (h1.use F N fun v h' tk i F' N' => ?_) hs) hi hw
  cases i
  refine kf_method N' hl slot_list_append type_list_append ?_
  refine callWith_method1 (spliced_more (h2.use F' N' fun v2 h3 tk3 i2 F3 N3 => spliced_none ?_) he) he hp
  obtain ⟨N4, U, _⟩ := put_upd (o' := listOf (vs.toArray.push v2) (n + 1)) N3 hl
  refine append_K F3 N4 U (fun h4 F5 N5 => ?_) (by rw [List.size_toArray, sizeLine_eq]; omega)
  refine .mk (hn v2 i2) F5 ?_
  rw [List.push_toArray] at N5
  exact N5
theorem St.mark {p2 : Pos} {b : Nat} {pb : Pos} (h1 : Ev c m led e1 (.ref d)) (h2 : Ev c m led e2 (.str key)) (hl : (d, o) ∈ led) (ho : MarksAt c.w ks o) (hd : (d == sysModules) = false) (hk : ks.any (· == key) = false) (hz : ks.length ≤ 20000)
    (hn : ∀ o', MarksAt c.w (ks ++ [key]) o' → TrS c m (put led d o') rest P)
    (hs : swapsWith (.Constant (.bool true) b pb) (some (.Subscript e1 e2 p2)) pos.line c.env = (Pure.pure false : Sem Bool) := by rfl) :
    TrS c m led (.Assign [.Subscript e1 e2 p2] (.Constant (.bool true) b pb) pos :: rest) P :=
  St.one fun s F N => wpAny_Assign_Subscript (Constant_bool (h1.use F N fun v1 h' tk i1 F' N' => h2.use F' N' fun v2 h3 tk3 i2 F3 N3 => by
    cases i1
    obtain ⟨t, rfl⟩ := i2
    obtain ⟨N4, _, U⟩ := put_upd (o' := o) N3 hl
    refine setItem_K PyProof.V.same_str (strKind_is _ _ _ _) (PyProof.V.Flat.bool _) F3 N4 U ho.1 ho.2 (fun h5 o' F5 N5 q1 q2 => ?_) (by unfold keysD; rw [List.length_map, sizeLine_eq]; omega)
    rw [keysD_put _ _ hk] at q2
    have e2 : stored (ks.map fun k => (k, Value.bool true)) key (.bool true) = (ks ++ [key]).map fun k => (k, Value.bool true) := by
      unfold stored
      rw [if_neg (by
        intro hc
        obtain ⟨y, hy, hy2⟩ := List.any_eq_true.mp hc
        obtain ⟨z, hz, rfl⟩ := List.mem_map.mp hy
        exact List.any_eq_false.mp hk z hz (by simpa using hy2)), List.map_append]
      rfl
    rw [e2] at q1 q2
    exact .mk (hn o' ⟨q1, q2⟩) F5 N5)) hs
end

/-- what functions_in passes over -/
noncomputable def skip1 (nm : Str) (ks : List Str) (r : Row) : Bool := r.sort != (Str.ofString "function") || (r.duty != (Str.ofString "function") || (r.call != nm || ks.any (· == r.key)))
noncomputable def skip2 (home : Bool) (r : Row) : Bool := r.seen == (Str.ofString "private") && !home
noncomputable def skip3 (st : Int) (r : Row) : Bool := decide (0 < st) && (!r.full || r.seen == (Str.ofString "external"))
noncomputable def stepF (st : Int) (home : Bool) (nm : Str) (acc : List (Addr × Row)) (q : Addr × Row) : List (Addr × Row) :=
  if skip1 nm (acc.map (·.2.key)) q.2 || (skip2 home q.2 || skip3 st q.2) then acc else acc ++ [q]
noncomputable def foldF (st : Int) (c : Addr) (nm : Str) (mem : Addr → List (Addr × Row)) (rest : List Addr) : List (Addr × Row) :=
  rest.foldl (fun acc b => (mem b).foldl (stepF st (b == c) nm) acc) []
theorem inner_len (st : Int) (home : Bool) (nm : Str) : ∀ (l acc : List (Addr × Row)), (l.foldl (stepF st home nm) acc).length ≤ acc.length + l.length
  | [], acc => Nat.le_refl _
  | q :: r, acc => by
    have h1 : (stepF st home nm acc q).length ≤ acc.length + 1 := by
      unfold stepF
      split <;> simp
    have h2 := inner_len st home nm r (stepF st home nm acc q)
    simp only [List.foldl_cons, List.length_cons]
    omega
theorem take_foldl {α β : Type} {f : β → α → β} {b : β} {l : List α} {j : Nat} {a : α} (ha : l[j]? = some a) : (l.take (j + 1)).foldl f b = f ((l.take j).foldl f b) a := by
  rw [List.take_add_one, ha, List.foldl_append]
  rfl

/-- the state of functions_in -/
structure FJ (w : World) (base : Led) (c0 : Addr) (nm : Str) (tn : Tok) (st : Int) (ts : Tok) (fa ka : Addr) (acc : List (Addr × Row)) (m : Map) (led : Led) : Prop where
  mf : m (Str.ofString "found") = some (.ref fa)
  mkn : m (Str.ofString "known") = some (.ref ka)
  mc : m (Str.ofString "contract") = some (.ref c0)
  mn : m (Str.ofString "name") = some (.str nm tn)
  ms : m (Str.ofString "start") = some (.int st ts)
  hf : ∃ n, (fa, listOf (refsOf (acc.map (·.1))).toArray n) ∈ led
  hk : ∃ o, MarksAt w (acc.map (·.2.key)) o ∧ (ka, o) ∈ led
  hb : ∀ p ∈ base, p ∈ led
section
variable {w : World} {base base' : Led} {c0 : Addr} {nm : Str} {tn : Tok} {st : Int} {ts : Tok} {fa ka I : Addr} {oI : Obj} {acc : List (Addr × Row)} {m : Map} {led : Led}
theorem FJ.rest (h : FJ w base c0 nm tn st ts fa ka acc m led) (hb : ∀ p ∈ base', p ∈ base ∧ p.1 ≠ I) (hf : fa ≠ I) (hk : ka ≠ I) : FJ w base' c0 nm tn st ts fa ka acc m (led.filter fun p => p.1 != I) := by
  obtain ⟨h1, h2, h3, h4, h5, ⟨n, h6⟩, ⟨o, h7, h8⟩, h9⟩ := h
  exact ⟨h1, h2, h3, h4, h5, ⟨n, List.mem_filter.mpr ⟨h6, by simpa using hf⟩⟩, ⟨o, h7, List.mem_filter.mpr ⟨h8, by simpa using hk⟩⟩, fun p hp => List.mem_filter.mpr ⟨h9 p (hb p hp).1, by simpa using (hb p hp).2⟩⟩
theorem FJ.more (h : FJ w base c0 nm tn st ts fa ka acc m led) {x : Str} {v : Value} (hx : x ≠ (Str.ofString "found") ∧ x ≠ (Str.ofString "known") ∧ x ≠ (Str.ofString "contract") ∧ x ≠ (Str.ofString "name") ∧ x ≠ (Str.ofString "start")) : FJ w ((I, oI) :: base) c0 nm tn st ts fa ka acc (upd m x v) ((I, oI) :: led) := by
  obtain ⟨h1, h2, h3, h4, h5, ⟨n, h6⟩, ⟨o, h7, h8⟩, h9⟩ := h
  obtain ⟨x1, x2, x3, x4, x5⟩ := hx
  refine ⟨upd_ne h1 (Ne.symm x1), upd_ne h2 (Ne.symm x2), upd_ne h3 (Ne.symm x3), upd_ne h4 (Ne.symm x4), upd_ne h5 (Ne.symm x5), ⟨n, .tail _ h6⟩, ⟨o, h7, .tail _ h8⟩, fun p hp => ?_⟩
  rcases List.mem_cons.mp hp with rfl | hp
  · exact .head _
  · exact .tail _ (h9 p hp)
end
/-- the end of a turn -/
theorem TurnP.go {c : Cx} {rest : List Stmt} {P : Flow → Map → Led → Prop} {I : Addr} {oI : Obj} {J : Map → Led → Prop} {m : Map} {led : Led} {f : Flow} (hf : f = .next ∨ f = .cont) (hI : (I, oI) ∈ led) (hj : J m (led.filter fun p => p.1 != I)) : TurnP c rest P I oI J f m led := by
  rcases hf with rfl | rfl <;>
  exact ⟨_, fun p hp => by
    rcases List.mem_cons.mp hp with rfl | hp
    · exact hI
    · exact (List.mem_filter.mp hp).1, fun p hp a ha => by
    rw [List.mem_singleton.mp ha]
    simpa using (List.mem_filter.mp hp).2, hj⟩

noncomputable def FinR (led : Led) (fa : Addr) (acc : List (Addr × Row)) : Flow → Map → Led → Prop
  | .ret v, _, led' => v = .ref fa ∧ ∃ n, (fa, listOf (refsOf (acc.map (·.1))).toArray n) ∈ led' ∧ ∀ p ∈ led, p ∈ led'
  | _, _, _ => False
theorem functions_fn (w : World) {c0 : Addr} {nm : Str} {tn : Tok} {st : Int} {ts : Tok} {lin : List Addr} {mem : Addr → List (Addr × Row)} {led : Led} (hc : LinAt led c0 lin mem) (hst : 0 ≤ st) (hsm : ∀ b ∈ lin, (mem b).length ≤ 9) :
    Fn w 28 [.ref c0, .str nm tn, .int st ts] led 3 (fun led' v => ∃ r n, v = .ref r ∧ led' = (r, listOf (refsOf ((foldF st c0 nm mem (lin.drop st.toNat)).map (·.1))).toArray n) :: led ∧ ∀ p ∈ led, p.1 < r) := by
  have e0 : Challenge.rw_sa0304_01 = Challenge.rw_sa0304_01 ∧ KH = KH := ⟨rfl, rfl⟩
  revert e0; k_fill; intro _
  k_dflt (refine' Fn.enter (binds := [(Str.ofString "contract", .ref c0), (Str.ofString "name", .str nm tn), (Str.ofString "start", .int st ts)]) ?ho ?hcd ?hb ?hl ?c2 ?c3 ?c4 ?c5 ?_; (case ho => k_is); (case hcd => k_is); (case hb => exact fun s => BindsTo.of_eq rfl); (case hl => exact locs rfl); (case c2 => exact rfl); (case c3 => exact rfl); (case c4 => exact rfl); (case c5 => decide))
  intro c hw O he l1
  obtain ⟨l, n, a1, a2⟩ := hc.linear
  generalize hm0 : (fun y => List.lookup y [((Str.ofString "contract"), Value.ref c0), ((Str.ofString "name"), Value.str nm tn), ((Str.ofString "start"), Value.int st ts)].reverse) = m0
  have q1 : m0 (Str.ofString "contract") = some (.ref c0) := by subst hm0; rfl
  have q2 : m0 (Str.ofString "name") = some (.str nm tn) := by subst hm0; rfl
  have q3 : m0 (Str.ofString "start") = some (.int st ts) := by subst hm0; rfl
  have k1 : c.env.kindOf (Str.ofString "contract") = some .local := by rw [he]; rfl
  have k2 : c.env.kindOf (Str.ofString "name") = some .local := by rw [he]; rfl
  have k3 : c.env.kindOf (Str.ofString "start") = some .local := by rw [he]; rfl
  have k4 : c.env.kindOf (Str.ofString "found") = some .local := by rw [he]; rfl
  have k5 : c.env.kindOf (Str.ofString "known") = some .local := by rw [he]; rfl
  have k6 : c.env.kindOf (Str.ofString "decl") = some .local := by rw [he]; rfl
  have k7 : c.env.kindOf (Str.ofString "member") = some .local := by rw [he]; rfl
  clear hm0
  refine St.swap [(Str.ofString "found"), (Str.ofString "known")] (Tr.tuple (Its.cons (P1 := fun v m' led' => ∃ fa, v = .ref fa ∧ m0 = m' ∧ led' = (fa, listOf (refsOf []).toArray 0) :: led ∧ ∀ p ∈ led, p.1 < fa) (Tr.list (Its.nil ⟨by simp, fun l hl => ⟨l, rfl, rfl, rfl, hl⟩⟩)) ?_)) (by rw [he]; rfl)
  rintro v m' led' ⟨fa, rfl, rfl, rfl, lfa⟩
  refine Its.cons (P1 := fun v m' led' => ∃ ka o, v = .ref ka ∧ m0 = m' ∧ led' = (ka, o) :: (fa, listOf (refsOf []).toArray 0) :: led ∧ (ka == sysModules) = false ∧ MarksAt c.w [] o ∧ ∀ p ∈ (fa, listOf (refsOf []).toArray 0) :: led, p.1 < ka) (Tr.dict0 O fun d o hl hs hd => ⟨d, o, rfl, rfl, rfl, hs, ⟨hd, .nil⟩, hl⟩) ?_
  rintro v m' led' ⟨ka, oK, rfl, rfl, rfl, lok, hmk, lka⟩
  refine Its.nil ⟨by simp, fun t lt => ⟨t, _, rfl, .head _, rfl, .name O k5 (.name O k4 (.nil ?_))⟩⟩
  have hkf : ka ≠ fa := Nat.ne_of_gt (lka _ (.head _))
  have hlf : ∀ p ∈ led, p.1 ≠ fa ∧ p.1 ≠ ka := fun p hp => ⟨Nat.ne_of_lt (lfa p hp), Nat.ne_of_lt (lka p (.tail _ hp))⟩
  generalize hm1 : upd (upd m0 (Str.ofString "known") (.ref ka)) (Str.ofString "found") (.ref fa) = m1
  have fj0 : FJ c.w led c0 nm tn st ts fa ka [] m1 ((t, tupOf [.ref fa, .ref ka]) :: (ka, oK) :: (fa, listOf (refsOf []).toArray 0) :: led) := by
    subst hm1
    exact ⟨upd_at, upd_ne upd_at (by decide), upd_ne (upd_ne q1 (by decide)) (by decide), upd_ne (upd_ne q2 (by decide)) (by decide), upd_ne (upd_ne q3 (by decide)) (by decide),
      ⟨0, .tail _ (.tail _ (.head _))⟩, ⟨oK, hmk, .tail _ (.head _)⟩, fun p hp => .tail _ (.tail _ (.tail _ hp))⟩
  have ltf : ∀ p ∈ ((ka, oK) :: (fa, listOf (refsOf []).toArray 0) :: led : Led), p.1 < t := lt
  generalize hl1 : ((t, tupOf [.ref fa, .ref ka]) :: (ka, oK) :: (fa, listOf (refsOf []).toArray 0) :: led : Led) = led1 at fj0 ⊢
  have sub1 : ∀ p ∈ led, p ∈ led1 := fj0.hb
  have n3 {p p'} : Ev c m1 led1 (.Attribute (.Name (Str.ofString "contract") p) (Str.ofString "linear") p') (.ref l) := (Ev.loc (d := .ref c0) O k1 fj0.mc rfl).attr O (a1.mono sub1) (inAttr rfl)
  have hdrop : ∀ b ∈ lin.drop st.toNat, b ∈ lin := fun b => List.mem_of_mem_drop
  have hlen : (lin.drop st.toNat).length ≤ 100 := by have := hc.short.1; rw [List.length_drop]; omega
  refine St.for_ O k6 (Tr.mono (Tr.sliceFrom n3 (Ev.loc (d := .int st) O k3 fj0.ms ⟨ts, rfl⟩) (sub1 _ a2) hst (by rw [refsOf_len]; have := hc.short.1; omega)) ?_)
  rintro v m2 led2 ⟨D, e1, e2, e3, e4⟩
  subst e2
  rw [show List.drop st.toNat (refsOf lin) = refsOf (lin.drop st.toNat) from (List.map_drop ..).symm] at e3
  have hDf : D ≠ fa := fun q => by obtain ⟨n, h⟩ := fj0.hf; exact e4 _ h q.symm
  have hDk : D ≠ ka := fun q => by obtain ⟨o, _, h⟩ := fj0.hk; exact e4 _ h q.symm
  generalize hsl : ((D, listOf (refsOf (lin.drop st.toNat)).toArray 0) : Addr × Obj) = sl at e3
  have hbase : ∀ p ∈ sl :: led, p.1 ≠ fa ∧ p.1 ≠ ka := fun p hp => by
    rcases List.mem_cons.mp hp with rfl | hp
    · subst hsl; exact ⟨hDf, hDk⟩
    · exact hlf p hp
  have fj1 : FJ c.w (sl :: led) c0 nm tn st ts fa ka [] m2 led2 := by
    subst e3
    obtain ⟨h1, h2, h3, h4, h5, ⟨n, h6⟩, ⟨o, h7, h8⟩, h9⟩ := fj0
    refine ⟨h1, h2, h3, h4, h5, ⟨n, .tail _ h6⟩, ⟨o, h7, .tail _ h8⟩, fun p hp => ?_⟩
    rcases List.mem_cons.mp hp with rfl | hp
    · exact .head _
    · exact .tail _ (h9 p hp)
  clear e3 e4 fj0 hm1 hl1 n3 sub1 ltf lt
  generalize hrest : lin.drop st.toNat = rest at *
  refine ⟨D, false, refsOf rest, 0, fun i m led' => FJ c.w (sl :: led) c0 nm tn st ts fa ka (foldF st c0 nm mem (rest.take i)) m led' ∧ (foldF st c0 nm mem (rest.take i)).length ≤ i * 9, e1, ⟨fj1, Nat.zero_le _⟩, fun i m led' hj => by have h := hj.1.hb sl (.head _); rw [← hsl] at h; exact h, ?_, ?_⟩
  · rintro i u m3 led3 I oI hi ⟨fj, hln⟩ hap
    rw [refsOf_get] at hi
    obtain ⟨b, hbi, rfl⟩ := Option.map_eq_some_iff.mp hi
    have hbl := hdrop b (List.mem_of_getElem? hbi)
    obtain ⟨ml, mn, b1, b2⟩ := hc.bases b hbl
    have hIf : fa ≠ I := by obtain ⟨n, h⟩ := fj.hf; exact hap _ h I (by simp)
    have hIk : ka ≠ I := by obtain ⟨o, _, h⟩ := fj.hk; exact hap _ h I (by simp)
    have hIb : ∀ p ∈ sl :: led, p.1 ≠ I := fun p hp => hap p (fj.hb p hp) I (by simp)
    generalize hacc : foldF st c0 nm mem (rest.take i) = acc at *
    have hil : i < rest.length := (List.getElem?_eq_some_iff.mp hbi).1
    have fjm : FJ c.w ((I, oI) :: sl :: led) c0 nm tn st ts fa ka acc (upd m3 (Str.ofString "decl") (.ref b)) ((I, oI) :: led3) := fj.more (by decide)
    have s3 : ∀ p ∈ led, p ∈ (I, oI) :: led3 := fun p hp => fjm.hb p (.tail _ (.tail _ hp))
    refine St.for_ O k7 (Tr.mono (Ev.attr O (Ev.loc (d := .ref b) O k6 upd_at rfl) (b1.mono s3) (inAttr rfl)) fun v m4 led4 ⟨e1, e2, e3⟩ => ?_)
    subst e2; subst e3
    have hIbase : ∀ p ∈ (I, oI) :: sl :: led, p.1 ≠ fa ∧ p.1 ≠ ka := fun p hp => by
      rcases List.mem_cons.mp hp with rfl | hp
      · exact ⟨Ne.symm hIf, Ne.symm hIk⟩
      · exact hbase p hp
    refine ⟨ml, false, refsOf ((mem b).map (·.1)), mn, fun j m led' => FJ c.w ((I, oI) :: sl :: led) c0 nm tn st ts fa ka (((mem b).take j).foldl (stepF st (b == c0) nm) acc) m led' ∧ m (Str.ofString "decl") = some (.ref b), e1, ⟨fjm, upd_at⟩, fun j m led' hj => by exact hj.1.hb _ (.tail _ (.tail _ b2)), ?_, ?_⟩
    · rintro j u m5 led5 I5 oI5 hj ⟨fj5, hd5⟩ hap5
      rw [refsOf_get, List.getElem?_map, Option.map_map] at hj
      obtain ⟨q, hqj, rfl⟩ := Option.map_eq_some_iff.mp hj
      have hqm := List.mem_of_getElem? hqj
      have h5f : fa ≠ I5 := by obtain ⟨n, h⟩ := fj5.hf; exact hap5 _ h I5 (by simp)
      have h5k : ka ≠ I5 := by obtain ⟨o, _, h⟩ := fj5.hk; exact hap5 _ h I5 (by simp)
      have h5b : ∀ p ∈ (I, oI) :: sl :: led, p.1 ≠ I5 := fun p hp => hap5 p (fj5.hb p hp) I5 (by simp)
      have hal : (((mem b).take j).foldl (stepF st (b == c0) nm) acc).length ≤ 1000 := by
        have h1 := inner_len st (b == c0) nm ((mem b).take j) acc
        have h2 := hsm b hbl
        have h3 : ((mem b).take j).length ≤ (mem b).length := by rw [List.length_take]; omega
        omega
      have hstep : ((mem b).take (j + 1)).foldl (stepF st (b == c0) nm) acc = stepF st (b == c0) nm (((mem b).take j).foldl (stepF st (b == c0) nm) acc) q := take_foldl hqj
      generalize ((mem b).take j).foldl (stepF st (b == c0) nm) acc = acc5 at *
      have fj6 : FJ c.w ((I5, oI5) :: (I, oI) :: sl :: led) c0 nm tn st ts fa ka acc5 (upd m5 (Str.ofString "member") (.ref q.1)) ((I5, oI5) :: led5) := fj5.more (by decide)
      have hd6 : upd m5 (Str.ofString "member") (.ref q.1) (Str.ofString "decl") = some (.ref b) := upd_ne hd5 (by decide)
      have hme : upd m5 (Str.ofString "member") (.ref q.1) (Str.ofString "member") = some (.ref q.1) := upd_at
      show TrS c (upd m5 (Str.ofString "member") (.ref q.1)) ((I5, oI5) :: led5) _ _
      generalize upd m5 (Str.ofString "member") (.ref q.1) = m6 at *
      generalize hl6 : (((I5, oI5) :: led5) : Led) = led6 at *
      have s6 : ∀ p ∈ led, p ∈ led6 := fun p hp => fj6.hb p (.tail _ (.tail _ (.tail _ hp)))
      have d1 := (hc.mems b hbl q hqm).mono s6
      obtain ⟨bb, hbb⟩ := d1.bodyD
      obtain ⟨o6, hmk6, hk6⟩ := fj6.hk
      obtain ⟨n6, hf6⟩ := fj6.hf
      have vm {p} : Ev c m6 led6 (.Name (Str.ofString "member") p) (.ref q.1) := .loc O k7 hme rfl
      have back : ∀ acc' m' led', FJ c.w ((I5, oI5) :: (I, oI) :: sl :: led) c0 nm tn st ts fa ka acc' m' led' → m' (Str.ofString "decl") = some (.ref b) → acc' = stepF st (b == c0) nm acc5 q → ∀ f, f = .next ∨ f = .cont →
          TurnP c [] (fun _ _ _ => True) I5 oI5 (fun m led' => FJ c.w ((I, oI) :: sl :: led) c0 nm tn st ts fa ka (((mem b).take (j + 1)).foldl (stepF st (b == c0) nm) acc) m led' ∧ m (Str.ofString "decl") = some (.ref b)) f m' led' := fun acc' m' led' hf hd ha f hfl =>
        TurnP.go hfl (hf.hb _ (.head _)) ⟨by rw [hstep, ← ha]; exact hf.rest (fun p hp => ⟨.tail _ hp, h5b p hp⟩) h5f h5k, hd⟩
      refine St.if0 (b := skip1 nm (acc5.map (·.2.key)) q.2) (.or (.cons (.cmp (vm.attr O d1.kindD (inAttr rfl)) .str_ .neStr) fun _ => .cons (.cmp (vm.attr O d1.wordD (inAttr rfl)) .str_ .neStr) fun _ => .cons (.cmp (vm.attr O d1.nameD (inAttr rfl)) (.loc (d := .str nm) O k2 fj6.mn ⟨tn, rfl⟩) .neStr) fun _ => ?t1))
        (fun hp => St.cont (back acc5 _ _ fj6 hd6 (by unfold stepF; rw [hp]; rfl) _ (.inr rfl))) fun hp => ?_
      case t1 =>
        rw [← Bool.or_false (((acc5.map (·.2.key)).any (· == q.2.key)))]
        exact .cons (.cmp (vm.attr O d1.keyD (inAttr rfl)) (.loc (d := .ref ka) O k5 fj6.mkn rfl) (.inMarks hk6 hmk6 lok)) fun _ => .nil
      refine St.if0 (b := skip2 (b == c0) q.2) (.and (.cons (.cmp (vm.attr O d1.visD (inAttr rfl)) .str_ .eqStr) fun _ => ?t2))
        (fun hp2 => St.cont (back acc5 _ _ fj6 hd6 (by unfold stepF; rw [hp, hp2]; rfl) _ (.inr rfl))) fun hp2 => ?_
      case t2 =>
        rw [← Bool.and_true (!(b == c0))]
        exact .cons (.cmp (.loc (d := .ref b) O k6 hd6 rfl) (.loc (d := .ref c0) O k1 fj6.mc rfl) (.isNot ((b1.mono s6).inst) ((a1.mono s6).inst))) fun _ => .nil
      refine St.if0 (b := skip3 st q.2) (.and (.cons (.cmp (.loc (d := .int st) O k3 fj6.ms ⟨ts, rfl⟩) .int_ .gtInt) fun _ => ?t3))
        (fun hp3 => St.cont (back acc5 _ _ fj6 hd6 (by unfold stepF; rw [hp, hp2, hp3]; rfl) _ (.inr rfl))) fun hp3 => ?_
      case t3 =>
        have hv : (!q.2.full || q.2.seen == (Str.ofString "external")) = (((match Mine.bodyD q.2 bb with | .none => true | _ => false) || (q.2.seen == (Str.ofString "external") || false)) && true) := by
          unfold Mine.bodyD
          cases q.2.full <;> simp
        rw [hv]
        exact .cons (.or (.cons (.cmp (vm.attr O hbb (inAttr rfl)) .none_ .isNone) fun _ => .cons (.cmp (vm.attr O d1.visD (inAttr rfl)) .str_ .eqStr) fun _ => .nil)) fun _ => .nil
      have hnk : (acc5.map (·.2.key)).any (· == q.2.key) = false := by
        unfold skip1 at hp
        simp only [Bool.or_eq_false_iff] at hp
        exact hp.2.2.2
      have hadd : acc5 ++ [q] = stepF st (b == c0) nm acc5 q := by unfold stepF; rw [hp, hp2, hp3]; rfl
      refine St.mark (.loc (d := .ref ka) O k5 fj6.mkn rfl) (vm.attr O d1.keyD (inAttr rfl)) hk6 hmk6 lok hnk (by rw [List.length_map]; omega) fun o7 hm7 => ?_
      have f7 : (fa, listOf (refsOf (acc5.map (·.1))).toArray n6) ∈ put led6 ka o7 := put_ne hf6 (Ne.symm hkf)
      refine St.append (v := .ref q.1) (.loc (d := .ref fa) O k4 fj6.mf rfl) (.loc (d := .ref q.1) O k7 hme rfl) f7 (by rw [refsOf_len, List.length_map]; omega) (fun u hu => ?_) (hi := by rw [he]; rfl)
      cases hu
      refine St.nil (back (acc5 ++ [q]) _ _ ⟨fj6.mf, fj6.mkn, fj6.mc, fj6.mn, fj6.ms, ⟨n6 + 1, ?_⟩, ⟨o7, ?_, put_ne (.head _) hkf⟩, fun p hp => ?_⟩ hd6 hadd _ (.inl rfl))
      · have e : refsOf (acc5.map (·.1)) ++ [.ref q.1] = refsOf ((acc5 ++ [q]).map (·.1)) := by simp [refsOf]
        rw [← e]
        exact .head _
      · have e : acc5.map (·.2.key) ++ [q.2.key] = (acc5 ++ [q]).map (·.2.key) := by simp
        rw [← e]
        exact hm7
      · have hp' : p.1 ≠ fa ∧ p.1 ≠ ka := by
          rcases List.mem_cons.mp hp with rfl | hp
          · exact ⟨Ne.symm h5f, Ne.symm h5k⟩
          · exact hIbase p hp
        exact put_ne (put_ne (fj6.hb p hp) hp'.2) hp'.1
    · rintro m5 led5 ⟨fj5, _⟩
      have hb1 : foldF st c0 nm mem (rest.take (i + 1)) = ((mem b).take (refsOf ((mem b).map (·.1))).length).foldl (stepF st (b == c0) nm) acc := by
        rw [refsOf_len, List.length_map, List.take_length]
        unfold foldF at hacc ⊢
        rw [take_foldl hbi, hacc]
      rw [← hb1] at fj5
      refine St.nil (TurnP.go (.inl rfl) (fj5.hb _ (.head _)) ⟨fj5.rest (fun p hp => ⟨.tail _ hp, hIb p hp⟩) hIf hIk, ?_⟩)
      rw [hb1, refsOf_len, List.length_map, List.take_length]
      have h1 := inner_len st (b == c0) nm (mem b) acc
      have h2 := hsm b hbl
      omega
  · rintro m3 led3 ⟨fj, _⟩
    rw [refsOf_len, List.take_length] at fj
    obtain ⟨n, hf⟩ := fj.hf
    refine Tr.drop (St.ret (Tr.mono (Ev.loc (d := .ref fa) O k4 fj.mf rfl) fun v m4 led4 ⟨e1, e2, e3⟩ => (show FinR led fa (foldF st c0 nm mem rest) (.ret v) m4 led4 from ⟨e1, n, e3 ▸ hf, fun p hp => e3 ▸ fj.hb p (.tail _ hp)⟩))) ?_
    intro f m4 led4 hp
    cases f with
    | ret v =>
      obtain ⟨e1, n, h1, h2⟩ := hp
      exact ⟨_, ⟨fa, n, e1, rfl, lfa⟩, fun p hp => by
        rcases List.mem_cons.mp hp with rfl | hp
        · exact h1
        · exact h2 p hp⟩
    | _ => exact hp.elim

section
variable {c : Cx} {m : Map} {led : Led} {e e1 e2 : Expr} {d : Dm} {k n : Nat} {pos : Pos} {l : Addr} {vs : List Value} {v : Value} {x y : Int} {P : Flow → Map → Led → Prop} {rest : List Stmt}
theorem Ev.item (h1 : Ev c m led e1 (.ref l)) (h2 : Ev c m led e2 (.int x)) (hl : (l, listOf vs.toArray n) ∈ led) (h0 : 0 ≤ x) (hz : x < 1000) (hv : vs[x.toNat]? = some v) (hd : d.Is v)
    (hs : ∀ t, subscripted e2 false (.ref l) (.int x t) = operate [.ref l, .int x t] (getItem (.ref l) (.int x t)) := by intro _; with_unfolding_all rfl) : Ev c m led (.Subscript e1 e2 pos) d := fun s F N =>
  Subscript_ (h1.use F N fun o h' tk i F' N' => h2.use F' N' fun o2 h3 tk3 ⟨t, i2⟩ F3 N3 => by
    cases i; subst i2
    exact item_led N3 hl h0 hz hv (.mk ⟨hd, rfl, rfl⟩ F3 N3) (hs t))
theorem Ev.mul (h1 : Ev c m led e1 (.int x)) (h2 : Ev c m led e2 (.int y)) (hz : IntMulOk x y) : Ev c m led (.BinOp e1 .Mult e2 pos) (.int (x * y)) := fun s F N =>
  wpAny_BinOp (h1.use F N fun v h' tk ⟨t, i⟩ F' N' => h2.use F' N' fun v2 h3 tk3 ⟨t2, i2⟩ F3 N3 => by
    subst i; subst i2; exact mul_int (.mk ⟨⟨_, rfl⟩, rfl, rfl⟩ F3 N3) hz)
theorem Ev.mod (h1 : Ev c m led e1 (.int x)) (h2 : Ev c m led e2 (.int y)) (hz : y ≠ 0) : Ev c m led (.BinOp e1 .Mod e2 pos) (.int (x.fmod y)) := fun s F N =>
  wpAny_BinOp (h1.use F N fun v h' tk ⟨t, i⟩ F' N' => h2.use F' N' fun v2 h3 tk3 ⟨t2, i2⟩ F3 N3 => by
    subst i; subst i2; exact mod_int' hz (.mk ⟨⟨_, rfl⟩, rfl, rfl⟩ F3 N3))
theorem Ev.fdiv (h1 : Ev c m led e1 (.int x)) (h2 : Ev c m led e2 (.int y)) (hz : y ≠ 0) (hp : Builtin.divisionGoesByPylong x y = false) : Ev c m led (.BinOp e1 .FloorDiv e2 pos) (.int (x.fdiv y)) := fun s F N =>
  wpAny_BinOp (h1.use F N fun v h' tk ⟨t, i⟩ F' N' => h2.use F' N' fun v2 h3 tk3 ⟨t2, i2⟩ F3 N3 => by
    subst i; subst i2; exact floordiv_int hz (.mk ⟨⟨_, rfl⟩, rfl, rfl⟩ F3 N3) (.inl hp))
theorem CmpD.ltInt : CmpD c m led .Lt (.int x) (.int y) (decide (x < y)) := fun v1 v2 ⟨t, h1⟩ ⟨u, h2⟩ s F N => by
  subst h1; subst h2; exact lt_int (.mk ⟨rfl, rfl, rfl⟩ F N)
/-- a built-in function by its name, one argument -/
theorem Tr.bcall {x : Str} {id : String} {p1 : Pos} {P1 P : Value → Map → Led → Prop} (O : c.Ok k) (hk : c.env.kindOf x = some .globalImplicit) (hn : nsIn (KH c.w.params) mainGlobals x = some none) (hb : bootBuiltins x = some (.builtin id))
    (hne : x ≠ "__name__") (h : Tr c m led (eval e c.env) P1) (h2 : ∀ v m' led', P1 v m' led' → Tr c m' led' (PySem.call (.builtin id) [v]) P)
    (hs : eval ((Expr.Name x p1).Call [e] [] pos) c.env = (do let f ← eval (.Name x p1) c.env; callWith pos f [] (backTo pos (starEach [e] c.env)) (backToKw pos (keywordEach [] c.env))) := by rfl)
    (he : starEach [e] c.env = (false, eval e c.env) :: starEach [] c.env := by rfl) (hp : (backTo pos (starEach [] c.env)).any (·.1) = false := by rfl) (hx : (x == ("__debug__" : Str)) = false := by decide) :
    Tr c m led (eval (.Call (.Name x p1) [e] [] pos) c.env) P := by
  intro s F N
  obtain ⟨p, loose, mean, mg, mb, T⟩ := O.T
  refine Call_ (Name_function_global O.kind hk (loadGlobal_builtin (by rw [O.glob]; exact (topRead_of T).g.keeps F.keep) (mg_none_of O.X (topRead_of T).g hn) (by rw [O.blt]; exact (topRead_of T).b.keeps F.keep) (((topRead_of T).builtins x hne).trans hb) ?_) hx) hs
  refine PyProof.Rows.callWith_builtin1 (spliced_more (h.use F N fun v m' led' h' tk hp1 F' N' => spliced_none ?_) he) he hp
  exact Tr.use (h2 v m' led' hp1) F' N' fun a m3 led3 h3 tk3 hp F3 N3 => .mk hp F3 N3
theorem nsLen (P : Params) : nsIn (KH P) mainGlobals (Str.ofString "len") = some none := by kernel_rfl
theorem Ev.len {p1 : Pos} (O : c.Ok k) (hk : c.env.kindOf (Str.ofString "len") = some .globalImplicit) (h : Ev c m led e (.ref l)) (hl : (l, listOf vs.toArray n) ∈ led) (hz : vs.length ≤ 1000)
    (hs : eval ((Expr.Name (Str.ofString "len") p1).Call [e] [] pos) c.env = (do let f ← eval (.Name (Str.ofString "len") p1) c.env; callWith pos f [] (backTo pos (starEach [e] c.env)) (backToKw pos (keywordEach [] c.env))) := by rfl)
    (he : starEach [e] c.env = (false, eval e c.env) :: starEach [] c.env := by rfl) (hp : (backTo pos (starEach [] c.env)).any (·.1) = false := by rfl) :
    Ev c m led (.Call (.Name (Str.ofString "len") p1) [e] [] pos) (.int vs.length) :=
  Tr.bcall O hk (nsLen _) boot_len (by decide) h (fun v m' led' ⟨h1, e2, e3⟩ s F N => by
    cases h1; subst e2; subst e3
    exact len_led N hl hz (.mk ⟨⟨_, rfl⟩, rfl, rfl⟩ F N)) hs he hp
theorem St.setItem {p2 : Pos} {a : Addr} {i : Int} (h : Ev c m led e d) (h1 : Ev c m led e1 (.ref a)) (h2 : Ev c m led e2 (.int i)) (hl : (a, listOf vs.toArray n) ∈ led) (h0 : 0 ≤ i) (hz : i < 1000)
    (hn : ∀ v, d.Is v → ∃ q, ki_setL vs i.toNat v = some q ∧ TrS c m (put led a (listOf q.toArray n)) rest P)
    (hs : swapsWith e (some (.Subscript e1 e2 p2)) pos.line c.env = (Pure.pure false : Sem Bool) := by rfl) : TrS c m led (.Assign [.Subscript e1 e2 p2] e pos :: rest) P :=
  St.one fun s F N => wpAny_Assign_Subscript (h.use F N fun v h' tk hv F' N' => h1.use F' N' fun v1 h3 tk3 i1 F3 N3 => h2.use F3 N3 fun v2 h4 tk4 i2 F4 N4 => by
    cases i1
    obtain ⟨t, rfl⟩ := i2
    obtain ⟨q, hq, hn⟩ := hn v hv
    obtain ⟨N5, U, _⟩ := put_upd (o' := listOf q.toArray n) N4 hl
    exact ki_set F4 N5 h0 (by omega) hq U fun h5 F6 N6 => .mk hn F6 N6) hs
end
/-- the well's own object -/
noncomputable def WellOk (l : Addr) (o : Obj) : Prop := ∃ i x ti tx n, o = listOf #[.ref l, .int i ti, .int x tx] n ∧ 0 ≤ i ∧ i ≤ 63 ∧ 0 ≤ x ∧ x < 1009

/-- the script's ints as the well keeps them -/
structure Script (ivs : List Value) (ns : List Int) : Prop where
  isInts : IntsAre ivs ns
  len : ns.length ≤ 63
  bnd : ∀ n ∈ ns, 0 ≤ n ∧ n < 2147483647

theorem Script.get {ivs : List Value} {ns : List Int} (S : Script ivs ns) {i : Int} (h0 : 0 ≤ i) (h1 : i < (ivs.length : Int)) : ∃ g t, ivs[i.toNat]? = some (.int g t) ∧ 0 ≤ g ∧ g < 2147483647 := by
  have hlen := S.isInts.length
  have hlt : i.toNat < ns.length := by omega
  obtain ⟨t, ht⟩ := S.isInts.get i.toNat ns[i.toNat] (by simp [hlt])
  exact ⟨_, t, ht, S.bnd _ (List.getElem_mem hlt)⟩


theorem intBits29 : Builtin.Int.intBits 29 ≤ 64 := by decide +kernel
/-- the well in a ledger -/
noncomputable def WellIn (led : Led) (W l : Addr) : Prop := ∃ o, (W, o) ∈ led ∧ WellOk l o
/-- what a draw leaves -/
noncomputable def Drawn (W l : Addr) (led : Led) (size : Int) (led' : Led) (v : Value) : Prop :=
  (∃ r : Int, 0 ≤ r ∧ r < size ∧ (Dm.int r).Is v) ∧ WellIn led' W l ∧ ∀ p ∈ led, p.1 ≠ W → p ∈ led'
theorem draw_fn (w : World) {W l : Addr} {ivs : List Value} {ns : List Int} {n2 : Nat} {led : Led} {size : Int} {tsz : Tok} (hW : WellIn led W l) (S : Script ivs ns) (hl : (l, listOf ivs.toArray n2) ∈ led) (hlW : l ≠ W) (hs : 0 < size) :
    Fn w 153 [.ref W, .int size tsz] led 1 (Drawn W l led size) := by
  have e0 : Challenge.rw_sa0304_01 = Challenge.rw_sa0304_01 ∧ KH = KH := ⟨rfl, rfl⟩
  revert e0; k_fill; intro _
  k_dflt (refine' Fn.enter (binds := [(Str.ofString "well", .ref W), (Str.ofString "size", .int size tsz)]) ?ho ?hcd ?hb ?hl ?c2 ?c3 ?c4 ?c5 ?_; (case ho => k_is); (case hcd => k_is); (case hb => exact fun s => BindsTo.of_eq rfl); (case hl => exact locs rfl); (case c2 => exact rfl); (case c3 => exact rfl); (case c4 => exact rfl); (case c5 => decide))
  intro c hw O he l1
  obtain ⟨o, ho, i, x, ti, tx, n, rfl, hi, hi2, hx, hx2⟩ := hW
  have hlen : ivs.length ≤ 63 := by rw [S.isInts.length]; exact S.len
  generalize hm0 : (fun y => List.lookup y [((Str.ofString "well"), Value.ref W), ((Str.ofString "size"), Value.int size tsz)].reverse) = m0
  have k1 : c.env.kindOf (Str.ofString "well") = some .local := by rw [he]; rfl
  have k2 : c.env.kindOf (Str.ofString "size") = some .local := by rw [he]; rfl
  have k3 : c.env.kindOf (Str.ofString "given") = some .local := by rw [he]; rfl
  have k4 : c.env.kindOf (Str.ofString "len") = some .globalImplicit := by rw [he]; rfl
  have q1 : m0 (Str.ofString "well") = some (.ref W) := by subst hm0; rfl
  have q2 : m0 (Str.ofString "size") = some (.int size tsz) := by subst hm0; rfl
  clear hm0
  have fin : ∀ (P : Flow → Map → Led → Prop) (m' : Map) (led' : Led) (r : Int) (e : Expr) (pos : Pos) (o' : Obj), (∀ v m' led', FinP (Drawn W l led size) (.ret v) m' led' → P (.ret v) m' led') → Ev c m' led' e (.int r) → 0 ≤ r → r < size → WellOk l o' → (W, o') ∈ led' → (∀ p ∈ led, p.1 ≠ W → p ∈ led') → TrS c m' led' [.Return (some e) pos] P := fun P m' led' r e pos o' hP he h0 h1 hw hm hp =>
    St.ret (Tr.mono he fun v m2 led2 ⟨e1, _, e3⟩ => by subst e3; exact hP _ m2 _ ⟨⟨r, h0, h1, e1⟩, ⟨o', hm, hw⟩, hp⟩)
  refine St.if0 (b := decide (i < (ivs.length : Int))) (.cmp (.item (d := .int i) (.loc (d := .ref W) O k1 q1 rfl) .int_ ho (by decide) (by decide) rfl ⟨ti, rfl⟩)
    (.len O k4 (.item (d := .ref l) (.loc (d := .ref W) O k1 q1 rfl) .int_ ho (by decide) (by decide) rfl rfl) hl (by omega)) .ltInt) (fun hlt => ?_) fun _ => ?_
  · have hlt := of_decide_eq_true hlt
    obtain ⟨g, tg, hg, hg0, hg1⟩ := S.get hi hlt
    refine St.set O k3 (.item (d := .int g) (.item (d := .ref l) (.loc (d := .ref W) O k1 q1 rfl) .int_ ho (by decide) (by decide) rfl rfl) (.item (d := .int i) (.loc (d := .ref W) O k1 q1 rfl) .int_ ho (by decide) (by decide) rfl ⟨ti, rfl⟩) hl hi (by omega) hg ⟨tg, rfl⟩) fun v hv => ?_
    obtain ⟨tv, rfl⟩ := hv
    have q1' : upd m0 (Str.ofString "given") (.int g tv) (Str.ofString "well") = some (.ref W) := upd_ne q1 (by decide)
    have q2' : upd m0 (Str.ofString "given") (.int g tv) (Str.ofString "size") = some (.int size tsz) := upd_ne q2 (by decide)
    have q3' : upd m0 (Str.ofString "given") (.int g tv) (Str.ofString "given") = some (.int g tv) := upd_at
    generalize upd m0 (Str.ofString "given") (.int g tv) = m1 at *
    refine St.setItem (.add (.item (d := .int i) (.loc (d := .ref W) O k1 q1' rfl) .int_ ho (by decide) (by decide) rfl ⟨ti, rfl⟩) .int_) (.loc (d := .ref W) O k1 q1' rfl) .int_ ho (by decide) (by decide) fun v hv => ⟨_, rfl, ?_⟩
    obtain ⟨t1, rfl⟩ := hv
    generalize hl2 : put led W (listOf [Value.ref l, .int (i + 1) t1, .int x tx].toArray n) = led2
    have ho2 : (W, listOf [Value.ref l, .int (i + 1) t1, .int x tx].toArray n) ∈ led2 := hl2 ▸ .head _
    have hp2 : ∀ p ∈ led, p.1 ≠ W → p ∈ led2 := fun p hp hn => hl2 ▸ put_ne hp hn
    refine St.setItem (d := .int ((x * 29 + g + 11).fmod 1009)) (.mod (.add (.add (.mul (.item (d := .int x) (.loc (d := .ref W) O k1 q1' rfl) .int_ ho2 (by decide) (by decide) rfl ⟨tx, rfl⟩) .int_ (.of_right intBits29)) (.loc (d := .int g) O k3 q3' ⟨tv, rfl⟩)) .int_) .int_ (by decide)) (.loc (d := .ref W) O k1 q1' rfl) .int_ ho2 (by decide) (by decide) fun v hv => ⟨_, rfl, ?_⟩
    obtain ⟨t2, rfl⟩ := hv
    exact fin _ _ _ (g.fmod size) _ _ _ (fun _ _ _ h => h) (.mod (.loc (d := .int g) O k3 q3' ⟨tv, rfl⟩) (.loc (d := .int size) O k2 q2' ⟨tsz, rfl⟩) (by omega)) (Int.fmod_nonneg_of_pos _ hs) (Int.fmod_lt_of_pos _ hs)
      ⟨i + 1, _, t1, t2, n, rfl, by omega, by omega, Int.fmod_nonneg_of_pos _ (by decide), Int.fmod_lt_of_pos _ (by decide)⟩ (.head _) fun p hp hn => put_ne (hp2 p hp hn) hn
  · refine St.setItem (d := .int ((x * 29 + 11).fmod 1009)) (.mod (.add (.mul (.item (d := .int x) (.loc (d := .ref W) O k1 q1 rfl) .int_ ho (by decide) (by decide) rfl ⟨tx, rfl⟩) .int_ (.of_right intBits29)) .int_) .int_ (by decide)) (.loc (d := .ref W) O k1 q1 rfl) .int_ ho (by decide) (by decide) fun v hv => ⟨_, rfl, ?_⟩
    obtain ⟨t2, rfl⟩ := hv
    have ho2 : (W, listOf [Value.ref l, .int i ti, .int ((x * 29 + 11).fmod 1009) t2].toArray n) ∈ put led W (listOf [Value.ref l, .int i ti, .int ((x * 29 + 11).fmod 1009) t2].toArray n) := .head _
    exact fin _ _ _ ((((x * 29 + 11).fmod 1009).fdiv 3).fmod size) _ _ _ (fun _ _ _ h => h) (.mod (.fdiv (.item (d := .int ((x * 29 + 11).fmod 1009)) (.loc (d := .ref W) O k1 q1 rfl) .int_ ho2 (by decide) (by decide) rfl ⟨t2, rfl⟩) .int_ (by decide) (PyProof.noPylong_small (by decide))) (.loc (d := .int size) O k2 q2 ⟨tsz, rfl⟩) (by omega)) (Int.fmod_nonneg_of_pos _ hs) (Int.fmod_lt_of_pos _ hs)
      ⟨i, _, ti, t2, n, rfl, hi, hi2, Int.fmod_nonneg_of_pos _ (by decide), Int.fmod_lt_of_pos _ (by decide)⟩ ho2 fun p hp hn => put_ne hp hn

/-- a comprehension's tests -/
inductive IfsT (c : Cx) (m : Map) (led : Led) : List Expr → Bool → Prop
  | nil : IfsT c m led [] true
  | one {e : Expr} {b : Bool} : Tst c m led e b → IfsT c m led [e] b
theorem IfsT.run {c : Cx} {m : Map} {led : Led} {ifs : List Expr} {b : Bool} (h : IfsT c m led ifs b) {s : Shared} {Q : Bool → Shared → Prop} (F : Fr c.g c.L s.heap m) (N : News c.g c.L s.heap led)
    (k : ∀ h' tk, Fr c.g c.L h' m → News c.g c.L h' led → Q b { s with heap := h', toks := tk }) :
    wpAny c.M c.A (forIn ifs true fun t r => if r = true then do let ok ← PySem.isTrue t c.env (eval t c.env); pure (ForInStep.yield ok) else pure (ForInStep.yield r)) Q (fun _ _ => False) s := by
  cases h with
  | nil => rw [List.forIn_nil]; exact wpAny_pure (k _ _ F N)
  | one h =>
    rw [List.forIn_cons]
    refine wpAny_bind ?_
    rw [if_pos rfl]
    refine wpAny_bind (Tr.useB h F N fun h' tk F' N' => wpAny_pure ?_)
    show wpAny _ _ (forIn [] b _) _ _ _
    rw [List.forIn_nil]
    exact wpAny_pure (k _ _ F' N')

/-- a turn's frame and own ledger, by whether the name is a cell -/
noncomputable def mapK (kc : Bool) (m : Map) (x : Str) (u : Value) : Map := match kc with | true => m | false => upd m x u
noncomputable def kindK (kc : Bool) : NameKind := match kc with | true => .cell | false => .local
noncomputable def ownK (kc : Bool) (C : Addr) : List Addr := match kc with | true => [C + 1] | false => []
/-- a turn of a comprehension -/
inductive CompTurn (c' : Cx) (kc : Bool) (x : Str) (ifs : List Expr) (elt : Expr) (m2 : Map) (D I : Addr) (oI oc : Obj) (nD : Nat) (u : Value) (outs : List Value) (ledJ : Led) (J0 : List Value → Led → Prop) : Prop
  | mk (b : Bool) (hb : IfsT c' (mapK kc m2 x u) ((D, listOf outs.toArray nD) :: (I, oI) :: (cellK kc c'.L oc ++ ledJ)) ifs b) (hf : b = false → J0 outs ledJ)
    (ht : b = true → Tr c' (mapK kc m2 x u) ((D, listOf outs.toArray nD) :: (I, oI) :: (cellK kc c'.L oc ++ ledJ)) (eval elt c'.env) fun r _ led4 => ∃ led5, (∀ p ∈ (D, listOf outs.toArray nD) :: (I, oI) :: (cellK kc c'.L oc ++ led5), p ∈ led4) ∧ Apart led5 (D :: I :: ownK kc c'.L) ∧ J0 (outs ++ [r]) led5) :
    CompTurn c' kc x ifs elt m2 D I oI oc nD u outs ledJ J0
section
variable {c' : Cx} {x : Str} {ifs : List Expr} {elt : Expr} {m2 : Map} {D I : Addr} {oI oc : Obj} {nD : Nat} {u : Value} {outs : List Value} {ledJ led3 : Led} {J0 : List Value → Led → Prop}
theorem CompTurn.plain (hl : (D, listOf outs.toArray nD) :: (I, oI) :: ledJ = led3) (b : Bool) (hb : IfsT c' (upd m2 x u) led3 ifs b) (hf : b = false → J0 outs ledJ)
    (ht : b = true → Tr c' (upd m2 x u) led3 (eval elt c'.env) fun r _ led4 => ∃ led5, (∀ p ∈ (D, listOf outs.toArray nD) :: (I, oI) :: led5, p ∈ led4) ∧ Apart led5 [D, I] ∧ J0 (outs ++ [r]) led5) : CompTurn c' false x ifs elt m2 D I oI oc nD u outs ledJ J0 := by
  subst hl; exact ⟨b, hb, hf, ht⟩
theorem CompTurn.celled (hl : (D, listOf outs.toArray nD) :: (I, oI) :: (c'.L + 1, oc) :: ledJ = led3) (b : Bool) (hb : IfsT c' m2 led3 ifs b) (hf : b = false → J0 outs ledJ)
    (ht : b = true → Tr c' m2 led3 (eval elt c'.env) fun r _ led4 => ∃ led5, (∀ p ∈ (D, listOf outs.toArray nD) :: (I, oI) :: (c'.L + 1, oc) :: led5, p ∈ led4) ∧ Apart led5 [D, I, c'.L + 1] ∧ J0 (outs ++ [r]) led5) : CompTurn c' true x ifs elt m2 D I oI oc nD u outs ledJ J0 := by
  subst hl; exact ⟨b, hb, hf, ht⟩
end
inductive CompL (c : Cx) (k : Nat) (scope : Scope) (cl : List (Str × Addr)) (kc : Bool) (x : Str) (ifs : List Expr) (elt : Expr) (m : Map) (P : Addr → Nat → List Value → Led → Prop) (v : Value) (m' : Map) (led' : Led) : Prop
  | mk (em : m' = m) (l : Addr) (tup : Bool) (vs : List Value) (n : Nat) (J : Nat → List Value → Led → Prop) (e : v = .ref l) (hz : vs.length ≤ 1000) (h0 : J 0 [] led') (hJ : ∀ i outs led, J i outs led → (l, seqO tup vs n) ∈ led)
    (turn : ∀ (c' : Cx) (m2 : Map) (i : Nat) (u : Value) (outs : List Value) (ledJ : Led) (D I : Addr) (oI oc : Obj) (nD : Nat), c'.w = c.w → c'.Ok k → c'.env = compEnvC scope (clK kc x c'.L cl) c'.L c.env → vs[i]? = some u → J i outs ledJ → Apart ledJ (D :: I :: ownK kc c'.L) → outs.length ≤ i → oc.data = .cell (some u) →
      CompTurn c' kc x ifs elt m2 D I oI oc nD u outs ledJ (J (i + 1)))
    (done : ∀ D nD outs ledJ, J vs.length outs ledJ → (∀ p ∈ ledJ, p.1 ≠ D) → outs.length ≤ vs.length → P D nD outs ledJ) : CompL c k scope cl kc x ifs elt m P v m' led'

/-- what the loop keeps: the name's cell apart -/
inductive JK (kc : Bool) (J : Nat → List Value → Led → Prop) (C : Addr) (i : Nat) (outs : List Value) (led : Led) : Prop
  | mk (oc : Obj) (v0 : Option Value) (led0 : Led) (ho : oc.data = .cell v0) (e : led = cellK kc C oc ++ led0) (ha : Apart led0 (ownK kc C)) (hJ : J i outs led0) : JK kc J C i outs led
theorem cellK_apart {kc : Bool} {C D I : Addr} {o : Obj} {led : Led} (hD : D < C) (hI : I < C) (h : Apart led [D, I]) : Apart (cellK kc C o ++ led) [D, I] := by
  intro p hp a hm
  rcases List.mem_append.mp hp with hp | hp
  · cases kc with
    | false => exact nomatch hp
    | true =>
      rcases List.mem_singleton.mp hp with rfl
      have : a < C := by
        rcases List.mem_cons.mp hm with rfl | hm
        · exact hD
        · exact List.mem_singleton.mp hm ▸ hI
      exact Nat.ne_of_gt (Nat.lt_succ_of_lt this)
  · exact h p hp a hm

section
variable {c : Cx} {m : Map} {led : Led} {elt iter : Expr} {x y : Str} {px py pos spos : Pos} {ifs : List Expr} {scope : Scope} {cl : List (Str × Addr)} {k : Nat} {P : Addr → Nat → List Value → Led → Prop} {kc : Bool}
/-- the turn's name is stored -/
theorem storeK {u : Value} {oc : Obj} {v0 : Option Value} {e : Env} {D I : Addr} {oD oI : Obj} {led0 : Led} (O : c.Ok k) (he : c.env = compEnvC scope (clK kc x c.L cl) c.L e) (hx : c.env.kindOf x = some (kindK kc)) (hD : D < c.L) (hI : I < c.L) (ha0 : Apart led0 (ownK kc c.L)) (hoc : oc.data = .cell v0) :
    Tr c m ((D, oD) :: (I, oI) :: (cellK kc c.L oc ++ led0)) (storeName c.env x u) fun _ m' led' => ∃ oc', oc'.data = .cell (some u) ∧ m' = mapK kc m x u ∧ led' = (D, oD) :: (I, oI) :: (cellK kc c.L oc' ++ led0) := by
  cases kc with
  | false => exact Tr.mono (store_ O hx) fun _ m' led' ⟨h1, h2⟩ => ⟨cellO (some u), rfl, h1, h2⟩
  | true =>
    intro s F N
    have hm := N (c.L + 1, oc) (.tail _ (.tail _ (.head _)))
    refine wpAny_storeName_cell (c := c.L + 1) O.kind hx (by rw [he]; show List.lookup x ((x, c.L + 1) :: cl) = _; rw [List.lookup_cons_self]) ⟨_, hm.1, hoc⟩ fun h' ⟨oc', h1, h2⟩ hs => ?_
    refine .mk ⟨oc', h2, rfl, rfl⟩ (fr_sameBut F hs hm.2.1 hm.2.2) fun p hp => ?_
    have keep : ∀ p : Addr × Obj, p ∈ (D, oD) :: (I, oI) :: (cellK true c.L oc ++ led0) → p.1 ≠ c.L + 1 → h'.get? p.1 = some p.2 ∧ p.1 ≠ c.L ∧ c.g.get? p.1 = none := fun p hp hn => ⟨(hs.2 _ hn).trans (N p hp).1, (N p hp).2⟩
    rcases List.mem_cons.mp hp with rfl | hp
    · exact keep _ (.head _) (Nat.ne_of_lt (Nat.lt_succ_of_lt hD))
    rcases List.mem_cons.mp hp with rfl | hp
    · exact keep _ (.tail _ (.head _)) (Nat.ne_of_lt (Nat.lt_succ_of_lt hI))
    rcases List.mem_cons.mp hp with rfl | hp
    · exact ⟨h1, hm.2⟩
    · exact keep p (.tail _ (.tail _ (.tail _ hp))) (ha0 p hp _ (.head _))
theorem compL_at {p : Program} {loose : List Str} {mean : ExcName → Option Value} {mg mb : Str → Option Value} (O : c.Ok k) (T : Top p loose mean mg mb c.g) (hk : scope.kind = .function) (hx : ∀ C, (compEnvC scope (clK kc x C cl) C c.env).kindOf x = some (kindK kc)) {v : Value} {m' : Map} {led' : Led} {s : Shared} {h' : Heap} {tk : Nat}
    {fin : Addr → Nat → List Value → Led → Shared → Prop} (h : CompL c k scope cl kc x ifs elt m P v m' led') (F : Fr c.g c.L h' m') (N : News c.g c.L h' led')
    (hf : ∀ D nD outs led0 led h2 tk2, P D nD outs led0 → (∀ p ∈ led0, p ∈ led) → Fr c.g c.L h2 m → News c.g c.L h2 ((D, listOf outs.toArray nD) :: led) → fin D nD outs led { s with heap := h2, toks := tk2 }) :
    CompAt Challenge.rw_sa0304_01.row.prog c.w c.A (KH c.w.params) p loose mean mg mb c.g c.L m c.env scope cl kc x px ifs elt fin v { s with heap := h', toks := tk } := by
  obtain ⟨rfl, l, tup, vs, n, J, rfl, hz, hj, hJl, turn, done⟩ := h
  refine ⟨l, tup, vs, n, led', JK kc J, rfl, F, N, O.X, T, hz, hJl _ _ _ hj, fun C hC => ⟨cellO none, none, led', rfl, rfl, fun q hq a hm => ?_, hj⟩, fun C i outs led ⟨_, _, led0, _, e, _, q⟩ => e ▸ List.mem_append_right _ (hJl _ _ _ q), ?_, ?_⟩
  · cases kc with
    | false => exact nomatch hm
    | true => exact List.mem_singleton.mp hm ▸ Nat.ne_of_lt (Nat.lt_succ_of_lt (hC q hq))
  · rintro C i u outs led2 g h2 m2 tk2 oI D I nD hi ⟨oc, v0, led0, hoc, rfl, ha0, hJ⟩ ha F2 N2 X2 T2 ho hD hI
    have O' : Cx.Ok ⟨c.w, c.dp, c.un, c.fr, c.gd, g, C, compEnvC scope (clK kc x C cl) C c.env⟩ k := ⟨X2, ⟨_, _, _, _, _, T2⟩, O.room, O.units, rfl, hk, O.glob, O.blt⟩
    have ha1 : Apart led0 (D :: I :: ownK kc C) := fun p hp a hm => by
      rcases List.mem_cons.mp hm with rfl | hm
      · exact ha p (List.mem_append_right _ hp) _ (.head _)
      rcases List.mem_cons.mp hm with rfl | hm
      · exact ha p (List.mem_append_right _ hp) _ (.tail _ (.head _))
      · exact ha0 p hp a hm
    refine wpAny_assign_Name (Tr.use (c := ⟨c.w, c.dp, c.un, c.fr, c.gd, g, C, compEnvC scope (clK kc x C cl) C c.env⟩) (storeK (c := ⟨c.w, c.dp, c.un, c.fr, c.gd, g, C, compEnvC scope (clK kc x C cl) C c.env⟩) (u := u) O' rfl (hx C) hD hI ha0 hoc) F2 N2 fun _ m3 led3 h3 tk3 q F3 N3 => ?_)
    obtain ⟨oc', hoc', rfl, rfl⟩ := q
    obtain ⟨b, hb, hf, ht⟩ := turn ⟨c.w, c.dp, c.un, c.fr, c.gd, g, C, compEnvC scope (clK kc x C cl) C c.env⟩ m2 i u outs led0 D I oI oc' nD rfl O' rfl hi hJ ha1 ho hoc'
    have nx : ∀ led5, Apart led5 (D :: I :: ownK kc C) → Apart (cellK kc C oc' ++ led5) [D, I] ∧ Apart led5 (ownK kc C) := fun led5 h => ⟨cellK_apart hD hI fun p hp a hm => h p hp a (by
        rcases List.mem_cons.mp hm with rfl | hm
        · exact .head _
        · exact List.mem_singleton.mp hm ▸ .tail _ (.head _)), fun p hp a hm => h p hp a (.tail _ (.tail _ hm))⟩
    refine hb.run (c := ⟨c.w, c.dp, c.un, c.fr, c.gd, g, C, compEnvC scope (clK kc x C cl) C c.env⟩) F3 N3 fun h4 tk4 F4 N4 => ?_
    cases b with
    | true =>
      rw [if_pos rfl]
      exact Tr.use (ht rfl) F4 N4 fun r m5 led5 h5 tk5 ⟨led6, q1, q2, q3⟩ F5 N5 => ⟨h5, tk5, m5, _, rfl, F5, News.sub N5 q1, (nx led6 q2).1, oc', _, led6, hoc', rfl, (nx led6 q2).2, q3⟩
    | false =>
      rw [if_neg Bool.false_ne_true]
      exact ⟨h4, tk4, _, _, rfl, F4, N4, (nx led0 ha1).1, oc', _, led0, hoc', rfl, ha0, hf rfl⟩
  · rintro C D nD outs led2 h2 tk2 ⟨oc, v0, led0, hoc, rfl, ha0, hJ⟩ ha F2 N2 ho
    exact hf D nD outs led0 _ h2 tk2 (done D nD outs led0 hJ (fun p hp => ha p (List.mem_append_right _ hp)) ho) (fun p hp => List.mem_append_right _ hp) F2 N2
theorem Tr.comp (kc : Bool) (O : c.Ok k) (hclos : closureFor scope c.env = (Pure.pure cl : Sem _)) (hcell : CellOk kc x scope.names) (hk : scope.kind = .function) (hn : ∀ y ∈ scope.names, y.2 = .local → scope.names.lookup y.1 = some .local)
    (hx : ∀ C, (compEnvC scope (clK kc x C cl) C c.env).kindOf x = some (kindK kc)) (h : Tr c m led (eval iter c.env) (CompL c k scope cl kc x ifs elt m P)) (hs : ∀ v, foldedSetIterable iter c.env v = (Pure.pure v : Sem Value) := by intro _; rfl) :
    Tr c m led (eval (.ListComp elt [⟨.Name x px, iter, ifs, 0⟩] scope pos) c.env) fun v m' led' => m' = m ∧ ∃ D nD outs ledJ, v = .ref D ∧ led' = (D, listOf outs.toArray nD) :: ledJ ∧ P D nD outs ledJ := by
  intro s F N
  obtain ⟨p, loose, mean, mg, mb, T⟩ := O.T
  have sub : ∀ {D : Addr} {o : Obj} {led0 led : Led}, (∀ p ∈ led0, p ∈ led) → ∀ p ∈ (D, o) :: led0, p ∈ (D, o) :: led := fun hs p hp => by
    rcases List.mem_cons.mp hp with rfl | hp
    · exact .head _
    · exact .tail _ (hs p hp)
  exact comp_eval rfl hclos hcell hk hn (h.use F N fun v m' led' h' tk hp F' N' => compL_at O T hk hx hp F' N' fun D nD outs led0 led h2 tk2 hP hs F2 N2 => .mk ⟨rfl, D, nD, outs, led0, rfl, rfl, hP⟩ F2 (News.sub N2 (sub hs))) hs
theorem St.comp (kc : Bool) {rest : List Stmt} {P2 : Flow → Map → Led → Prop} (O : c.Ok k) (hsw : swapsWith (.ListComp elt [⟨.Name x px, iter, ifs, 0⟩] scope pos) (some (.Name y py)) spos.line c.env = (Pure.pure true : Sem Bool)) (hclos : closureFor scope c.env = (Pure.pure cl : Sem _)) (hcell : CellOk kc x scope.names)
    (hk : scope.kind = .function) (hn : ∀ y ∈ scope.names, y.2 = .local → scope.names.lookup y.1 = some .local) (hx : ∀ C, (compEnvC scope (clK kc x C cl) C c.env).kindOf x = some (kindK kc)) (hy : c.env.kindOf y = some .local)
    (h : Tr c m led (eval iter c.env) (CompL c k scope cl kc x ifs elt m P)) (hr : ∀ D nD outs ledJ, P D nD outs ledJ → TrS c (upd m y (.ref D)) ((D, listOf outs.toArray nD) :: ledJ) rest P2)
    (hs : ∀ v, foldedSetIterable iter c.env v = (Pure.pure v : Sem Value) := by intro _; rfl) :
    TrS c m led (.Assign [.Name y py] (.ListComp elt [⟨.Name x px, iter, ifs, 0⟩] scope pos) spos :: rest) P2 := by
  refine St.one fun s F N => ?_
  obtain ⟨p, loose, mean, mg, mb, T⟩ := O.T
  have sub : ∀ {D : Addr} {o : Obj} {led0 led : Led}, (∀ p ∈ led0, p ∈ led) → ∀ p ∈ (D, o) :: led0, p ∈ (D, o) :: led := fun hs p hp => by
    rcases List.mem_cons.mp hp with rfl | hp
    · exact .head _
    · exact .tail _ (hs p hp)
  exact comp_assign (h₀ := c.g) hsw O.loc rfl hclos hcell hk hn hy (by rw [O.kind]; rfl) (h.use F N fun v m' led' h' tk hp F' N' => compL_at O T hk hx hp F' N' fun D nD outs led0 led h2 tk2 hP hs F2 N2 h3 tk3 F3 N3 => .mk (hr D nD outs led0 hP) F3 (News.sub N3 (sub hs))) hs
end

section
open AutoSeq1 (wpAny_loadPart')
open MeetsSeq MeetsSeq2 MeetsSeq3 SeqRoads2
noncomputable def lexB (a1 a2 b1 b2 : Int) : Bool := if a1 == b1 then (if a2 == b2 then false else decide (a2 < b2)) else decide (a1 < b1)
theorem eqb_int {prog : Program} {w : World} {A : Around} {E : Value → Shared → Prop} {s : Shared} {a b : Int} {t u : Tok} {Q : Bool → Shared → Prop} (h : Q (a == b) s) : wpAny (model prog w) A (eqBool (.int a t) (.int b u)) Q E s := (EqGives.int a b t u) prog w A E s Q h
theorem ltb_int {prog : Program} {w : World} {A : Around} {E : Value → Shared → Prop} {s : Shared} {a b : Int} {t u : Tok} {Q : Value → Shared → Prop} (h : Q (.bool (decide (a < b))) s) : wpAny (model prog w) A (richCompare .Lt (.int a t) (.int b u)) Q E s := lt_int h
set_option maxHeartbeats 2000000 in
theorem tuple_lt2 (l b : Addr) (a1 a2 b1 b2 : Int) (t1 t2 u1 u2 : Tok) : Meets (Builtin.«tuple.__lt__» ⟨[.ref l, .ref b], []⟩)
    (fun A R s => s.heap.get? l = some (tupOf [.int a1 t1, .int a2 t2]) ∧ s.heap.get? b = some (tupOf [.int b1 u1, .int b2 u2]) ∧ R (.ok (.ret (.bool (lexB a1 a2 b1 b2)))) s) :=
  .of_wp fun prog w A R s h => by
    obtain ⟨hp, g, d, tk, os⟩ := s; obtain ⟨hl, hb, h⟩ := h
    have f2 := AutoSeq1.sub_tuple_tuple
    unfold lexB at h
    wp_walk using wpAny_loadPart' hl, wpAny_loadPart' hb, wpAny_forIn_list _ (fun rest b s' => b.1 = none ∧ s' = ⟨hp, g, d, tk, os⟩ ∧ (rest = [(.int a1 t1, .int b1 u1), (.int a2 t2, .int b2 u2)] ∨ (a1 = b1 ∧ rest = [(.int a2 t2, .int b2 u2)]) ∨ (a1 = b1 ∧ a2 = b2 ∧ rest = []))) _
    case turn =>
      rintro ⟨y, x⟩ rest b s' ⟨hb', rfl, hr⟩
      rcases hr with hr | ⟨e1, hr⟩ | ⟨_, _, hr⟩
      · cases hr
        refine wpAny_bind (eqb_int ?_)
        cases h1 : a1 == b1 with
        | true =>
          wp_walk
          exact ⟨rfl, rfl, .inr (.inl ⟨by simpa using h1, rfl⟩)⟩
        | false =>
          rw [h1] at h
          wp_walk using ltb_int
          exact ⟨_, rfl, h⟩
      · cases hr
        subst e1
        rw [beq_self_eq_true] at h
        refine wpAny_bind (eqb_int ?_)
        cases h1 : a2 == b2 with
        | true =>
          wp_walk
          exact ⟨rfl, rfl, .inr (.inr ⟨rfl, by simpa using h1, rfl⟩)⟩
        | false =>
          rw [h1] at h
          wp_walk using ltb_int
          exact ⟨_, rfl, h⟩
      · cases hr
    case fin =>
      rintro ⟨b1', b2'⟩ s' ⟨hb', rfl, hr⟩
      simp only at hb'
      subst hb'
      rcases hr with hr | ⟨_, hr⟩ | ⟨e1, e2, _⟩
      · cases hr
      · cases hr
      subst e1; subst e2
      simp only [beq_self_eq_true, if_true] at h
      wp_walk
      exact ⟨_, rfl, h⟩
    case h => exact ⟨rfl, rfl, .inl rfl⟩

end
theorem lexB_iff {a1 a2 b1 b2 : Int} : lexB a1 a2 b1 b2 = true ↔ a1 < b1 ∨ (a1 = b1 ∧ a2 < b2) := by
  unfold lexB
  by_cases h1 : a1 = b1
  · by_cases h2 : a2 = b2 <;> simp [h1, h2]
  · simp [h1]

/-- pairs of ints as tuples of the ledger -/
noncomputable def PairsAt (led : Led) (as : List Addr) (ps : List (Int × Int)) : Prop := as.length = ps.length ∧ ∀ (i : Nat) (a : Addr) (p : Int × Int), as[i]? = some a → ps[i]? = some p → ∃ u v, (a, tupOf [.int p.1 u, .int p.2 v]) ∈ led
section
variable {prog : Program} {w : World} {A : Around} {E : Value → Shared → Prop} {s : Shared} {g : Heap} {L I S D : Addr} {m : Map} {led : Led} {as : List Addr} {ps : List (Int × Int)} {n : Nat}
theorem lt_pairs {a b : Addr} {p q : Int × Int} {u1 u2 u3 u4 : Tok} {Q : Value → Shared → Prop} (N : News g L s.heap led) (ha : (a, tupOf [.int p.1 u1, .int p.2 u2]) ∈ led) (hb : (b, tupOf [.int q.1 u3, .int q.2 u4]) ∈ led) (hu : A.units < cLine)
    (h : Q (.bool (lexB p.1 p.2 q.1 q.2)) s) : wpAny (model prog w) A (richCompare .Lt (.ref a) (.ref b)) Q E s :=
  richCompare_meets_room (op := .Lt) ⟨_, (N _ ha).1, rfl⟩ ⟨_, (N _ hb).1, rfl⟩ PySem.F.slot_tuple_lt PySem.F.entry_tuple_lt (PySem.F.args_tuple_lt_2 _ _) (tuple_lt2 a b p.1 p.2 q.1 q.2 u1 u2 u3 u4)
    ⟨(N _ ha).1, (N _ hb).1, show Value.bool (lexB p.1 p.2 q.1 q.2) ≠ Value.notImplemented ∧ _ from ⟨(fun x => nomatch x), h⟩⟩ hu

/-- the least so far -/
noncomputable def BestAt (ps : List (Int × Int)) (j b : Nat) : Prop := b ≤ j ∧ ∃ p, ps[b]? = some p ∧ ∀ i q, i ≤ j → ps[i]? = some q → lexB q.1 q.2 p.1 p.2 = false
theorem BestAt.next {j b : Nat} {p q : Int × Int} (h : BestAt ps j b) (hp : ps[b]? = some p) (hq : ps[j + 1]? = some q) : if lexB q.1 q.2 p.1 p.2 = true then BestAt ps (j + 1) (j + 1) else BestAt ps (j + 1) b := by
  obtain ⟨hb, p', hp', hbest⟩ := h
  rw [hp] at hp'
  cases hp'
  split
  · rename_i hlt
    rw [lexB_iff] at hlt
    refine ⟨Nat.le_refl _, q, hq, fun i r hi hr => ?_⟩
    rcases Nat.lt_or_ge i (j + 1) with h1 | h1
    · have h2 := hbest i r (by omega) hr
      rw [Bool.eq_false_iff, ne_eq, lexB_iff] at h2 ⊢
      omega
    · have : i = j + 1 := by omega
      subst this
      rw [hq] at hr
      cases hr
      rw [Bool.eq_false_iff, ne_eq, lexB_iff]
      omega
  · rename_i hlt
    refine ⟨by omega, p, hp, fun i r hi hr => ?_⟩
    rcases Nat.lt_or_ge i (j + 1) with h1 | h1
    · exact hbest i r (by omega) hr
    · have : i = j + 1 := by omega
      subst this
      rw [hq] at hr
      cases hr
      simpa using hlt

theorem min_turns {R : Result → Shared → Prop} {g0 : Array GenState} {d0 : PySem.Drawn} {os0 : OsState} (hh : A.handled = none) (hIS : I ≠ S) (hIL : I ≠ L) (gI : g.get? I = none) (hI : ∀ p ∈ led, p.1 ≠ I) (hS : ∀ p ∈ led, p.1 ≠ S)
    (hD : (D, listOf (refsOf as).toArray n) ∈ led) (hp : PairsAt led as ps) (hu : A.units + 10 < cLine)
    (hR : ∀ b a h' tk, BestAt ps (as.length - 1) b → as[b]? = some a → Fr g L h' m → News g L h' led → R (.ok (.ret (.ref a))) ⟨h', g0, d0, tk, os0⟩) :
    ∀ (k j b : Nat) (a : Addr) (h : Heap) (tk c : Nat), as.length - (j + 1) = k → j + 1 ≤ as.length → h.IsListIter I D (j + 1) → BestAt ps j b → as[b]? = some a → Fr g L h m → News g L h ((S, listOf #[.ref a, .ref a] c) :: led) →
      codeAny (model prog w) A (.builtin "min.loop" ⟨[.ref I, .none, .ref S], []⟩) R ⟨h, g0, d0, tk, os0⟩ := by
  have hname : (toString "min" ++ toString ".loop" : String) = "min.loop" := by decide
  have hne : ∀ {a c}, ∀ p ∈ ((S, listOf #[Value.ref a, Value.ref a] c) :: led : Led), p.1 ≠ I := fun p hp => by
    rcases List.mem_cons.mp hp with rfl | hp
    · exact Ne.symm hIS
    · exact hI p hp
  intro k
  induction k with
  | zero =>
    intro j b a h tk c hk hj hit hb ha F N
    refine codeAny_builtin PySem.F.entry_min_loop ?_
    rw [Around.under_plainId PySem.F.plain_min_loop _]
    refine wpAny_bind (wpAny_seqItems (N _ (.head _)).1 rfl ?_)
    refine wpAny_bind (wpAny_tryCatch (wpAny_pyNext_list_end hh hit ⟨_, (N _ (.tail _ hD)).1, rfl, n, rfl⟩ (by simp [refsOf]; omega) fun h₁ he₁ => ?_))
    have F1 := fr_extBut F he₁ hIL gI
    have N1 := sub_of_extBut N he₁ hne
    refine wpAny_bind (wpAny_updateSeq (N1 _ (.head _)).1 rfl (wpAny_bind (wpAny_letGo (wpAny_pure ?_))))
    have h2 := N1 (S, listOf #[.ref a, .ref a] c) (.head _)
    refine hR b a _ tk (by rwa [show as.length - 1 = j by omega]) ha (fr_sameBut F1 (Heap.SameBut.update ..) h2.2.1 h2.2.2) fun p hp => ?_
    exact ⟨(Heap.get?_update_ne _ _ _ _ (hS p hp)).trans (N1 p (.tail _ hp)).1, (N1 p (.tail _ hp)).2⟩
  | succ k ih =>
    intro j b a h tk c hk hj hit hb ha F N
    have hlt : j + 1 < as.length := by omega
    have hlt2 : j + 1 < ps.length := hp.1 ▸ hlt
    obtain ⟨p, hbp⟩ : ∃ p, ps[b]? = some p := ⟨_, hb.2.choose_spec.1⟩
    have hq : ps[j + 1]? = some ps[j + 1] := List.getElem?_eq_getElem hlt2
    have hv : as[j + 1]? = some as[j + 1] := List.getElem?_eq_getElem hlt
    obtain ⟨u1, u2, m1⟩ := hp.2 _ _ _ hv hq
    obtain ⟨u3, u4, m2⟩ := hp.2 _ _ _ ha hbp
    have nx := hb.next hbp hq
    refine codeAny_builtin PySem.F.entry_min_loop ?_
    rw [Around.under_plainId PySem.F.plain_min_loop _]
    refine wpAny_bind (wpAny_seqItems (N _ (.head _)).1 rfl ?_)
    refine wpAny_bind (wpAny_tryCatch (wpAny_pyNext_list_item hit ⟨_, (N _ (.tail _ hD)).1, rfl, n, rfl⟩ (x := .ref as[j + 1]) (by simp [refsOf, hlt]) fun h₁ hI₁ hs₁ => ?_))
    have F1 := fr_sameBut F hs₁ hIL gI
    have N1 := sub_of_sameBut N hs₁ hne
    show wpAny _ A.in1 (tryCatch (holding [.ref as[j + 1], .ref as[j + 1]] (richCompare .Lt (.ref as[j + 1]) (.ref a) >>= _)) _ >>= _) _ _ _
    refine wpAny_bind (wpAny_tryCatch (wpAny_holding (wpAny_bind (lt_pairs (A := A.in1) (fun p hp => N1 p (.tail _ hp)) m1 m2 (by show A.units + 1 < cLine; omega) ?_))))
    refine wpAny_bind (wpAny_holding (wpAny_truthy_bool ?_))
    refine wpAny_bind (wpAny_letGo (wpAny_pure ?_))
    cases hc : lexB ps[j + 1].1 ps[j + 1].2 p.1 p.2 with
    | true =>
      rw [if_pos hc] at nx
      simp only [if_true]
      have h2 := N1 (S, listOf #[.ref a, .ref a] c) (.head _)
      refine wpAny_bind (wpAny_updateSeq h2.1 rfl (wpAny_bind (wpAny_letGo ?_)))
      rw [hname]
      refine wpAny_pure ⟨plainId_quiet PySem.F.plain_min_loop _, ?_⟩
      have sb := Heap.SameBut.update h₁ S (Obj.mapSeq fun _ => #[Value.ref as[j + 1], .ref as[j + 1]])
      obtain ⟨c2, hc2⟩ : ∃ c2, (h₁.update S (Obj.mapSeq fun _ => #[Value.ref as[j + 1], .ref as[j + 1]])).get? S = some (listOf #[.ref as[j + 1], .ref as[j + 1]] c2) := ⟨_, get?_update_seq h2.1 fun _ => #[Value.ref as[j + 1], .ref as[j + 1]]⟩
      refine ih (j + 1) (j + 1) as[j + 1] _ tk c2 (by omega) hlt ?_ nx hv (fr_sameBut F1 sb h2.2.1 h2.2.2) fun q hq => ?_
      · obtain ⟨o, ho, r⟩ := hI₁
        exact ⟨o, (Heap.get?_update_ne _ _ _ _ hIS).trans ho, r⟩
      · rcases List.mem_cons.mp hq with rfl | hq
        · exact ⟨hc2, h2.2⟩
        · exact ⟨(Heap.get?_update_ne _ _ _ _ (hS q hq)).trans (N1 q (.tail _ hq)).1, (N1 q (.tail _ hq)).2⟩
    | false =>
      rw [if_neg (by rw [hc]; exact Bool.false_ne_true)] at nx
      simp only [Bool.false_eq_true, if_false]
      refine wpAny_bind (wpAny_letGo ?_)
      rw [hname]
      refine wpAny_pure ⟨plainId_quiet PySem.F.plain_min_loop _, ?_⟩
      exact ih (j + 1) b a _ tk c (by omega) hlt hI₁ nx ha F1 N1

theorem Tr.minPairs {c : Cx} {k : Nat} (O : c.Ok (k + 2)) (hD : (D, listOf (refsOf as).toArray n) ∈ led) (hp : PairsAt led as ps) (hne : 0 < as.length) :
    Tr c m led (PySem.call (.builtin "min") [.ref D]) fun v m' led' => m' = m ∧ led' = led ∧ ∃ b a, v = .ref a ∧ as[b]? = some a ∧ BestAt ps (as.length - 1) b := by
  intro s F N
  have hname : (toString "min" ++ toString ".loop" : String) = "min.loop" := by decide
  refine call_function_tree PySem.F.kind_min PySem.F.plain_min PySem.F.entry_min (PySem.F.args_min1 _) ?_
  refine wpAny_bind (wpAny_of_eq (show Builtin.Builtins.bindParams "min" ["key", "default"] 0 ⟨[], []⟩ = Pure.pure [none, none] from rfl) ?_)
  refine wpAny_bind (wpAny_pure ?_)
  have hl : s.heap.IsList D (refsOf as).toArray := ⟨_, (N _ hD).1, rfl, n, rfl⟩
  refine wpAny_bind (wpAny_pyIter_list hl ?_)
  refine wpAny_bind (wpAny_newObj_type ?_)
  rw [hname]
  refine wpAny_pure ⟨plainId_quiet PySem.F.plain_min_loop _, ?_⟩
  have sI : s.heap.objs.size < (s.heap.push ({ cls := .type "list_iterator", data := .fields #[.ref D, .int 0 0] } : Obj)).objs.size := by rw [Heap.size_push]; exact Nat.lt_succ_self _
  have nI : ∀ p ∈ led, p.1 < s.heap.objs.size := fun p hp => Heap.lt_size (N p hp).1
  have F1 := (F.push ({ cls := .type "list_iterator", data := .fields #[.ref D, .int 0 0] } : Obj)).push (listOf #[] 0)
  have keep : ∀ b o, s.heap.get? b = some o → ((s.heap.push ({ cls := .type "list_iterator", data := .fields #[.ref D, .int 0 0] } : Obj)).push (listOf #[] 0)).get? b = some o := fun b o e => Heap.get?_push_of_some _ (Heap.get?_push_of_some _ e)
  have hIL : s.heap.objs.size ≠ c.L := fun e => absurd F.ns.lt (e ▸ Nat.lt_irrefl _)
  have gI := next_is_new F
  generalize hS : (s.heap.push ({ cls := .type "list_iterator", data := .fields #[.ref D, .int 0 0] } : Obj)).objs.size = S at *
  have N1 : News c.g c.L ((s.heap.push ({ cls := .type "list_iterator", data := .fields #[.ref D, .int 0 0] } : Obj)).push (listOf #[] 0)) ((S, listOf #[] 0) :: led) := fun p hp => by
    rcases List.mem_cons.mp hp with rfl | hp
    · refine ⟨hS ▸ Heap.get?_push_size _ rfl, fun e => ?_, ?_⟩
      · exact absurd F.ns.lt (e ▸ Nat.not_lt.mpr (Nat.le_of_lt sI))
      · exact not_above (Nat.le_trans F.above (Nat.le_trans (Nat.le_of_lt F.ns.lt) (Nat.le_of_lt sI)))
    · exact ⟨keep _ _ (N p hp).1, (N p hp).2⟩
  have hit : ((s.heap.push ({ cls := .type "list_iterator", data := .fields #[.ref D, .int 0 0] } : Obj)).push (listOf #[] 0)).IsListIter s.heap.objs.size D 0 :=
    ⟨_, Heap.get?_push_of_some _ (Heap.get?_push_size _ rfl), rfl, rfl⟩
  have hIne : ∀ p ∈ led, p.1 ≠ s.heap.objs.size := fun p hp => Nat.ne_of_lt (nI p hp)
  have hSne : ∀ p ∈ led, p.1 ≠ S := fun p hp => Nat.ne_of_lt (Nat.lt_trans (nI p hp) sI)
  have hIS : s.heap.objs.size ≠ S := Nat.ne_of_lt sI
  show codeAny _ _ _ _ ⟨(s.heap.push ({ cls := .type "list_iterator", data := .fields #[.ref D, .int 0 0] } : Obj)).push (listOf #[] 0), s.gens, s.drawn, s.toks, s.os⟩
  generalize ((s.heap.push ({ cls := .type "list_iterator", data := .fields #[.ref D, .int 0 0] } : Obj)).push (listOf #[] 0)) = H at *
  have hv : as[0]? = some as[0] := List.getElem?_eq_getElem hne
  have h0 : 0 < ps.length := hp.1 ▸ hne
  refine codeAny_builtin PySem.F.entry_min_loop ?_
  rw [Around.under_plainId PySem.F.plain_min_loop _]
  refine wpAny_bind (wpAny_seqItems (N1 _ (.head _)).1 rfl ?_)
  refine wpAny_bind (wpAny_tryCatch (wpAny_pyNext_list_item hit ⟨_, (N1 _ (.tail _ hD)).1, rfl, n, rfl⟩ (x := .ref as[0]) (by simp [refsOf, hne]) fun h₁ hI₁ hs₁ => ?_))
  have F2 := fr_sameBut F1 hs₁ hIL gI
  have N2 := sub_of_sameBut N1 hs₁ fun p hp => by
    rcases List.mem_cons.mp hp with rfl | hp
    · exact Ne.symm hIS
    · exact hIne p hp
  have h2 := N2 (S, listOf #[] 0) (.head _)
  show wpAny _ _ (updateSeq S (fun _ => #[Value.ref as[0], .ref as[0]]) >>= _) _ _ _
  refine wpAny_bind (wpAny_updateSeq h2.1 rfl ?_)
  rw [hname]
  refine wpAny_pure ⟨plainId_quiet PySem.F.plain_min_loop _, ?_⟩
  obtain ⟨c2, hc2⟩ : ∃ c2, (h₁.update S (Obj.mapSeq fun _ => #[Value.ref as[0], .ref as[0]])).get? S = some (listOf #[.ref as[0], .ref as[0]] c2) := ⟨_, get?_update_seq h2.1 fun _ => #[Value.ref as[0], .ref as[0]]⟩
  refine min_turns (as := as) (ps := ps) (n := n) (led := led) (A := c.A) rfl hIS hIL gI hIne hSne hD hp (by have := O.units; simp only [units_top]; omega) (fun b a h' tk hb ha F' N' => .mk ⟨rfl, rfl, b, a, rfl, ha, hb⟩ F' N') _ 0 0 as[0] _ _ c2 rfl hne ?_ ⟨Nat.le_refl _, ps[0], List.getElem?_eq_getElem h0, fun i q hi hq => ?_⟩ hv
    (fr_sameBut F2 (Heap.SameBut.update ..) h2.2.1 h2.2.2) fun q hq => ?_
  · obtain ⟨o, ho, r⟩ := hI₁
    exact ⟨o, (Heap.get?_update_ne _ _ _ _ hIS).trans ho, r⟩
  · have : i = 0 := by omega
    subst this
    rw [List.getElem?_eq_getElem h0] at hq
    cases hq
    rw [Bool.eq_false_iff, ne_eq, lexB_iff]
    omega
  · rcases List.mem_cons.mp hq with rfl | hq
    · exact ⟨hc2, h2.2⟩
    · exact ⟨(Heap.get?_update_ne _ _ _ _ (hSne q hq)).trans (N2 q (.tail _ hq)).1, (N2 q (.tail _ hq)).2⟩
end
theorem Ev.neg1 {c : Cx} {m : Map} {led : Led} {i : Int} {n : Nat} {pos pos' : Pos} : Ev c m led (.UnaryOp .USub (.Constant (.int i) n pos) pos') (.int (-i)) := fun s F N =>
  PyProof.Rows.UnaryOp_ (wpAny_Constant_int (neg_int (.mk ⟨⟨_, rfl⟩, rfl, rfl⟩ F N)))
/-- a member's number, -1 for none -/
noncomputable def numO (as : List Addr) : Option Addr → Int
  | some b => (as.idxOf b : Nat)
  | none => -1
theorem number_fn (w : World) {l : Addr} {as : List Addr} {n : Nat} {x : Option Addr} {v : Value} {led : Led} (hl : (l, listOf (refsOf as).toArray n) ∈ led) (ha : ∀ a ∈ as, IsInst led a) (hv : (ownD x).Is v) (hx : ∀ b, x = some b → b ∈ as) (hz : as.length ≤ 1000) :
    Fn w 206 [.ref l, v] led 2 (fun led' r => (Dm.int (numO as x)).Is r ∧ led' = led) := by
  have e0 : Challenge.rw_sa0304_01 = Challenge.rw_sa0304_01 ∧ KH = KH := ⟨rfl, rfl⟩
  revert e0; k_fill; intro _
  k_dflt (refine' Fn.enter (binds := [(Str.ofString "decls", .ref l), (Str.ofString "decl", v)]) ?ho ?hcd ?hb ?hl ?c2 ?c3 ?c4 ?c5 ?_; (case ho => k_is); (case hcd => k_is); (case hb => exact fun s => BindsTo.of_eq rfl); (case hl => exact locs rfl); (case c2 => exact rfl); (case c3 => exact rfl); (case c4 => exact rfl); (case c5 => decide))
  intro c hw O he l1
  generalize hm0 : (fun y => List.lookup y [((Str.ofString "decls"), Value.ref l), ((Str.ofString "decl"), v)].reverse) = m0
  have n1 {p} : Ev c m0 led (.Name (Str.ofString "decls") p) (.ref l) := .loc O (by rw [he]; rfl) (by subst hm0; rfl) rfl
  have n2 {p} : Ev c m0 led (.Name (Str.ofString "decl") p) (ownD x) := .loc O (by rw [he]; rfl) (by subst hm0; rfl) hv
  clear hm0
  refine St.ret ?_
  cases x with
  | none => exact Tr.mono (Tr.ifexp (b := true) (P := fun v m' led' => (Dm.int (numO as none)).Is v ∧ m' = m0 ∧ led' = led) (.cmp n2 .none_ .isNone) (fun _ => Ev.neg1) fun h => nomatch h) fun v m' led' ⟨h1, _, h3⟩ => ⟨h1, h3⟩
  | some b => exact Tr.mono (Tr.ifexp (b := false) (P := fun v m' led' => (Dm.int (numO as (some b))).Is v ∧ m' = m0 ∧ led' = led) (.cmp n2 .none_ .isNone) (fun h => nomatch h) fun _ => Ev.indexRefs O n1 n2 hl ha (hx b rfl) hz) fun v m' led' ⟨h1, _, h3⟩ => ⟨h1, h3⟩
/-- a row's data by their keys -/
noncomputable def rowL (r : Row) : List (Str × Dm) :=
  [((Str.ofString "at"), .int r.spot), ((Str.ofString "sort"), .str r.sort), ((Str.ofString "call"), .str r.call), ((Str.ofString "key"), .str r.key), ((Str.ofString "duty"), .str r.duty), ((Str.ofString "seen"), .str r.seen), ((Str.ofString "full"), .bool r.full)]
structure RowAt (w : World) (led : Led) (a : Addr) (r : Row) : Prop where
  out : ∃ o kvs, (a, o) ∈ led ∧ o.IsDictOf (PySem.strKind Challenge.rw_sa0304_01.row.prog w) kvs ∧ ∀ p ∈ rowL r, ∃ v, valueAt kvs p.1 = some v ∧ p.2.Is v
theorem RowAt.mono {w : World} {led led' : Led} {a : Addr} {r : Row} (h : RowAt w led a r) (hs : ∀ p ∈ led, p ∈ led') : RowAt w led' a r :=
  let ⟨o, kvs, h1, h2, h3⟩ := h.out; ⟨o, kvs, hs _ h1, h2, h3⟩
/-- the rows' list -/
structure RowsAt (w : World) (led : Led) (R : Addr) (rs : List Row) : Prop where
  out : ∃ (as : List Addr) (n : Nat), (R, listOf (refsOf as).toArray n) ∈ led ∧ as.length = rs.length ∧ ∀ (i : Nat) (r : Row), rs[i]? = some r → ∃ a, as[i]? = some a ∧ RowAt w led a r
  short : rs.length ≤ 900
section
variable {c : Cx} {m : Map} {led : Led} {e e1 e2 : Expr} {d : Dm} {pos : Pos} {a : Addr} {r : Row} {x : Str}
theorem Ev.get (h1 : Ev c m led e1 (.ref a)) (h2 : Ev c m led e2 (.str x)) (hr : RowAt c.w led a r) (hx : (x, d) ∈ rowL r)
    (hs : ∀ t, subscripted e2 false (.ref a) (.str x t) = operate [.ref a, .str x t] (getItem (.ref a) (.str x t)) := by intro _; with_unfolding_all rfl) : Ev c m led (.Subscript e1 e2 pos) d := fun s F N =>
  Subscript_ (h1.use F N fun o h' tk i F' N' => h2.use F' N' fun o2 h3 tk3 i2 F3 N3 => by
    cases i
    obtain ⟨t, rfl⟩ := i2
    obtain ⟨o, kvs, q1, q2, q3⟩ := hr.out
    obtain ⟨v, hv, hd⟩ := q3 _ hx
    have hD := kda_dict (s := ⟨h3, s.gens, s.drawn, tk3, s.os⟩) N3 q1 q2
    exact tail_any hD.typeIs slot_dict_getitem.lookup (wpAny_getItem_of (strKind_is _ _ _ _) hD.mapOf hv (.mk ⟨hd, rfl, rfl⟩ F3 N3)) (hs t))
theorem RowsAt.at {w : World} {R : Addr} {rs : List Row} {i : Nat} (hR : RowsAt w led R rs) (hi : rs[i]? = some r) : ∃ a, RowAt w led a r ∧ ∀ {c : Cx} {m : Map} {led' : Led} {e1 e2 : Expr} {pos : Pos}, (∀ p ∈ led, p ∈ led') → Ev c m led' e1 (.ref R) → Ev c m led' e2 (.int i) →
    (∀ t, subscripted e2 false (.ref R) (.int i t) = operate [.ref R, .int i t] (getItem (.ref R) (.int i t))) → Ev c m led' (.Subscript e1 e2 pos) (.ref a) := by
  obtain ⟨as, n, q1, q2, q3⟩ := hR.out
  obtain ⟨a, ha, hr⟩ := q3 i r hi
  have hlt : i < rs.length := (List.getElem?_eq_some_iff.mp hi).1
  have := hR.short
  exact ⟨a, hr, fun hs h1 h2 hx => .item h1 h2 (hs _ q1) (by omega) (by omega) (v := .ref a) (by simp only [Int.toNat_natCast, refsOf, List.getElem?_map, ha, Option.map_some]) rfl hx⟩
end
section
open PySem.SeqAt
/-- two values of the ledger, compared -/
noncomputable def EqV (c : Cx) (led : Led) (x y : Value) (b : Bool) : Prop := ∀ (m : Map) (s : Shared), Fr c.g c.L s.heap m → News c.g c.L s.heap led → EqAt c.A.in1 s x y b
/-- two lists of the ledger, compared -/
noncomputable def SameL (c : Cx) (led : Led) (xs ys : List Value) (b : Bool) : Prop :=
  ∃ e : Nat → Bool, (∀ j x y, xs[j]? = some x → ys[j]? = some y → EqV c led x y (e j)) ∧ b = (xs.length == ys.length && (List.range xs.length).all e)
theorem same_at {α : Type} [BEq α] [LawfulBEq α] [DecidableEq α] (as bs : List α) : decide (as = bs) = (as.length == bs.length && (List.range as.length).all fun j => as[j]? == bs[j]?) := by
  rw [Bool.eq_iff_iff, decide_eq_true_iff, Bool.and_eq_true, beq_iff_eq, List.all_eq_true]
  constructor
  · rintro rfl; exact ⟨rfl, fun _ _ => beq_self_eq_true _⟩
  · rintro ⟨h1, h2⟩
    refine List.ext_getElem? fun j => ?_
    rcases Nat.lt_or_ge j as.length with h | h
    · exact eq_of_beq (h2 j (List.mem_range.mpr h))
    · rw [List.getElem?_eq_none h, List.getElem?_eq_none (h1 ▸ h)]
theorem SameL.nil {c : Cx} {led : Led} {xs : List Value} : SameL c led xs [] xs.isEmpty := ⟨fun _ => true, (fun j x y _ h => nomatch h), by cases xs <;> rfl⟩
theorem SameL.ints {c : Cx} {led : Led} {xs ys : List Value} {ns ms : List Int} (h1 : IntsAre xs ns) (h2 : IntsAre ys ms) : SameL c led xs ys (decide (ns = ms)) := by
  refine ⟨fun j => ns[j]? == ms[j]?, fun j x y hx hy => ?_, by rw [same_at, h1.length, h2.length]⟩
  obtain ⟨a, t, rfl, ha⟩ := h1.at j x hx
  obtain ⟨b, u, rfl, hb⟩ := h2.at j y hy
  show EqV c led _ _ (ns[j]? == ms[j]?)
  rw [ha, hb]
  exact fun _ _ _ _ => EqAt.int_int a t b u
theorem SameL.refs {c : Cx} {k : Nat} {led : Led} {as bs : List Addr} (O : c.Ok (k + 1)) (ha : ∀ a ∈ as, IsInst led a) (hb : ∀ a ∈ bs, IsInst led a) : SameL c led (refsOf as) (refsOf bs) (decide (as = bs)) := by
  refine ⟨fun j => as[j]? == bs[j]?, fun j x y hx hy => ?_, by rw [same_at, refsOf_len, refsOf_len]⟩
  rw [refsOf_get] at hx hy
  obtain ⟨a, h1, rfl⟩ := Option.map_eq_some_iff.mp hx
  obtain ⟨b, h2, rfl⟩ := Option.map_eq_some_iff.mp hy
  show EqV c led _ _ (as[j]? == bs[j]?)
  rw [h1, h2]
  exact fun _ _ F N => eqAt_inst (w := c.w) (O.X.keeps F.keep) N (ha a (List.mem_of_getElem? h1)) (hb b (List.mem_of_getElem? h2)) (by have := O.units; show c.un + 1 < cLine; omega)
section
variable {c : Cx} {m : Map} {led : Led} {e1 e2 : Expr} {pos : Pos} {b : Bool} {k : Nat} {xs ys : List Value}
theorem SameL.ne {a b' : Addr} {n n' : Nat} {led : Led} {s : Shared} {Q : Value → Shared → Prop} {E : Value → Shared → Prop} (O : c.Ok (k + 1)) (h : SameL c led xs ys b) (F : Fr c.g c.L s.heap m) (N : News c.g c.L s.heap led) (ha : (a, listOf xs.toArray n) ∈ led) (hb : (b', listOf ys.toArray n') ∈ led)
    (hq : Q (.bool (!b)) s) : wpAny c.M c.A (compareOp .NotEq (.ref a) (.ref b')) Q E s := by
  obtain ⟨e, he, rfl⟩ := h
  have hu : c.A.units < cLine := by have := O.units; show c.un < cLine; omega
  have i1 : s.heap.IsList a xs.toArray := ⟨_, (N _ ha).1, rfl, n, rfl⟩
  have i2 : s.heap.IsList b' ys.toArray := ⟨_, (N _ hb).1, rfl, n', rfl⟩
  by_cases hl : xs.length = ys.length
  · rw [beq_iff_eq.mpr hl, Bool.true_and] at hq
    exact RcNeAt.lists i1 i2 (by simpa using hl) hu (fun j h1 h2 => he j _ _ (by simp at h1 ⊢) (by simp at h2 ⊢) m s F N) _ _ E Q (by simpa using hq)
  · rw [beq_eq_false_iff_ne.mpr hl, Bool.false_and] at hq
    exact RcNeAt.lists_lengths i1 i2 (by simpa using hl) hu _ _ E Q hq
theorem SameL.eq {a b' : Addr} {n n' : Nat} {led : Led} {s : Shared} {Q : Value → Shared → Prop} {E : Value → Shared → Prop} (O : c.Ok (k + 1)) (h : SameL c led xs ys b) (F : Fr c.g c.L s.heap m) (N : News c.g c.L s.heap led) (ha : (a, listOf xs.toArray n) ∈ led) (hb : (b', listOf ys.toArray n') ∈ led)
    (hq : Q (.bool b) s) : wpAny c.M c.A (compareOp .Eq (.ref a) (.ref b')) Q E s := by
  obtain ⟨e, he, rfl⟩ := h
  have hu : c.A.units < cLine := by have := O.units; show c.un < cLine; omega
  have i1 : s.heap.IsList a xs.toArray := ⟨_, (N _ ha).1, rfl, n, rfl⟩
  have i2 : s.heap.IsList b' ys.toArray := ⟨_, (N _ hb).1, rfl, n', rfl⟩
  by_cases hl : xs.length = ys.length
  · rw [beq_iff_eq.mpr hl, Bool.true_and] at hq
    exact eq_listAt i1 i2 (by simpa using hl) hu (fun j h1 h2 => he j _ _ (by simp at h1 ⊢) (by simp at h2 ⊢) m s F N) (by simpa using hq)
  · rw [beq_eq_false_iff_ne.mpr hl, Bool.false_and] at hq
    exact eq_list_lengthsAt i1 i2 (by simpa using hl) hu hq
/-- e1 != e2, two lists -/
theorem Tst.listsNe (O : c.Ok (k + 1)) (h : Tr c m led (eval e1 c.env) fun v1 m1 led1 => m1 = m ∧ ∃ a xs n, v1 = .ref a ∧ Tr c m led1 (eval e2 c.env) fun v2 m2 led2 => m2 = m ∧ (∀ p ∈ led, p ∈ led2) ∧ (a, listOf xs.toArray n) ∈ led2 ∧ ∃ b' ys n', v2 = .ref b' ∧ (b', listOf ys.toArray n') ∈ led2 ∧ SameL c led2 xs ys b)
    (hs : behindInMarks .NotEq e2 = false := by rfl) : Tst c m led (.Compare e1 [.NotEq] [e2] pos) (!b) := fun s F N =>
  wpAny_isTrue_Compare1 (h.use F N fun v1 m1 led1 h' tk ⟨em, a, xs, n, ev, h2⟩ F' N' => by
    subst em; subst ev
    refine h2.use F' N' fun v2 m2 led2 h3 tk3 ⟨em, hs, ha, b', ys, n', ev, hb, hl⟩ F3 N3 => ?_
    subst em; subst ev
    exact hl.ne O F3 N3 ha hb (wpAny_truthy_bool (.mk ⟨rfl, rfl, rfl⟩ F3 (News.sub N3 hs)))) hs
theorem Tst.listsEq (O : c.Ok (k + 1)) (h : Tr c m led (eval e1 c.env) fun v1 m1 led1 => m1 = m ∧ ∃ a xs n, v1 = .ref a ∧ Tr c m led1 (eval e2 c.env) fun v2 m2 led2 => m2 = m ∧ (∀ p ∈ led, p ∈ led2) ∧ (a, listOf xs.toArray n) ∈ led2 ∧ ∃ b' ys n', v2 = .ref b' ∧ (b', listOf ys.toArray n') ∈ led2 ∧ SameL c led2 xs ys b)
    (hs : behindInMarks .Eq e2 = false := by rfl) : Tst c m led (.Compare e1 [.Eq] [e2] pos) b := fun s F N =>
  wpAny_isTrue_Compare1 (h.use F N fun v1 m1 led1 h' tk ⟨em, a, xs, n, ev, h2⟩ F' N' => by
    subst em; subst ev
    refine h2.use F' N' fun v2 m2 led2 h3 tk3 ⟨em, hs, ha, b', ys, n', ev, hb, hl⟩ F3 N3 => ?_
    subst em; subst ev
    exact hl.eq O F3 N3 ha hb (wpAny_truthy_bool (.mk ⟨rfl, rfl, rfl⟩ F3 (News.sub N3 hs)))) hs
/-- a tuple's item -/
theorem Tr.tupAt {P : Value → Map → Led → Prop} (h : Tr c m led (eval e1 c.env) fun v m1 led1 => ∃ a vs, v = .ref a ∧ Tr c m1 led1 (eval e2 c.env) fun v2 m2 led2 => (a, tupOf vs) ∈ led2 ∧ ∃ i t u, v2 = .int i t ∧ 0 ≤ i ∧ i < (vs.length : Int) ∧ vs.length ≤ 1000 ∧ (vs[i.toNat]? = some u ∧ P u m2 led2))
    (hs : ∀ (a : Addr) i t, subscripted e2 false (.ref a) (.int i t) = operate [.ref a, .int i t] (getItem (.ref a) (.int i t)) := by intro _ _ _; with_unfolding_all rfl) : Tr c m led (eval (.Subscript e1 e2 pos) c.env) P := fun s F N =>
  Subscript_ (h.use F N fun v m1 led1 h' tk ⟨a, vs, ev, h2⟩ F' N' => by
    subst ev
    refine h2.use F' N' fun v2 m2 led2 h3 tk3 ⟨ha, i, t, u, ev, h0, h1, hz, hu, hp⟩ F3 N3 => ?_
    subst ev
    have ht : IsTup h3 a vs.toArray := ⟨_, (N3 _ ha).1, rfl, 0, rfl⟩
    exact tail_any (s := ⟨h3, s.gens, s.drawn, tk3, s.os⟩) (T := "tuple") ⟨_, (N3 _ ha).1, rfl⟩ slot_tuple_getitem.lookup (PyProof.Rows.getItem_tuple ht (by omega) (by omega) (j := i.toNat) (by rw [List.size_toArray]; unfold seqIndex?; rw [if_neg (by omega : ¬ i < 0), if_pos (by rw [Bool.and_eq_true, decide_eq_true_iff, decide_eq_true_iff]; exact ⟨h0, h1⟩)]) (by simpa using hu) (.mk hp F3 N3)) (hs _ _ _))
/-- the place of an int in a list of ints -/
theorem Ev.indexInts {vs : List Value} {ns : List Int} {n : Nat} {y : Int} {l : Addr} {apos : Pos} {pl : Sem Bool} (O : c.Ok (k + 1)) (h1 : Ev c m led e1 (.ref l)) (h2 : Ev c m led e2 (.int y)) (hl : (l, listOf vs.toArray n) ∈ led) (hi : IntsAre vs ns) (hx : y ∈ ns) (hz : ns.length ≤ 1000)
    (hs : eval ((e1.Attribute (Str.ofString "index") apos).Call [e2] [] pos) c.env = (do
          let ov ← eval e1 c.env
          standAt apos.atName
          let __x ← holding [ov] (getMethod ov (Str.ofString "index") pl)
          match __x with
            | (f, first) => callWith pos f first (backTo pos (starEach [e2] c.env)) []) := by rfl)
    (he : starEach [e2] c.env = (false, eval e2 c.env) :: starEach [] c.env := by rfl) (hp : (backTo pos (starEach [] c.env)).any (·.1) = false := by rfl) :
    Ev c m led (.Call (.Attribute e1 (Str.ofString "index") apos) [e2] [] pos) (.int (ns.idxOf y : Nat)) := fun s F N =>
  MethodCall_ (pl := pl) (h1.use F N fun v h' tk i F' N' => by
    cases i
    refine kf_method N' hl PySem.F.slot_list_index PySem.F.type_list_index ?_
    refine callWith_method1 (spliced_more (h2.use F' N' fun v2 h3 tk3 i2 F3 N3 => spliced_none ?_) he) he hp
    obtain ⟨t, rfl⟩ := i2
    have hlt : ns.idxOf y < ns.length := List.idxOf_lt_length_of_mem hx
    have at' : ∀ (j : Nat) (h : j < ns.length), numOf (vs[j]'(by rw [hi.length]; exact h)) = ns[j] := fun j h => (List.getElem_map numOf).symm.trans (List.getElem_of_eq hi.nums (by rw [List.length_map, hi.length]; exact h))
    refine call_meets PySem.F.slot_list_index ⟨_, (N3 _ hl).1, rfl⟩ PySem.F.entry_list_index (PySem.F.args_list_index_2 _ _)
      (MeetsSeq.list_index l vs.toArray n (.int y t) (fun v => numOf v == y) (fun v hv => ?_) (ns.idxOf y) (by rw [List.size_toArray, hi.length]; exact hlt) (by omega) ?_ ?_) ⟨(N3 _ hl).1, .mk ⟨⟨_, rfl⟩, rfl, rfl⟩ F3 N3⟩
    · obtain ⟨a, u, rfl⟩ := hi.all v (by simpa using hv)
      exact .int a y u t
    · rw [List.getElem_toArray, at' _ hlt, List.getElem_idxOf hlt, beq_self_eq_true]
    · intro j hj h2
      rw [List.getElem_toArray, at' _ (Nat.lt_trans h2 hlt), beq_eq_false_iff_ne]
      have h3 := List.not_of_lt_findIdx (p := (· == y)) (xs := ns) h2
      simpa using h3) hs
end
end
noncomputable def noRow : Row := ⟨0, (Str.ofString "f"), (Str.ofString "f"), (Str.ofString "f"), (Str.ofString "f"), (Str.ofString "f"), false⟩
noncomputable def spotZ (rs : List Row) (j : Nat) : Int := ((rs[j]?.getD noRow).spot : Nat)
/-- a number's rank: the place of its contract in the order, and itself -/
noncomputable def rankZ (rs : List Row) (ord : List Int) (j : Nat) : Int × Int := ((ord.idxOf (spotZ rs j) : Nat), (j : Int))
noncomputable def inOrd (rs : List Row) (ord : List Int) (j : Nat) : Bool := ord.any (· == spotZ rs j)
/-- the least of the wanted, -1 for none -/
noncomputable def Least (rs : List Row) (ord : List Int) (ws : List Nat) (z : Int) : Prop :=
  (z = -1 ∧ ∀ j ∈ ws, inOrd rs ord j = false) ∨ ∃ j, j ∈ ws ∧ inOrd rs ord j = true ∧ z = (j : Int) ∧ ∀ i ∈ ws, inOrd rs ord i = true → lexB (rankZ rs ord i).1 (rankZ rs ord i).2 (rankZ rs ord j).1 (rankZ rs ord j).2 = false
theorem RowsAt.mono {w : World} {led led' : Led} {R : Addr} {rs : List Row} (h : RowsAt w led R rs) (hs : ∀ p ∈ led, p ∈ led') : RowsAt w led' R rs :=
  let ⟨as, n, h1, h2, h3⟩ := h.out; ⟨⟨as, n, hs _ h1, h2, fun i r hr => let ⟨a, q1, q2⟩ := h3 i r hr; ⟨a, q1, q2.mono hs⟩⟩, h.short⟩
noncomputable abbrev natZ (ws : List Nat) : List Int := ws.map fun (j : Nat) => (j : Int)
theorem natAt {vs : List Value} {ws : List Nat} (h : IntsAre vs (natZ ws)) {i : Nat} {v : Value} (hv : vs[i]? = some v) : ∃ j t, v = .int (j : Nat) t ∧ ws[i]? = some j := by
  obtain ⟨n, t, rfl, hn⟩ := h.at i v hv
  rw [List.getElem?_map] at hn
  obtain ⟨j, hj, rfl⟩ := Option.map_eq_some_iff.mp hn
  exact ⟨j, t, rfl, hj⟩
theorem PairsAt.mono {led led' : Led} {as : List Addr} {ps : List (Int × Int)} (h : PairsAt led as ps) (hs : ∀ p ∈ led, p ∈ led') : PairsAt led' as ps :=
  ⟨h.1, fun i a p ha hp => let ⟨u, v, h⟩ := h.2 i a p ha hp; ⟨u, v, hs _ h⟩⟩
theorem PairsAt.snoc {led : Led} {as : List Addr} {ps : List (Int × Int)} {a : Addr} {p : Int × Int} {u v : Tok} (h : PairsAt led as ps) (ha : (a, tupOf [.int p.1 u, .int p.2 v]) ∈ led) : PairsAt led (as ++ [a]) (ps ++ [p]) := by
  refine ⟨by rw [List.length_append, List.length_append, h.1]; rfl, fun i b q hb hq => ?_⟩
  rcases Nat.lt_or_ge i as.length with hi | hi
  · rw [List.getElem?_append_left hi] at hb
    rw [List.getElem?_append_left (h.1 ▸ hi)] at hq
    exact h.2 i b q hb hq
  · rw [List.getElem?_append_right hi] at hb
    rw [List.getElem?_append_right (h.1 ▸ hi), ← h.1] at hq
    cases e : i - as.length with
    | zero => rw [e] at hb hq; cases hb; cases hq; exact ⟨u, v, ha⟩
    | succ k => rw [e] at hb; cases hb
theorem take_filter {α : Type} {l : List α} {p : α → Bool} {i : Nat} {a : α} (h : l[i]? = some a) : (l.take (i + 1)).filter p = (l.take i).filter p ++ (if p a then [a] else []) := by
  rw [List.take_add_one, h, List.filter_append]
  congr 1
  show List.filter p [a] = _
  cases hp : p a <;> simp [List.filter, hp]
theorem comp_push {ledJ led3 : Led} {D I : Addr} {oD oI : Obj} {x : Addr × Obj} (h3 : (D, oD) :: (I, oI) :: ledJ = led3) (hl : ∀ p ∈ led3, p.1 < x.1) (ha : Apart ledJ [D, I]) : (∀ p ∈ (D, oD) :: (I, oI) :: x :: ledJ, p ∈ x :: led3) ∧ Apart (x :: ledJ) [D, I] := by
  subst h3
  refine ⟨fun p hp => ?_, fun p hp a hm => ?_⟩
  · rcases List.mem_cons.mp hp with rfl | hp
    · exact .tail _ (.head _)
    rcases List.mem_cons.mp hp with rfl | hp
    · exact .tail _ (.tail _ (.head _))
    rcases List.mem_cons.mp hp with rfl | hp
    · exact .head _
    · exact .tail _ (.tail _ (.tail _ hp))
  · rcases List.mem_cons.mp hp with rfl | hp
    · rcases List.mem_cons.mp hm with rfl | hm
      · exact (Nat.ne_of_lt (hl _ (.head _))).symm
      · exact List.mem_singleton.mp hm ▸ (Nat.ne_of_lt (hl _ (.tail _ (.head _)))).symm
    · exact ha p hp a hm
theorem nsMin (P : Params) : nsIn (KH P) mainGlobals (Str.ofString "min") = some none := by kernel_rfl
theorem least_fn (w : World) {R Oa Wa : Addr} {rs : List Row} {ovs wvs : List Value} {ord : List Int} {ws : List Nat} {no nw : Nat} {led : Led} (hR : RowsAt w led R rs) (hO : (Oa, listOf ovs.toArray no) ∈ led) (hOi : IntsAre ovs ord) (hOz : ord.length ≤ 1000)
    (hW : (Wa, listOf wvs.toArray nw) ∈ led) (hWi : IntsAre wvs (natZ ws)) (hwb : ∀ j ∈ ws, j < rs.length) (hwz : ws.length ≤ 1000) :
    Fn w 179 [.ref R, .ref Oa, .ref Wa] led 3 (fun led' v => led' = led ∧ ∃ z, (Dm.int z).Is v ∧ Least rs ord ws z) := by
  have e0 : Challenge.rw_sa0304_01 = Challenge.rw_sa0304_01 ∧ KH = KH := ⟨rfl, rfl⟩
  revert e0; k_fill; intro _
  k_dflt (refine' Fn.enterC (binds := [(Str.ofString "rows", .ref R), (Str.ofString "order", .ref Oa), (Str.ofString "wanted", .ref Wa)]) ?ho ?hcd ?hb ?hk ?hn ?c2 ?c3 ?c4 ?_; (case ho => k_is); (case hcd => k_is); (case hb => exact fun s => BindsTo.of_eq rfl); (case hk => exact rfl); (case hn => decide +kernel); (case c2 => exact rfl); (case c3 => exact rfl); (case c4 => exact rfl))
  intro c cells hw O he l1 Y
  obtain ⟨oo, or, rfl, d1, d2⟩ := CellsAre.two Y
  subst hw
  have kS : c.env.kindOf (Str.ofString "some") = some .local := by rw [he]; rfl
  have kW : c.env.kindOf (Str.ofString "wanted") = some .local := by rw [he]; rfl
  have kM : c.env.kindOf (Str.ofString "min") = some .globalImplicit := by rw [he]; rfl
  have i1 : or.data = .cell (some (.ref R)) := d2
  have i2 : oo.data = .cell (some (.ref Oa)) := d1
  generalize hm0 : bindL (envOfC _ _ c.L 179 (Value.ref 178)).kindOf _ _ = m0
  have q1 : m0 (Str.ofString "wanted") = some (.ref Wa) := by subst hm0; rfl
  clear hm0 d1 d2 Y
  generalize hl0 : ([(c.L + 1 + 1, oo), (c.L + 1, or)] ++ led) = led0
  have s1 : ∀ p ∈ led, p ∈ led0 := fun p hp => hl0 ▸ .tail _ (.tail _ hp)
  have c1 : (c.L + 1, or) ∈ led0 := hl0 ▸ .tail _ (.head _)
  have c2 : (c.L + 1 + 1, oo) ∈ led0 := hl0 ▸ .head _
  clear hl0
  have hwl : wvs.length = ws.length := by rw [hWi.length, List.length_map]
  refine St.comp false (k := 2) (cl := [((Str.ofString "rows"), c.L + 1), ((Str.ofString "order"), c.L + 1 + 1)]) (P := fun D nD outs ledJ => ∃ as, outs = refsOf as ∧ PairsAt ledJ as ((ws.filter (inOrd rs ord)).map (rankZ rs ord)) ∧ ∀ p ∈ led, p ∈ ledJ)
    O (by rw [he]; rfl) (by rw [he]; rfl) ⟨fun _ _ => rfl, fun _ => rfl⟩ rfl (by decide +kernel) (fun C => by rw [he]; rfl) kS
    (Tr.mono (Ev.loc (d := .ref Wa) O kW q1 rfl) fun v m' led' ⟨h1, h2, h3⟩ => h3 ▸ ⟨h2, Wa, false, wvs, nw, fun i outs led' => ∃ as, outs = refsOf as ∧ PairsAt led' as (((ws.take i).filter (inOrd rs ord)).map (rankZ rs ord)) ∧ ∀ p ∈ led0, p ∈ led',
      h1, by omega, ⟨[], rfl, ⟨rfl, fun _ _ _ h => nomatch h⟩, fun p hp => hp⟩, fun i outs led' ⟨_, _, _, hb⟩ => hb _ (s1 _ hW), ?turn, ?done⟩) ?rest
  case done =>
    rintro D nD outs ledJ ⟨as, e, hp, hb⟩ _ _
    rw [hwl, List.take_length] at hp
    exact ⟨as, e, hp, fun p h => hb p (s1 p h)⟩
  case turn =>
    rintro c' m2 i u outs ledJ D I oI oc nD hw' O' he' hu ⟨as, rfl, hp, hb⟩ ha ho _
    obtain ⟨j, t, rfl, hj⟩ := natAt hWi hu
    obtain ⟨r, hr⟩ : ∃ r, rs[j]? = some r := ⟨_, List.getElem?_eq_getElem (hwb j (List.mem_of_getElem? hj))⟩
    have hsp : spotZ rs j = (r.spot : Nat) := by unfold spotZ; rw [hr]; rfl
    have k1 : c'.env.kindOf (Str.ofString "number") = some .local := by rw [he', he]; rfl
    have k2 : c'.env.kindOf (Str.ofString "rows") = some .cell := by rw [he', he]; rfl
    have k3 : c'.env.kindOf (Str.ofString "order") = some .cell := by rw [he', he]; rfl
    have x2 : c'.env.cells.lookup (Str.ofString "rows") = some (c.L + 1) := by rw [he']; rfl
    have x3 : c'.env.cells.lookup (Str.ofString "order") = some (c.L + 1 + 1) := by rw [he']; rfl
    generalize hl3 : (D, listOf (refsOf as).toArray nD) :: (I, oI) :: ledJ = led3
    have s3 : ∀ p ∈ led0, p ∈ led3 := fun p hp => hl3 ▸ .tail _ (.tail _ (hb p hp))
    have n1 {p} : Ev c' (upd m2 (Str.ofString "number") (.int (j : Nat) t)) led3 (.Name (Str.ofString "number") p) (.int (j : Nat)) := .loc O' k1 upd_at ⟨t, rfl⟩
    have n2 {p} : Ev c' (upd m2 (Str.ofString "number") (.int (j : Nat) t)) led3 (.Name (Str.ofString "rows") p) (.ref R) := .cell O' k2 x2 (s3 _ c1) i1 rfl
    have n3 {p} : Ev c' (upd m2 (Str.ofString "number") (.int (j : Nat) t)) led3 (.Name (Str.ofString "order") p) (.ref Oa) := .cell O' k3 x3 (s3 _ c2) i2 rfl
    have hR3 : RowsAt c'.w led3 R rs := hw' ▸ hR.mono fun p hp => s3 p (s1 p hp)
    have n4 {p p1 p2 p3 p4 n} : Ev c' (upd m2 (Str.ofString "number") (.int (j : Nat) t)) led3 (.Subscript (.Subscript (.Name (Str.ofString "rows") p1) (.Name (Str.ofString "number") p2) p) (.Constant (.str (Str.ofString "at")) n p3) p4) (.int (spotZ rs j)) := by
      obtain ⟨a, h2, h1⟩ := hR3.at hr
      exact hsp ▸ (h1 (fun _ hp => hp) n2 n1 (by intro _; with_unfolding_all rfl)).get .str_ h2 (.head _)
    have hO3 := s3 _ (s1 _ hO)
    refine .plain hl3 (inOrd rs ord j) (.one (.cmp n4 n3 (.inInts hO3 hOi))) (fun hf => ⟨as, rfl, ?_, hb⟩) fun ht => ?_
    · rw [take_filter hj, hf]; simpa using hp
    · have hin : spotZ rs j ∈ ord := by
        obtain ⟨x, hx, e⟩ := List.any_eq_true.mp ht
        exact eq_of_beq e ▸ hx
      refine Tr.tuple (Its.ev (Ev.indexInts O' n3 n4 hO3 hOi hin hOz) fun v1 hv1 => Its.ev n1 fun v2 hv2 => Its.nil ⟨show 2 ≤ 1000 by decide, fun l hl => ?_⟩)
      obtain ⟨u1, rfl⟩ := hv1
      obtain ⟨u2, rfl⟩ := hv2
      have cp := comp_push (x := (l, tupOf [.int (ord.idxOf (spotZ rs j) : Nat) u1, .int (j : Nat) u2])) hl3 hl ha
      refine ⟨_, cp.1, cp.2, as ++ [l], by simp [refsOf], ?_, fun p hp => .tail _ (hb p hp)⟩
      rw [take_filter hj, ht, if_pos rfl, List.map_append]
      exact PairsAt.snoc (p := rankZ rs ord j) (hp.mono fun p hp => .tail _ hp) (.head _)
  case rest =>
    rintro D nD outs ledJ ⟨as, rfl, hp, hb⟩
    have hlen := hp.1
    rw [List.length_map] at hlen
    have hle := List.length_filter_le (inOrd rs ord) ws
    have q2 : upd m0 (Str.ofString "some") (.ref D) (Str.ofString "some") = some (.ref D) := upd_at
    generalize upd m0 (Str.ofString "some") (.ref D) = m1 at q2 ⊢
    generalize hl4 : (D, listOf (refsOf as).toArray nD) :: ledJ = led4
    have hD : (D, listOf (refsOf as).toArray nD) ∈ led4 := hl4 ▸ .head _
    have s4 : ∀ p ∈ ledJ, p ∈ led4 := fun p hp => hl4 ▸ .tail _ hp
    have n1 {p} : Ev c m1 led4 (.Name (Str.ofString "some") p) (.ref D) := .loc O kS q2 rfl
    refine St.ret (Tr.drop (P := fun v m' led' => led' = led4 ∧ ∃ z, (Dm.int z).Is v ∧ Least rs ord ws z) (Tr.ifexp (b := !(refsOf as).isEmpty) (Tst.listsNe (k := 1) O (Tr.mono n1 fun v m' led' ⟨h1, h2, h3⟩ => ⟨h2, D, refsOf as, nD, h1, by subst h3; exact Tr.list (Its.nil ⟨Nat.zero_le _, fun l hl => ⟨rfl, fun p hp => .tail _ hp, .tail _ hD, l, [], 0, rfl, .head _, .nil⟩⟩)⟩)) (fun hne => ?_) fun hne => ?_)
      fun v m' led' ⟨h1, h2⟩ => ⟨led, ⟨rfl, h2⟩, fun p hp => h1 ▸ s4 p (hb p hp)⟩)
    · have hpos : 0 < as.length := by cases as with | nil => exact nomatch hne | cons a r => exact Nat.succ_pos _
      refine Tr.tupAt (Tr.bcall O kM (nsMin _) boot_min (by decide) n1 fun v m' led' ⟨h1, h2, h3⟩ => ?_)
      cases h1; subst h2; subst h3
      refine Tr.mono (Tr.minPairs (k := 0) O hD (hp.mono s4) hpos) fun v m' led' ⟨h1, h2, b, a, h3, h4, h5⟩ => ?_
      subst h1; subst h2; subst h3
      obtain ⟨hb5, p, hp5, hbest⟩ := h5
      obtain ⟨u1, u2, ha⟩ := hp.2 b a p h4 hp5
      refine ⟨a, [.int p.1 u1, .int p.2 u2], rfl, Tr.mono (Ev.int_ (c := c)) ?_⟩
      rintro v2 m2 led2 ⟨⟨t2, rfl⟩, _, rfl⟩
      refine ⟨s4 _ ha, 1, t2, .int p.2 u2, rfl, by decide, show (1 : Int) < 2 by decide, show 2 ≤ 1000 by decide, rfl, rfl, p.2, ⟨u2, rfl⟩, .inr ?_⟩
      obtain ⟨j, hj, rfl⟩ := List.mem_map.mp (List.mem_of_getElem? hp5)
      obtain ⟨hj1, hj2⟩ := List.mem_filter.mp hj
      refine ⟨j, hj1, hj2, rfl, fun i hi hi2 => ?_⟩
      obtain ⟨x, hx⟩ := List.getElem?_of_mem (List.mem_map_of_mem (f := rankZ rs ord) (List.mem_filter.mpr ⟨hi, hi2⟩))
      have hxl := (List.getElem?_eq_some_iff.mp hx).1
      exact hbest x _ (by rw [List.length_map] at hxl; omega) hx
    · have hnil : ws.filter (inOrd rs ord) = [] := by cases as with | nil => exact List.eq_nil_of_length_eq_zero hlen.symm | cons a r => exact nomatch hne
      exact Tr.mono Ev.neg1 fun v m' led' ⟨h1, h2, h3⟩ => ⟨h3, -1, h1, .inl ⟨rfl, fun j hj => Bool.eq_false_iff.mpr fun h => by
        have := List.mem_filter.mpr ⟨hj, h⟩; rw [hnil] at this; exact nomatch this⟩⟩
theorem SameL.bools {c : Cx} {led : Led} {bs cs : List Bool} : SameL c led (bs.map .bool) (cs.map .bool) (decide (bs = cs)) := by
  refine ⟨fun j => bs[j]? == cs[j]?, fun j x y hx hy => ?_, by rw [same_at, List.length_map, List.length_map]⟩
  rw [List.getElem?_map] at hx hy
  obtain ⟨a, h1, rfl⟩ := Option.map_eq_some_iff.mp hx
  obtain ⟨b, h2, rfl⟩ := Option.map_eq_some_iff.mp hy
  show EqV c led _ _ (bs[j]? == cs[j]?)
  rw [h1, h2]
  exact fun _ _ _ _ => PySem.SeqAt.EqAt.bool_bool a b
section
variable {c : Cx} {m : Map} {led : Led} {e : Expr} {d : Dm} {pos px : Pos} {x : Str} {k : Nat} {P : Flow → Map → Led → Prop} {rest : List Stmt} {a : Addr} {o : Obj}
/-- a name that is a cell is stored -/
theorem St.setC {v0 : Option Value} (O : c.Ok k) (hk : c.env.kindOf x = some .cell) (hc : c.env.cells.lookup x = some a) (hm : (a, o) ∈ led) (ho : o.data = .cell v0) (h : Ev c m led e d) (hn : ∀ v o', d.Is v → o'.data = .cell (some v) → TrS c m (put led a o') rest P)
    (hs : swapsWith e (some (.Name x px)) pos.line c.env = (Pure.pure false : Sem Bool) := by rfl) : TrS c m led (.Assign [.Name x px] e pos :: rest) P :=
  St.one fun s F N => wpAny_Assign_Name (h.use F N fun v h' tk hv F' N' => by
    have hz := N' _ hm
    refine wpAny_storeName_cell O.kind hk hc ⟨o, hz.1, ho⟩ fun h2 ⟨o', q1, q2⟩ hs2 => .mk (hn v o' hv q2) (fr_sameBut F' hs2 hz.2.1 hz.2.2) fun p hp => ?_
    rcases List.mem_cons.mp hp with rfl | hp
    · exact ⟨q1, hz.2⟩
    · obtain ⟨hp1, hp2⟩ := List.mem_filter.mp hp
      exact ⟨(hs2.2 _ (by simpa using hp2)).trans (N' p hp1).1, (N' p hp1).2⟩) hs
end
theorem Tr.mulList {c : Cx} {m : Map} {led : Led} {e1 e2 : Expr} {pos : Pos} {P : Value → Map → Led → Prop} (h1 : Tr c m led (eval e1 c.env) fun v m1 led1 => ∃ a vs n x, v = .ref a ∧ (a, listOf vs.toArray n) ∈ led1 ∧ Ev c m1 led1 e2 (.int x) ∧ 0 ≤ x ∧ x < 1000 ∧ vs.length * x.toNat ≤ 256 ∧
    ∀ D, P (.ref D) m1 ((D, listOf (List.replicate x.toNat vs).flatten.toArray 0) :: led1)) : Tr c m led (eval (.BinOp e1 .Mult e2 pos) c.env) P := fun s F N =>
  wpAny_BinOp (h1.use F N fun v m1 led1 h' tk ⟨a, vs, n, x, ev, ha, he, h0, h1, hz, hp⟩ F' N' => he.use F' N' fun v2 h3 tk3 ⟨t2, i2⟩ F3 N3 => by
    subst ev; subst i2
    exact KMa.mul F3 N3 ⟨_, (N3 _ ha).1, rfl, n, rfl⟩ (by omega) (by omega) hz rfl fun D h4 F4 N4 _ => .mk (hp D) F4 N4)
/-- rows of one kind: the sort, the key, the duty -/
noncomputable def likeR (rs : List Row) (i j : Nat) : Bool := likeB (rs[i]?.getD noRow) (rs[j]?.getD noRow)
/-- a fresh list of numbers -/
noncomputable def Nums (ws : List Nat) (led led' : Led) (v : Value) : Prop := ∃ D vs n, v = .ref D ∧ led' = (D, listOf vs.toArray n) :: led ∧ IntsAre vs (natZ ws)
theorem alike_fn (w : World) {R La : Addr} {rs : List Row} {lvs : List Value} {ls : List Nat} {nl j : Nat} {tj : Tok} {led : Led} (hR : RowsAt w led R rs) (hL : (La, listOf lvs.toArray nl) ∈ led) (hLi : IntsAre lvs (natZ ls)) (hlb : ∀ i ∈ ls, i < rs.length) (hlz : ls.length ≤ 1000) (hj : j < rs.length) :
    Fn w 189 [.ref R, .ref La, .int (j : Nat) tj] led 3 (fun led' v => Nums (ls.filter fun i => likeR rs i j) led led' v) := by
  have e0 : Challenge.rw_sa0304_01 = Challenge.rw_sa0304_01 ∧ KH = KH := ⟨rfl, rfl⟩
  revert e0; k_fill; intro _
  k_dflt (refine' Fn.enterC (binds := [(Str.ofString "rows", .ref R), (Str.ofString "listed", .ref La), (Str.ofString "number", .int (j : Nat) tj)]) ?ho ?hcd ?hb ?hk ?hn ?c2 ?c3 ?c4 ?_; (case ho => k_is); (case hcd => k_is); (case hb => exact fun s => BindsTo.of_eq rfl); (case hk => exact rfl); (case hn => decide +kernel); (case c2 => exact rfl); (case c3 => exact rfl); (case c4 => exact rfl))
  intro c cells hw O he l1 Y
  obtain ⟨ow, or, rfl, d1, d2⟩ := CellsAre.two Y
  subst hw
  have i1 : or.data = .cell (some (.ref R)) := d2
  have i2 : ow.data = .cell none := d1
  have kR : c.env.kindOf (Str.ofString "rows") = some .cell := by rw [he]; rfl
  have kO : c.env.kindOf (Str.ofString "own") = some .cell := by rw [he]; rfl
  have kL : c.env.kindOf (Str.ofString "listed") = some .local := by rw [he]; rfl
  have kN : c.env.kindOf (Str.ofString "number") = some .local := by rw [he]; rfl
  have xR : c.env.cells.lookup (Str.ofString "rows") = some (c.L + 1) := by rw [he]; rfl
  have xO : c.env.cells.lookup (Str.ofString "own") = some (c.L + 1 + 1) := by rw [he]; rfl
  generalize hm0 : bindL (envOfC _ _ c.L 189 (Value.ref 188)).kindOf _ _ = m0
  have q1 : m0 (Str.ofString "listed") = some (.ref La) := by subst hm0; rfl
  have q2 : m0 (Str.ofString "number") = some (.int (j : Nat) tj) := by subst hm0; rfl
  clear hm0 d1 d2 Y
  obtain ⟨r, hr⟩ : ∃ r, rs[j]? = some r := ⟨_, List.getElem?_eq_getElem hj⟩
  obtain ⟨a, hRa, hEa⟩ := hR.at hr
  refine St.setC O kO xO (.head _) i2 (hEa (fun p hp => .tail _ (.tail _ hp)) (.cell O kR xR (.tail _ (.head _)) i1 rfl) (.loc O kN q2 ⟨tj, rfl⟩) (by intro _; with_unfolding_all rfl)) fun v o' hv ho' => ?_
  cases hv
  generalize hl0 : put ([(c.L + 1 + 1, ow), (c.L + 1, or)] ++ led) (c.L + 1 + 1) o' = led0
  have s1 : ∀ p ∈ led, p ∈ led0 := fun p hp => hl0 ▸ put_ne (.tail _ (.tail _ hp)) (Nat.ne_of_lt (Nat.lt_succ_of_lt (Nat.lt_succ_of_lt (l1 p hp))))
  have y1 : (c.L + 1, or) ∈ led0 := hl0 ▸ put_ne (.tail _ (.head _)) (Nat.ne_of_lt (Nat.lt_succ_self _))
  have y2 : (c.L + 1 + 1, o') ∈ led0 := hl0 ▸ .head _
  clear hl0 hEa
  have hll : lvs.length = ls.length := by rw [hLi.length, List.length_map]
  refine St.ret (Tr.drop (Tr.comp true (k := 2) (cl := [((Str.ofString "rows"), c.L + 1), ((Str.ofString "own"), c.L + 1 + 1)]) (P := fun D nD outs ledJ => IntsAre outs (natZ (ls.filter fun i => likeR rs i j)) ∧ ∀ p ∈ led, p ∈ ledJ)
    O (by rw [he]; rfl) ⟨fun _ _ => rfl, fun _ => rfl⟩ rfl (by decide +kernel) (fun C => by rw [he]; rfl)
    (Tr.mono (Ev.loc (d := .ref La) O kL q1 rfl) fun v m' led' ⟨h1, h2, h3⟩ => h3 ▸ ⟨h2, La, false, lvs, nl, fun i outs led' => IntsAre outs (natZ ((ls.take i).filter fun i => likeR rs i j)) ∧ ∀ p ∈ led0, p ∈ led',
      h1, by omega, ⟨.nil, fun p hp => hp⟩, fun i outs led' hb => hb.2 _ (s1 _ hL), ?turn, ?done⟩))
    fun v m' led' ⟨h1, D, nD, outs, ledJ, h2, h3, h4, h5⟩ => ⟨(D, listOf outs.toArray nD) :: led, ⟨D, outs, nD, h2, rfl, h4⟩, fun p hp => h3 ▸ by
      rcases List.mem_cons.mp hp with rfl | hp
      · exact .head _
      · exact .tail _ (h5 p hp)⟩)
  case done =>
    rintro D nD outs ledJ ⟨e, hb⟩ _ _
    rw [hll, List.take_length] at e
    exact ⟨e, fun p h => hb p (s1 p h)⟩
  case turn =>
    rintro c' m2 i u outs ledJ D I oI oc nD hw' O' he' hu ⟨hi, hb⟩ ha ho hoc
    obtain ⟨i', t, rfl, hii⟩ := natAt hLi hu
    obtain ⟨r', hr'⟩ : ∃ r, rs[i']? = some r := ⟨_, List.getElem?_eq_getElem (hlb i' (List.mem_of_getElem? hii))⟩
    generalize hl3 : (D, listOf outs.toArray nD) :: (I, oI) :: (c'.L + 1, oc) :: ledJ = led3
    have s3 : ∀ p ∈ led0, p ∈ led3 := fun p hp => hl3 ▸ .tail _ (.tail _ (.tail _ (hb p hp)))
    have y3 : (c'.L + 1, oc) ∈ led3 := hl3 ▸ .tail _ (.tail _ (.head _))
    have hlk : likeR rs i' j = decide ([r'.sort == r.sort, r'.key == r.key, r'.duty == r.duty] = [true, true, true]) := by
      unfold likeR likeB
      rw [hr, hr']
      cases h1 : r'.sort == r.sort <;> cases h2 : r'.key == r.key <;> cases h3 : r'.duty == r.duty <;> simp [h1, h2, h3]
    refine .celled hl3 (likeR rs i' j) (.one (hlk ▸ Tst.listsEq (k := 1) O' (Tr.mono (Tr.comp false (k := 2) (cl := [((Str.ofString "rows"), c.L + 1), ((Str.ofString "own"), c.L + 1 + 1), ((Str.ofString "other"), c'.L + 1)])
      (P := fun D nD outs ledJ => outs = [r'.sort == r.sort, r'.key == r.key, r'.duty == r.duty].map .bool ∧ ∀ p ∈ led3, p ∈ ledJ)
      O' (by rw [he', he]; rfl) ⟨fun _ _ => rfl, fun _ => rfl⟩ rfl (by decide +kernel) (fun C => by rw [he', he]; rfl) ?inner) fun v m' led' ⟨h1, D, nD, outs, ledJ, h2, h3, h4, h5⟩ => ?mul))) (fun hf => ⟨?_, hb⟩) fun ht => ?_
    case mul =>
      subst h1; subst h3
      refine ⟨rfl, D, _, nD, h2, Tr.mulList (Tr.list (Its.ev .true_ fun v1 hv1 => Its.nil ⟨show 1 ≤ 1000 by decide, fun l hl => ⟨l, [v1], 0, 3, rfl, .head _, .int_, by decide, by decide, show 1 * 3 ≤ 256 by decide, fun D2 => ⟨rfl, fun p hp => .tail _ (.tail _ (.tail _ (h5 p hp))), .tail _ (.tail _ (.head _)), D2, _, 0, rfl, .head _, ?_⟩⟩⟩))⟩
      cases hv1; subst h4
      exact SameL.bools (cs := [true, true, true])
    case inner =>
      refine Tr.tuple (Its.ev .str_ fun v1 ⟨t1, e1⟩ => Its.ev .str_ fun v2 ⟨t2, e2⟩ => Its.ev .str_ fun v3 ⟨t3, e3⟩ => Its.nil ⟨show 3 ≤ 1000 by decide, fun l hl => ⟨rfl, l, true, [v1, v2, v3], 0,
        fun n outs led' => outs = ([r'.sort == r.sort, r'.key == r.key, r'.duty == r.duty].take n).map .bool ∧ ∀ p ∈ (l, tupOf [v1, v2, v3]) :: led3, p ∈ led', rfl, show 3 ≤ 1000 by decide, ⟨rfl, fun p hp => hp⟩, fun _ _ _ h => h.2 _ (.head _), ?_, ?_⟩⟩)
      · rintro c2 m4 n u outs2 ledK D2 I2 oI2 oc2 nE hw2 O2 he2 hu2 ⟨ho2, hb2⟩ ha2 _ _
        generalize hl4 : (D2, listOf outs2.toArray nE) :: (I2, oI2) :: ledK = led4
        have s4 : ∀ p ∈ led3, p ∈ led4 := fun p hp => hl4 ▸ .tail _ (.tail _ (hb2 p (.tail _ hp)))
        have k1 : c2.env.kindOf (Str.ofString "word") = some .local := by rw [he2, he', he]; rfl
        have k2 : c2.env.kindOf (Str.ofString "rows") = some .cell := by rw [he2, he', he]; rfl
        have k3 : c2.env.kindOf (Str.ofString "own") = some .cell := by rw [he2, he', he]; rfl
        have k4 : c2.env.kindOf (Str.ofString "other") = some .cell := by rw [he2, he', he]; rfl
        have x2 : c2.env.cells.lookup (Str.ofString "rows") = some (c.L + 1) := by rw [he2]; rfl
        have x3 : c2.env.cells.lookup (Str.ofString "own") = some (c.L + 1 + 1) := by rw [he2]; rfl
        have x4 : c2.env.cells.lookup (Str.ofString "other") = some (c'.L + 1) := by rw [he2]; rfl
        have hR4 : RowsAt c2.w led4 R rs := by rw [hw2, hw']; exact hR.mono fun p hp => s4 p (s3 p (s1 p hp))
        have hRa4 : RowAt c2.w led4 a r := by rw [hw2, hw']; exact hRa.mono fun p hp => s4 p (s3 p (s1 p hp))
        obtain ⟨a', hra', hea'⟩ := hR4.at hr'
        have n2 {p} : Ev c2 (upd m4 (Str.ofString "word") u) led4 (.Name (Str.ofString "rows") p) (.ref R) := .cell O2 k2 x2 (s4 _ (s3 _ y1)) i1 rfl
        have n3 {p} : Ev c2 (upd m4 (Str.ofString "word") u) led4 (.Name (Str.ofString "own") p) (.ref a) := .cell O2 k3 x3 (s4 _ (s3 _ y2)) ho' rfl
        have n4 {p} : Ev c2 (upd m4 (Str.ofString "word") u) led4 (.Name (Str.ofString "other") p) (.int (i' : Nat)) := .cell O2 k4 x4 (s4 _ y3) hoc ⟨t, rfl⟩
        have step {p1 p2 p3 p4 p5 p6 p7 p8 p9} (x y z : Str) (t : Tok) (h1 : (x, .str y) ∈ rowL r') (h2 : (x, .str z) ∈ rowL r) (hu : u = .str x t) :
            Ev c2 (upd m4 (Str.ofString "word") u) led4 (.Compare (.Subscript (.Subscript (.Name (Str.ofString "rows") p1) (.Name (Str.ofString "other") p2) p3) (.Name (Str.ofString "word") p4) p5) [.Eq] [.Subscript (.Name (Str.ofString "own") p6) (.Name (Str.ofString "word") p7) p8] p9) (.bool (y == z)) :=
          .cmp (.get (hea' (fun _ hp => hp) n2 n4 (by intro _; with_unfolding_all rfl)) (.loc O2 k1 upd_at ⟨t, hu⟩) hra' h1) (.get n3 (.loc O2 k1 upd_at ⟨t, hu⟩) hRa4 h2) .eqStr
        have fin (b : Bool) (hb : [r'.sort == r.sort, r'.key == r.key, r'.duty == r.duty][n]? = some b) (r3 : Value) (m5 : Map) (led5 : Led) (h : (Dm.bool b).Is r3 ∧ m5 = upd m4 (Str.ofString "word") u ∧ led5 = led4) :
            ∃ led6, (∀ p ∈ (D2, listOf outs2.toArray nE) :: (I2, oI2) :: led6, p ∈ led5) ∧ Apart led6 [D2, I2] ∧ (outs2 ++ [r3] = ([r'.sort == r.sort, r'.key == r.key, r'.duty == r.duty].take (n + 1)).map .bool ∧ ∀ p ∈ (l, tupOf [v1, v2, v3]) :: led3, p ∈ led6) := by
          obtain ⟨e1, _, e3⟩ := h
          refine ⟨ledK, fun p hp => e3 ▸ hl4 ▸ hp, ha2, ?_, hb2⟩
          rw [e1, ho2, List.take_add_one, hb, List.map_append]
          rfl
        refine .plain hl4 true .nil nofun fun _ => ?_
        match n, hu2 with
        | 0, hu2 => exact Tr.mono (step _ _ _ t1 (.tail _ (.head _)) (.tail _ (.head _)) ((Option.some.inj hu2).symm.trans e1)) (fin _ rfl)
        | 1, hu2 => exact Tr.mono (step _ _ _ t2 (.tail _ (.tail _ (.tail _ (.head _)))) (.tail _ (.tail _ (.tail _ (.head _)))) ((Option.some.inj hu2).symm.trans e2)) (fin _ rfl)
        | 2, hu2 => exact Tr.mono (step _ _ _ t3 (.tail _ (.tail _ (.tail _ (.tail _ (.head _))))) (.tail _ (.tail _ (.tail _ (.tail _ (.head _))))) ((Option.some.inj hu2).symm.trans e3)) (fin _ rfl)
      · rintro D2 n2 outs2 ledK ⟨ho2, hb2⟩ _ _
        exact ⟨ho2, fun p hp => hb2 p (.tail _ hp)⟩
    · rw [take_filter hii, hf]; simpa using hi
    · have k4 : c'.env.kindOf (Str.ofString "other") = some .cell := by rw [he', he]; rfl
      have x4 : c'.env.cells.lookup (Str.ofString "other") = some (c'.L + 1) := by rw [he']; rfl
      refine Tr.mono (Ev.cell (d := .int (i' : Nat)) O' k4 x4 y3 hoc ⟨t, rfl⟩) fun r m4 led4 ⟨⟨t4, h1⟩, h2, h3⟩ => ⟨ledJ, fun p hp => h3 ▸ hl3 ▸ hp, ha, ?_, hb⟩
      rw [h1, take_filter hii, ht, if_pos rfl]
      unfold natZ
      rw [List.map_append]
      exact hi.append (.cons _ _ .nil)
section
variable {c : Cx} {m : Map} {led : Led} {e e1 e2 iter : Expr} {es : List Expr} {d : Dm} {pos px p2 : Pos} {x : Str} {k : Nat} {P : Flow → Map → Led → Prop} {rest : List Stmt} {a : Addr} {ifs : List Expr} {scope : Scope} {cl : List (Str × Addr)}
theorem CmpD.geInt {x y : Int} : CmpD c m led .GtE (.int x) (.int y) (decide (x ≥ y)) := fun v1 v2 ⟨t, h1⟩ ⟨u, h2⟩ s F N => by
  subst h1; subst h2; exact ge_int (.mk ⟨rfl, rfl, rfl⟩ F N)
/-- a call whose arguments build -/
theorem Tr.callI {f : Addr} {Q : Value → Map → Led → Prop} (O : c.Ok k) (hf : Ev c m led e1 (.ref f)) (hk : keepIn (KH c.w.params) (.ref f) = true) (ha : Its c m led (e2 :: es) fun vs m' led' => Tr c m' led' (PySem.call (.ref f) vs) Q)
    (hs : eval (e1.Call (e2 :: es) [] pos) c.env = (do let f ← eval e1 c.env; callWith pos f [] (backTo pos (starEach (e2 :: es) c.env)) (backToKw pos (keywordEach [] c.env))) := by rfl)
    (he : starEach (e2 :: es) c.env = (false, eval e2 c.env) :: starEach es c.env := by rfl) (hp : (backTo pos (starEach es c.env)).any (·.1) = false := by rfl) :
    Tr c m led (eval (.Call e1 (e2 :: es) [] pos) c.env) Q := fun s F N =>
  Call_ (hf.use F N fun v h' tk i F' N' => by
    cases i
    exact callWith_K O.X hk (Tr.use (ha pos) F' N' fun vs m' led' h'' tk' q F'' N'' => ⟨O.X.keeps F''.keep, Tr.use q F'' N'' fun a m3 led3 h3 tk3 hp F3 N3 => (.mk hp F3 N3)⟩) he hp) hs
/-- a name that is a cell is stored: what builds -/
theorem St.setCT (O : c.Ok k) (hk : c.env.kindOf x = some .cell) (hc : c.env.cells.lookup x = some a) (h : Tr c m led (eval e c.env) fun v m' led' => ∃ o v0, (a, o) ∈ led' ∧ o.data = .cell v0 ∧ ∀ o', o'.data = .cell (some v) → TrS c m' (put led' a o') rest P)
    (hs : swapsWith e (some (.Name x px)) pos.line c.env = (Pure.pure false : Sem Bool) := by rfl) : TrS c m led (.Assign [.Name x px] e pos :: rest) P :=
  St.one fun s F N => wpAny_Assign_Name (h.use F N fun v m' led' h' tk ⟨o, v0, hm, ho, hn⟩ F' N' => by
    have hz := N' _ hm
    refine wpAny_storeName_cell O.kind hk hc ⟨o, hz.1, ho⟩ fun h2 ⟨o', q1, q2⟩ hs2 => .mk (hn o' q2) (fr_sameBut F' hs2 hz.2.1 hz.2.2) fun p hp => ?_
    rcases List.mem_cons.mp hp with rfl | hp
    · exact ⟨q1, hz.2⟩
    · obtain ⟨hp1, hp2⟩ := List.mem_filter.mp hp
      exact ⟨(hs2.2 _ (by simpa using hp2)).trans (N' p hp1).1, (N' p hp1).2⟩) hs
/-- x for x in numbers if .. -/
theorem Tr.numsL {ws : List Nat} {pr : Nat → Bool} (hx : ∀ C, (compEnvC scope cl C c.env).kindOf x = some .local) (hz : ws.length ≤ 1000)
    (h : Tr c m led (eval iter c.env) fun v m' led' => m' = m ∧ ∃ l vs n, v = .ref l ∧ (l, listOf vs.toArray n) ∈ led' ∧ IntsAre vs (natZ ws) ∧ ∀ p ∈ led, p ∈ led')
    (ht : ∀ (c' : Cx) (m' : Map) (led3 : Led) (j : Nat) (t : Tok), j ∈ ws → c'.w = c.w → c'.Ok k → c'.env = compEnvC scope cl c'.L c.env → m' x = some (.int (j : Nat) t) → (∀ p ∈ led, p ∈ led3) → IfsT c' m' led3 ifs (pr j))
    (hd : (x == ("__debug__" : Str)) = false) :
    Tr c m led (eval iter c.env) (CompL c k scope cl false x ifs (.Name x p2) m fun D nD outs ledJ => IntsAre outs (natZ (ws.filter pr)) ∧ ∀ p ∈ led, p ∈ ledJ) := by
  refine Tr.mono h ?_
  rintro v m' led' ⟨h1, l, vs, n, h2, h3, h4, h5⟩
  have hl : vs.length = ws.length := by rw [h4.length, List.length_map]
  refine ⟨h1, l, false, vs, n, fun i outs led2 => IntsAre outs (natZ ((ws.take i).filter pr)) ∧ ∀ p ∈ led', p ∈ led2, h2, by omega, ⟨.nil, fun p hp => hp⟩, fun _ _ _ hb => hb.2 _ h3, ?_, ?_⟩
  · rintro c' m2 i u outs ledJ D I oI oc nD hw' O' he' hu ⟨hi, hb⟩ ha ho _
    obtain ⟨j, t, rfl, hj⟩ := natAt h4 hu
    refine .plain rfl (pr j) (ht c' _ _ j t (List.mem_of_getElem? hj) hw' O' he' upd_at fun p hp => .tail _ (.tail _ (hb p (h5 p hp)))) (fun hf => ⟨by rw [take_filter hj, hf]; simpa using hi, hb⟩) fun hp => ?_
    refine Tr.mono (Ev.loc (d := .int (j : Nat)) O' (by rw [he']; exact hx _) upd_at ⟨t, rfl⟩ hd) fun r m4 led4 ⟨⟨t4, e1⟩, _, e3⟩ => ⟨ledJ, fun p hp => e3 ▸ hp, ha, ?_, hb⟩
    rw [e1, take_filter hj, hp, if_pos rfl]
    unfold natZ
    rw [List.map_append]
    exact hi.append (.cons _ _ .nil)
  · rintro D nD outs ledJ ⟨e, hb⟩ _ _
    rw [hl, List.take_length] at e
    exact ⟨e, fun p h => hb p (h5 p h)⟩
theorem Tr.nums {ws : List Nat} {pr : Nat → Bool} (O : c.Ok k) (hclos : closureFor scope c.env = (Pure.pure cl : Sem _)) (hcell : CellOk false x scope.names) (hk : scope.kind = .function) (hn : ∀ y ∈ scope.names, y.2 = .local → scope.names.lookup y.1 = some .local)
    (hx : ∀ C, (compEnvC scope cl C c.env).kindOf x = some .local) (hz : ws.length ≤ 1000)
    (h : Tr c m led (eval iter c.env) fun v m' led' => m' = m ∧ ∃ l vs n, v = .ref l ∧ (l, listOf vs.toArray n) ∈ led' ∧ IntsAre vs (natZ ws) ∧ ∀ p ∈ led, p ∈ led')
    (ht : ∀ (c' : Cx) (m' : Map) (led3 : Led) (j : Nat) (t : Tok), j ∈ ws → c'.w = c.w → c'.Ok k → c'.env = compEnvC scope cl c'.L c.env → m' x = some (.int (j : Nat) t) → (∀ p ∈ led, p ∈ led3) → IfsT c' m' led3 ifs (pr j))
    (hd : (x == ("__debug__" : Str)) = false := by decide) (hs : ∀ v, foldedSetIterable iter c.env v = (Pure.pure v : Sem Value) := by intro _; rfl) :
    Tr c m led (eval (.ListComp (.Name x p2) [⟨.Name x px, iter, ifs, 0⟩] scope pos) c.env) fun v m' led' => m' = m ∧ Nums (ws.filter pr) led led' v := by
  refine Tr.drop (Tr.comp false (k := k) (cl := cl) O hclos hcell hk hn hx (Tr.numsL hx hz h ht hd) hs) ?_
  rintro v m' led' ⟨h1, D, nD, outs, ledJ, h2, h3, h4, h5⟩
  refine ⟨(D, listOf outs.toArray nD) :: led, ⟨h1, D, outs, nD, h2, rfl, h4⟩, fun p hp => h3 ▸ ?_⟩
  rcases List.mem_cons.mp hp with rfl | hp
  · exact .head _
  · exact .tail _ (h5 p hp)
end
theorem keep179 (P : Params) : keepIn (KH P) (.ref 179) = true := by kernel_rfl
theorem glob179 (P : Params) : nsIn (KH P) mainGlobals (Str.ofString "_law_least") = some (some (.ref 179)) := by kernel_rfl
theorem keep189 (P : Params) : keepIn (KH P) (.ref 189) = true := by kernel_rfl
theorem glob189 (P : Params) : nsIn (KH P) mainGlobals (Str.ofString "_law_alike") = some (some (.ref 189)) := by kernel_rfl
noncomputable def npR (rs : List Row) (i : Nat) : Bool := npB (rs[i]?.getD noRow)
/-- what stands behind the law's nearest -/
noncomputable def NearZ (rs : List Row) (ls : List Nat) (ord : List Int) (j : Nat) (lone : Bool) (z : Int) : Prop :=
  if lone || (!npR rs j || !inOrd rs ord j) then z = (j : Nat) else ∃ z0, Least rs ord ((ls.filter fun i => likeR rs i j).filter (npR rs)) z0 ∧ z = if z0 ≥ 0 then z0 else (j : Nat)
/-- what the law's functions get -/
structure LawIn (w : World) (led : Led) (R La Oa : Addr) (rs : List Row) (ls : List Nat) (ord : List Int) : Prop where
  rows : RowsAt w led R rs
  listed : ∃ vs n, (La, listOf vs.toArray n) ∈ led ∧ IntsAre vs (natZ ls)
  order : ∃ vs n, (Oa, listOf vs.toArray n) ∈ led ∧ IntsAre vs ord
  lb : ∀ i ∈ ls, i < rs.length
  lz : ls.length ≤ 1000
  oz : ord.length ≤ 1000
theorem nearest_fn (w : World) {R La Oa : Addr} {rs : List Row} {ls : List Nat} {ord : List Int} {j : Nat} {tj : Tok} {lone : Bool} {led : Led} (H : LawIn w led R La Oa rs ls ord) (hj : j < rs.length) :
    Fn w 194 [.ref R, .ref La, .ref Oa, .int (j : Nat) tj, .bool lone] led 4 (fun led' v => led' = led ∧ ∃ z, (Dm.int z).Is v ∧ NearZ rs ls ord j lone z) := by
  have e0 : Challenge.rw_sa0304_01 = Challenge.rw_sa0304_01 ∧ KH = KH := ⟨rfl, rfl⟩
  revert e0; k_fill; intro _
  k_dflt (refine' Fn.enterC (binds := [(Str.ofString "rows", .ref R), (Str.ofString "listed", .ref La), (Str.ofString "order", .ref Oa), (Str.ofString "number", .int (j : Nat) tj), (Str.ofString "is_lone", .bool lone)]) ?ho ?hcd ?hb ?hk ?hn ?c2 ?c3 ?c4 ?_; (case ho => k_is); (case hcd => k_is); (case hb => exact fun s => BindsTo.of_eq rfl); (case hk => exact rfl); (case hn => decide +kernel); (case c2 => exact rfl); (case c3 => exact rfl); (case c4 => exact rfl))
  intro c cells hw O he l1 Y
  obtain ⟨or, rfl, d1⟩ := CellsAre.one Y
  subst hw
  have i1 : or.data = .cell (some (.ref R)) := d1
  have kR : c.env.kindOf (Str.ofString "rows") = some .cell := by rw [he]; rfl
  have kL : c.env.kindOf (Str.ofString "listed") = some .local := by rw [he]; rfl
  have kO : c.env.kindOf (Str.ofString "order") = some .local := by rw [he]; rfl
  have kN : c.env.kindOf (Str.ofString "number") = some .local := by rw [he]; rfl
  have kI : c.env.kindOf (Str.ofString "is_lone") = some .local := by rw [he]; rfl
  have kD : c.env.kindOf (Str.ofString "due") = some .local := by rw [he]; rfl
  have kA : c.env.kindOf (Str.ofString "_law_alike") = some .globalImplicit := by rw [he]; rfl
  have kZ : c.env.kindOf (Str.ofString "_law_least") = some .globalImplicit := by rw [he]; rfl
  have xR : c.env.cells.lookup (Str.ofString "rows") = some (c.L + 1) := by rw [he]; rfl
  generalize hm0 : bindL (envOfC _ _ c.L 194 (Value.ref 193)).kindOf _ _ = m0
  have q1 : m0 (Str.ofString "listed") = some (.ref La) := by subst hm0; rfl
  have q2 : m0 (Str.ofString "number") = some (.int (j : Nat) tj) := by subst hm0; rfl
  have q3 : m0 (Str.ofString "order") = some (.ref Oa) := by subst hm0; rfl
  have q4 : m0 (Str.ofString "is_lone") = some (.bool lone) := by subst hm0; rfl
  clear hm0 d1 Y
  generalize hl0 : [(c.L + 1, or)] ++ led = led0
  have s1 : ∀ p ∈ led, p ∈ led0 := fun p hp => hl0 ▸ .tail _ hp
  have y1 : (c.L + 1, or) ∈ led0 := hl0 ▸ .head _
  clear hl0
  obtain ⟨lvs, nl, hL, hLi⟩ := H.listed
  obtain ⟨ovs, no, hO, hOi⟩ := H.order
  obtain ⟨r, hr⟩ : ∃ r, rs[j]? = some r := ⟨_, List.getElem?_eq_getElem hj⟩
  obtain ⟨a, hRa, hEa⟩ := H.rows.at hr
  have hz : (natZ (ls.filter fun i => likeR rs i j)).length ≤ 1000 := by rw [List.length_map]; exact Nat.le_trans (List.length_filter_le _ _) H.lz
  have n1 {m led' p} (hs : ∀ p ∈ led0, p ∈ led') : Ev c m led' (.Name (Str.ofString "rows") p) (.ref R) := .cell O kR xR (hs _ y1) i1 rfl
  have n2 {led' p} : Ev c m0 led' (.Name (Str.ofString "number") p) (.int (j : Nat)) := .loc O kN q2 ⟨tj, rfl⟩
  have n3 {led' p} : Ev c m0 led' (.Name (Str.ofString "order") p) (.ref Oa) := .loc O kO q3 rfl
  have n4 {led' p} : Ev c m0 led' (.Name (Str.ofString "listed") p) (.ref La) := .loc O kL q1 rfl
  have hsp : spotZ rs j = (r.spot : Nat) := by unfold spotZ; rw [hr]; rfl
  have hnp : npR rs j = npB r := by unfold npR; rw [hr]; rfl
  have id0 : ∀ p ∈ led0, p ∈ led0 := fun _ hp => hp
  have e1 : (!npR rs j) = (r.seen == (Str.ofString "private")) := by rw [hnp]; unfold npB; rw [bne, Bool.not_not]
  have e2 : (lone || (!npR rs j || !inOrd rs ord j)) = (lone || ((r.seen == (Str.ofString "private")) || ((!ord.any (· == (r.spot : Nat))) || false))) := by rw [e1, Bool.or_false]; unfold inOrd; rw [hsp]
  refine St.if0 (b := lone || (!npR rs j || !inOrd rs ord j)) (e2 ▸ .or (.cons (.of (.loc (d := .bool lone) O kI q4 rfl)) fun _ => .cons (.cmp (.get (hEa s1 (n1 id0) n2 (by intro _; with_unfolding_all rfl)) .str_ (hRa.mono s1) (.tail _ (.tail _ (.tail _ (.tail _ (.tail _ (.head _))))))) .str_ .eqStr) fun _ =>
    .cons (.cmp (.get (hEa s1 (n1 id0) n2 (by intro _; with_unfolding_all rfl)) .str_ (hRa.mono s1) (.head _)) n3 (.notInInts (s1 _ hO) hOi)) fun _ => .nil)) (fun hb => ?_) fun hb => ?_
  · exact St.ret (Tr.drop n2 fun v m' led' ⟨h1, h2, h3⟩ => ⟨led, ⟨rfl, (j : Nat), h1, by unfold NearZ; rw [if_pos hb]⟩, fun p hp => h3 ▸ s1 p hp⟩)
  refine St.setT (P1 := fun v m' led' => m' = m0 ∧ (∀ p ∈ led0, p ∈ led') ∧ ∃ z0, (Dm.int z0).Is v ∧ Least rs ord ((ls.filter fun i => likeR rs i j).filter (npR rs)) z0) O kD (Tr.callI O (glob_ O kZ (glob179 _)) (keep179 _) (Its.ev (n1 id0) fun v1 hv1 => Its.ev n3 fun v2 hv2 =>
    Its.cons (Tr.nums (cl := [((Str.ofString "rows"), c.L + 1)]) (ws := ls.filter fun i => likeR rs i j) (pr := npR rs) O (by rw [he]; rfl) ⟨fun _ _ => rfl, fun _ => rfl⟩ rfl (by decide +kernel) (fun C => by rw [he]; rfl) (by rw [List.length_map] at hz; exact hz) ?iter ?test) fun v3 m3 led3 ⟨e3, D, vs, n, e4, e5, e6⟩ => Its.nil ?call)) ?rest
  case iter =>
    refine Tr.mono (Tr.call (post := fun led' v => Nums (ls.filter fun i => likeR rs i j) led0 led' v) O (glob_ O kA (glob189 _)) (keep189 _) (.cons (n1 id0) (.cons n4 (.cons n2 .nil))) fun vs q => ?_) fun v m' led' ⟨h1, D, vs, n, h2, h3, h4⟩ => ⟨h1, D, vs, n, h2, h3 ▸ .head _, h4, fun p hp => h3 ▸ .tail _ hp⟩
    cases q with | cons a1 q => cases q with | cons a2 q => cases q with | cons a3 q => cases q; cases a1; cases a2; obtain ⟨t, rfl⟩ := a3; exact alike_fn c.w (H.rows.mono s1) (s1 _ hL) hLi H.lb H.lz hj
  case test =>
    intro c' m' led3 i t hi hw' O' he' hm hs
    have k1 : c'.env.kindOf (Str.ofString "other") = some .local := by rw [he', he]; rfl
    have k2 : c'.env.kindOf (Str.ofString "rows") = some .cell := by rw [he', he]; rfl
    have x2 : c'.env.cells.lookup (Str.ofString "rows") = some (c.L + 1) := by rw [he']; rfl
    obtain ⟨r', hr'⟩ : ∃ r, rs[i]? = some r := ⟨_, List.getElem?_eq_getElem (H.lb i (List.mem_filter.mp hi).1)⟩
    obtain ⟨a', hRa', hEa'⟩ := H.rows.at hr'
    have e : npR rs i = (r'.seen != (Str.ofString "private")) := by unfold npR; rw [hr']; rfl
    rw [e]
    exact .one (.cmp (.get (hEa' (fun p hp => hs p (s1 p hp)) (.cell O' k2 x2 (hs _ y1) i1 rfl) (.loc O' k1 hm ⟨t, rfl⟩) (by intro _; with_unfolding_all rfl)) .str_ (hw' ▸ hRa'.mono fun p hp => hs p (s1 p hp)) (.tail _ (.tail _ (.tail _ (.tail _ (.tail _ (.head _))))))) .str_ .neStr)
  case call =>
    cases hv1; cases hv2; subst e3; subst e4; subst e5
    exact Tr.mono (least_fn c.w (H.rows.mono fun p hp => .tail _ (s1 p hp)) (.tail _ (s1 _ hO)) hOi H.oz (.head _) e6 (fun i hi => H.lb i (List.mem_filter.mp (List.mem_filter.mp hi).1).1)
      (Nat.le_trans (List.length_filter_le _ _) (Nat.le_trans (List.length_filter_le _ _) H.lz)) c _ rfl O) fun v m' led' ⟨h1, h2, h3⟩ => ⟨h1, fun p hp => h2 ▸ .tail _ hp, h3⟩
  case rest =>
    rintro v m' led' ⟨rfl, hs, z0, hz0, hle⟩
    have k4 : ∀ {p}, Ev c (upd m' (Str.ofString "due") v) led' (.Name (Str.ofString "due") p) (.int z0) := fun {p} => .loc O kD upd_at hz0
    have hq : ¬(lone || (!npR rs j || !inOrd rs ord j)) = true := by rw [hb]; exact Bool.false_ne_true
    refine St.ret (Tr.drop (P := fun v m' led2 => led2 = led' ∧ ∃ z, (Dm.int z).Is v ∧ NearZ rs ls ord j lone z) (Tr.ifexp (b := decide (z0 ≥ 0)) (.cmp k4 .int_ .geInt) (fun hp => Tr.mono k4 fun v m' led2 ⟨h1, _, h3⟩ => ⟨h3, z0, h1, ?_⟩) fun hp => Tr.mono (Ev.loc (d := .int (j : Nat)) O kN (upd_ne q2 (by decide)) ⟨tj, rfl⟩) fun v m' led2 ⟨h1, _, h3⟩ => ⟨h3, (j : Nat), h1, ?_⟩)
      fun v m' led2 ⟨h1, h2⟩ => ⟨led, ⟨rfl, h2⟩, fun p hp => h1 ▸ hs p (s1 p hp)⟩)
    · unfold NearZ; rw [if_neg hq]; exact ⟨z0, hle, (if_pos (of_decide_eq_true hp)).symm⟩
    · unfold NearZ; rw [if_neg hq]; exact ⟨z0, hle, (if_neg (of_decide_eq_false hp)).symm⟩
/-- the order behind an owner -/
noncomputable def laterZ (ord : List Int) (o : Int) : List Int := if ord.any (· == o) then ord.drop (ord.idxOf o + 1) else []
noncomputable def laterB (rs : List Row) (ord : List Int) (o : Int) (i : Nat) : Bool := inOrd rs (laterZ ord o) i && (rs[i]?.getD noRow).full
noncomputable def pubR (rs : List Row) (i : Nat) : Bool := [(Str.ofString "public"), (Str.ofString "internal")].any (· == (rs[i]?.getD noRow).seen)
noncomputable def nextL (rs : List Row) (ls : List Nat) (ord : List Int) (o : Int) (j : Nat) : List Nat := ((ls.filter fun i => likeR rs i j).filter (laterB rs ord o)).filter (pubR rs)
theorem next_fn (w : World) {R La Oa : Addr} {rs : List Row} {ls : List Nat} {ord : List Int} {j : Nat} {o : Int} {tj to_ : Tok} {led : Led} (H : LawIn w led R La Oa rs ls ord) (hj : j < rs.length) :
    Fn w 199 [.ref R, .ref La, .ref Oa, .int o to_, .int (j : Nat) tj] led 4 (fun led' v => led' = led ∧ ∃ z, (Dm.int z).Is v ∧ Least rs ord (nextL rs ls ord o j) z) := by
  have e0 : Challenge.rw_sa0304_01 = Challenge.rw_sa0304_01 ∧ KH = KH := ⟨rfl, rfl⟩
  revert e0; k_fill; intro _
  k_dflt (refine' Fn.enterC (binds := [(Str.ofString "rows", .ref R), (Str.ofString "listed", .ref La), (Str.ofString "order", .ref Oa), (Str.ofString "owner", .int o to_), (Str.ofString "number", .int (j : Nat) tj)]) ?ho ?hcd ?hb ?hk ?hn ?c2 ?c3 ?c4 ?_; (case ho => k_is); (case hcd => k_is); (case hb => exact fun s => BindsTo.of_eq rfl); (case hk => exact rfl); (case hn => decide +kernel); (case c2 => exact rfl); (case c3 => exact rfl); (case c4 => exact rfl))
  intro c cells hw O he l1 Y
  obtain ⟨ot, or, rfl, d1, d2⟩ := CellsAre.two Y
  subst hw
  have i1 : or.data = .cell (some (.ref R)) := d2
  have i2 : ot.data = .cell none := d1
  have kR : c.env.kindOf (Str.ofString "rows") = some .cell := by rw [he]; rfl
  have kT : c.env.kindOf (Str.ofString "later") = some .cell := by rw [he]; rfl
  have kL : c.env.kindOf (Str.ofString "listed") = some .local := by rw [he]; rfl
  have kO : c.env.kindOf (Str.ofString "order") = some .local := by rw [he]; rfl
  have kN : c.env.kindOf (Str.ofString "number") = some .local := by rw [he]; rfl
  have kW : c.env.kindOf (Str.ofString "owner") = some .local := by rw [he]; rfl
  have kS : c.env.kindOf (Str.ofString "some") = some .local := by rw [he]; rfl
  have kA : c.env.kindOf (Str.ofString "_law_alike") = some .globalImplicit := by rw [he]; rfl
  have kZ : c.env.kindOf (Str.ofString "_law_least") = some .globalImplicit := by rw [he]; rfl
  have xR : c.env.cells.lookup (Str.ofString "rows") = some (c.L + 1) := by rw [he]; rfl
  have xT : c.env.cells.lookup (Str.ofString "later") = some (c.L + 1 + 1) := by rw [he]; rfl
  generalize hm0 : bindL (envOfC _ _ c.L 199 (Value.ref 198)).kindOf _ _ = m0
  have q1 : m0 (Str.ofString "listed") = some (.ref La) := by subst hm0; rfl
  have q2 : m0 (Str.ofString "number") = some (.int (j : Nat) tj) := by subst hm0; rfl
  have q3 : m0 (Str.ofString "order") = some (.ref Oa) := by subst hm0; rfl
  have q4 : m0 (Str.ofString "owner") = some (.int o to_) := by subst hm0; rfl
  clear hm0 d1 d2 Y
  obtain ⟨lvs, nl, hL, hLi⟩ := H.listed
  obtain ⟨ovs, no, hO, hOi⟩ := H.order
  have hz : (ls.filter fun i => likeR rs i j).length ≤ 1000 := Nat.le_trans (List.length_filter_le _ _) H.lz
  have n2 {m led' p} (hm : m (Str.ofString "number") = some (.int (j : Nat) tj)) : Ev c m led' (.Name (Str.ofString "number") p) (.int (j : Nat)) := .loc O kN hm ⟨tj, rfl⟩
  have n3 {m led' p} (hm : m (Str.ofString "order") = some (.ref Oa)) : Ev c m led' (.Name (Str.ofString "order") p) (.ref Oa) := .loc O kO hm rfl
  have n5 {led' p} : Ev c m0 led' (.Name (Str.ofString "owner") p) (.int o) := .loc O kW q4 ⟨to_, rfl⟩
  have hovl : ovs.length ≤ 1000 := by rw [hOi.length]; exact H.oz
  generalize hl0 : [(c.L + 1 + 1, ot), (c.L + 1, or)] ++ led = led0
  have s1 : ∀ p ∈ led, p ∈ led0 := fun p hp => hl0 ▸ .tail _ (.tail _ hp)
  have y1 : (c.L + 1, or) ∈ led0 := hl0 ▸ .tail _ (.head _)
  have y2 : (c.L + 1 + 1, ot) ∈ led0 := hl0 ▸ .head _
  clear hl0
  refine St.setCT O kT xT (Tr.mono (Tr.ifexp (b := ord.any (· == o)) (P := fun v m' led' => m' = m0 ∧ ∃ l vs n, v = .ref l ∧ (l, listOf vs.toArray n) ∈ led' ∧ IntsAre vs (laterZ ord o) ∧ (∀ p ∈ led0, p ∈ led') ∧ l ≠ c.L + 1 + 1) (.cmp n5 (n3 q3) (.inInts (s1 _ hO) hOi)) (fun hb => ?_) fun hb => ?_) ?_)
  · have hin : o ∈ ord := by
      obtain ⟨x, hx, e⟩ := List.any_eq_true.mp hb
      exact eq_of_beq e ▸ hx
    refine Tr.mono (Tr.sliceFrom (n3 q3) (.add (.indexInts O (n3 q3) n5 (s1 _ hO) hOi hin H.oz) .int_) (s1 _ hO) (by omega) hovl) ?_
    rintro v m' led' ⟨D, h1, h2, rfl, h4⟩
    refine ⟨h2, D, _, 0, h1, .head _, ?_, fun p hp => .tail _ hp, (h4 _ y2).symm⟩
    unfold laterZ
    rw [if_pos hb]
    exact hOi.drop _
  · refine Tr.list (Its.nil ⟨Nat.zero_le _, fun l hl => ⟨rfl, l, [], 0, rfl, .head _, ?_, fun p hp => .tail _ hp, (Nat.ne_of_lt (hl _ y2)).symm⟩⟩)
    unfold laterZ
    rw [if_neg (by rw [hb]; exact Bool.false_ne_true)]
    exact .nil
  rintro v m' led1 ⟨rfl, T, tvs, nt, rfl, hT, hTi, hs1, hTne⟩
  refine ⟨ot, none, hs1 _ y2, i2, fun o' ho' => ?_⟩
  generalize hl2 : put led1 (c.L + 1 + 1) o' = led2
  have s2 : ∀ p ∈ led, p ∈ led2 := fun p hp => hl2 ▸ put_ne (hs1 _ (s1 p hp)) (Nat.ne_of_lt (Nat.lt_succ_of_lt (Nat.lt_succ_of_lt (l1 p hp))))
  have y3 : (c.L + 1, or) ∈ led2 := hl2 ▸ put_ne (hs1 _ y1) (Nat.ne_of_lt (Nat.lt_succ_self _))
  have y4 : (c.L + 1 + 1, o') ∈ led2 := hl2 ▸ .head _
  have y5 : (T, listOf tvs.toArray nt) ∈ led2 := hl2 ▸ put_ne hT hTne
  clear hl2
  have n1 {m led' p} (hs : ∀ p ∈ led2, p ∈ led') : Ev c m led' (.Name (Str.ofString "rows") p) (.ref R) := .cell O kR xR (hs _ y3) i1 rfl
  have id0 : ∀ p ∈ led2, p ∈ led2 := fun _ hp => hp
  -- the rows in a comprehension
  have inC {c' : Cx} {sc : Scope} {cl : List (Str × Addr)} {m3 : Map} {led3 : Led} {i : Nat} {t : Tok} (hi : i < rs.length) (hw' : c'.w = c.w) (O' : c'.Ok 3) (k1 : c'.env.kindOf (Str.ofString "other") = some .local) (k2 : c'.env.kindOf (Str.ofString "rows") = some .cell) (x2 : c'.env.cells.lookup (Str.ofString "rows") = some (c.L + 1))
      (hm : m3 (Str.ofString "other") = some (.int (i : Nat) t)) (hs : ∀ p ∈ led2, p ∈ led3) : ∃ r a, rs[i]? = some r ∧ RowAt c'.w led3 a r ∧ ∀ {p1 p2 p3}, Ev c' m3 led3 (.Subscript (.Name (Str.ofString "rows") p1) (.Name (Str.ofString "other") p2) p3) (.ref a) := by
    obtain ⟨r', hr'⟩ : ∃ r, rs[i]? = some r := ⟨_, List.getElem?_eq_getElem hi⟩
    obtain ⟨a', hRa', hEa'⟩ := H.rows.at hr'
    exact ⟨r', a', hr', hw' ▸ hRa'.mono fun p hp => hs p (s2 p hp), fun {_ _ _} => hEa' (fun p hp => hs p (s2 p hp)) (.cell O' k2 x2 (hs _ y3) i1 rfl) (.loc O' k1 hm ⟨t, rfl⟩) (by intro _; with_unfolding_all rfl)⟩
  refine St.comp false (k := 3) (cl := [((Str.ofString "rows"), c.L + 1), ((Str.ofString "later"), c.L + 1 + 1)]) O (by rw [he]; rfl) (by rw [he]; rfl) ⟨fun _ _ => rfl, fun _ => rfl⟩ rfl (by decide +kernel) (fun C => by rw [he]; rfl) kS
    (Tr.numsL (ws := ls.filter fun i => likeR rs i j) (pr := laterB rs ord o) (fun C => by rw [he]; rfl) hz ?iter ?test (by decide)) ?rest
  case iter =>
    refine Tr.mono (Tr.call (post := fun led' v => Nums (ls.filter fun i => likeR rs i j) led2 led' v) O (glob_ O kA (glob189 _)) (keep189 _) (.cons (n1 id0) (.cons (.loc (d := .ref La) O kL q1 rfl) (.cons (n2 q2) .nil))) fun vs q => ?_) fun v m' led' ⟨h1, D, vs, n, h2, h3, h4⟩ => ⟨h1, D, vs, n, h2, h3 ▸ .head _, h4, fun p hp => h3 ▸ .tail _ hp⟩
    cases q with | cons a1 q => cases q with | cons a2 q => cases q with | cons a3 q => cases q; cases a1; cases a2; obtain ⟨t, rfl⟩ := a3; exact alike_fn c.w (H.rows.mono s2) (s2 _ hL) hLi H.lb H.lz hj
  case test =>
    intro c' m' led3 i t hi hw' O' he' hm hs
    obtain ⟨r', a', hr', hRa', hEa'⟩ := inC (sc := default) (cl := []) (H.lb i (List.mem_filter.mp hi).1) hw' O' (by rw [he', he]; rfl) (by rw [he', he]; rfl) (by rw [he']; rfl) hm hs
    have e : laterB rs ord o i = ((laterZ ord o).any (· == (r'.spot : Nat)) && (r'.full && true)) := by unfold laterB inOrd spotZ; rw [hr', Bool.and_true]; rfl
    rw [e]
    exact .one (.and (.cons (.cmp (.get hEa' .str_ hRa' (.head _)) (.cell (d := .ref T) O' (by rw [he', he]; rfl) (show List.lookup _ c'.env.cells = _ by rw [he']; rfl) (hs _ y4) ho' rfl) (.inInts (hs _ y5) hTi)) fun _ =>
      .cons (.of (.get hEa' .str_ hRa' (.tail _ (.tail _ (.tail _ (.tail _ (.tail _ (.tail _ (.head _))))))))) fun _ => .nil))
  case rest =>
    rintro D nD outs ledJ ⟨hou, hsJ⟩
    have k4 : upd m' (Str.ofString "some") (.ref D) (Str.ofString "some") = some (.ref D) := upd_at
    have q3' : upd m' (Str.ofString "some") (.ref D) (Str.ofString "order") = some (.ref Oa) := upd_ne q3 (by decide)
    generalize upd m' (Str.ofString "some") (.ref D) = m1 at k4 q3' ⊢
    generalize hl5 : (D, listOf outs.toArray nD) :: ledJ = led5
    have s5 : ∀ p ∈ led2, p ∈ led5 := fun p hp => hl5 ▸ .tail _ (hsJ p hp)
    have y6 : (D, listOf outs.toArray nD) ∈ led5 := hl5 ▸ .head _
    clear hl5
    refine St.ret (Tr.drop (P := fun v m' led' => (∀ p ∈ led5, p ∈ led') ∧ ∃ z0, (Dm.int z0).Is v ∧ Least rs ord (nextL rs ls ord o j) z0) (Tr.callI O (glob_ O kZ (glob179 _)) (keep179 _) (Its.ev (n1 s5) fun v1 hv1 => Its.ev (n3 q3') fun v2 hv2 =>
      Its.cons (Tr.nums (cl := [((Str.ofString "rows"), c.L + 1)]) (ws := (ls.filter fun i => likeR rs i j).filter (laterB rs ord o)) (pr := pubR rs) O (by rw [he]; rfl) ⟨fun _ _ => rfl, fun _ => rfl⟩ rfl (by decide +kernel) (fun C => by rw [he]; rfl) (Nat.le_trans (List.length_filter_le _ _) hz)
        (Tr.mono (Ev.loc (d := .ref D) O kS k4 rfl) fun v m' led' ⟨h1, h2, h3⟩ => ⟨h2, D, outs, nD, h1, h3 ▸ y6, hou, fun p hp => h3 ▸ hp⟩) ?test2) fun v3 m3 led3 ⟨e3, D2, vs, n, e4, e5, e6⟩ => Its.nil ?call)) fun v m' led' ⟨h1, h2⟩ => ⟨led, ⟨rfl, h2⟩, fun p hp => h1 p (s5 p (s2 p hp))⟩)
    case test2 =>
      intro c' m' led3 i t hi hw' O' he' hm hs
      obtain ⟨r', a', hr', hRa', hEa'⟩ := inC (sc := default) (cl := []) (H.lb i (List.mem_filter.mp (List.mem_filter.mp hi).1).1) hw' O' (by rw [he', he]; rfl) (by rw [he', he]; rfl) (by rw [he']; rfl) hm fun p hp => hs p (s5 p hp)
      have e : pubR rs i = [(Str.ofString "public"), (Str.ofString "internal")].any (· == r'.seen) := by unfold pubR; rw [hr']; rfl
      rw [e]
      exact .one (.inTwo (.get hEa' .str_ hRa' (.tail _ (.tail _ (.tail _ (.tail _ (.tail _ (.head _))))))))
    case call =>
      cases hv1; cases hv2; subst e3; subst e4; subst e5
      exact Tr.mono (least_fn c.w (H.rows.mono fun p hp => .tail _ (s5 p (s2 p hp))) (.tail _ (s5 _ (s2 _ hO))) hOi H.oz (.head _) e6 (fun i hi => H.lb i (List.mem_filter.mp (List.mem_filter.mp (List.mem_filter.mp hi).1).1).1)
        (Nat.le_trans (List.length_filter_le _ _) (Nat.le_trans (List.length_filter_le _ _) hz)) c _ rfl O) fun v m' led' ⟨h1, h2, h3⟩ => ⟨fun p hp => h2 ▸ .tail _ hp, h3⟩
section
variable {prog : Program} {w : World} {A : Around} {E : Value → Shared → Prop} {s : Shared} {h₀ : Heap} {L l : Addr} {m : Map} {news led : Led} {vs : List Value} {n : Nat} {c : Cx} {e1 e2 : Expr} {pos p2 : Pos}
theorem pick_to (vs : List Value) {x : Int} (h0 : (vs.length : Int) ≤ x) : (slicePick vs.toArray none (some x) none).toList = vs := by
  rw [kms_pick_eq]
  obtain ⟨k, rfl⟩ := Int.eq_ofNat_of_zero_le (Int.le_trans (Int.natCast_nonneg _) h0)
  have h1 : ¬ ((k : Int) < 0) := by omega
  simp only [kms_pick, kms_lo, kms_hi, h1, if_false, Int.toNat_natCast]
  rw [Nat.min_eq_right (by omega)]
  simp
/-- all of a short list -/
theorem Tr.sliceTo {y : Int} (h1 : Ev c m led e1 (.ref l)) (h2 : Ev c m led e2 (.int y)) (hl : c.g.IsList l vs.toArray) (h0 : (vs.length : Int) ≤ y) (hsz : vs.length ≤ 1000)
    (hs : ∀ a : Addr, subscripted (.Slice none (some e2) none p2) false (.ref l) (.ref a) = operate [.ref a, .ref l] (getItem (.ref l) (.ref a)) := by intro _; with_unfolding_all rfl) :
    Tr c m led (eval (.Subscript e1 (.Slice none (some e2) none p2) pos) c.env) fun v m' led' => ∃ D, v = .ref D ∧ m' = m ∧ led' = (D, listOf vs.toArray 0) :: led := fun s F N =>
  Subscript_ (h1.use F N fun v h' tk i F' N' => by
    cases i
    refine wpAny_Slice (evalPart_none_step (evalPart_some_step (h2.use F' N' fun v2 h2 tk2 i2 F2 N2 => evalPart_none_step ?_)))
    obtain ⟨t, rfl⟩ := i2
    have hl' : h2.IsList l vs.toArray := let ⟨o, q1, q2⟩ := hl; ⟨o, F2.keep _ _ q1, q2⟩
    refine tail_any (Heap.IsList.typeIs (s := ⟨h2.push { cls := .type "slice", data := .fields #[.none, .int y t, .none] }, s.gens, s.drawn, tk2, s.os⟩) (hl'.push _)) slot_list_getitem.lookup
      (wpAny_getItem_list_slice (hl'.push _) (Heap.IsSliceOf.new ..) IsPart.none (IsPart.int _ _) .none (by simp) ?_ (by rw [List.size_toArray, sizeLine_eq]; omega)) (hs _)
    have N1 := News.push (F2.push { cls := .type "slice", data := .fields #[.none, .int y t, .none] }) (N2.grown fun _ _ e => Heap.get?_push_of_some _ e) { cls := .type "list", data := .seq (slicePick vs.toArray none (some y) none) }
    have F1 := (F2.push { cls := .type "slice", data := .fields #[.none, .int y t, .none] }).push { cls := .type "list", data := .seq (slicePick vs.toArray none (some y) none) }
    have e : slicePick vs.toArray none (some y) none = vs.toArray := (Array.toArray_toList).symm.trans (congrArg List.toArray (pick_to vs h0))
    rw [e] at N1 F1 ⊢
    exact .mk ⟨_, rfl, rfl, rfl⟩ F1 N1)
end
section
variable {w : World} {name qual : Str} {params : Arguments} {body : List Stmt} {scope : Scope} {dV kV doc pm cdv ct oc : Value} {an od : Option Addr} {osl : Array (Option Value)} {f : Addr} {vs : List Value} {binds : List (Str × Value)} {led : Led} {k : Nat} {post : Led → Value → Prop} {Hb : Heap → Prop}
/-- what a call of the def at f does, where something stands in the ground -/
noncomputable def FnH (w : World) (Hb : Heap → Prop) (f : Addr) (vs : List Value) (led : Led) (k : Nat) (post : Led → Value → Prop) : Prop :=
  ∀ (c : Cx) (m : Map), c.w = w → c.Ok k → Hb c.g → Tr c m led (call (.ref f) vs) fun v m' led' => m' = m ∧ post led' v
theorem FnH.enter (hst : ∀ g g', g.StaysIn g' → Hb g → Hb g') (ho : (KH w.params).lookup f = some ⟨oc, od, .func (fnOf name qual params body scope dV kV doc pm an cdv ct), osl⟩) (hcd : codeIn (KH w.params) cdv qual = true)
    (hbind : ∀ s, BindsTo s (fnOf name qual params body scope dV kV doc pm an cdv ct) ⟨vs, []⟩ binds) (hloc : ∀ y ∈ binds, scope.names.lookup y.1 = some .local)
    (hco : scope.isCoroutine = false) (hgen : scope.isGenerator = false) (hk : scope.kind = .function) (hcell : ∀ x ∈ scope.names, x.2 ≠ .cell)
    (h : ∀ c : Cx, c.w = w → c.Ok k → Hb c.g → c.env = envOf qual scope c.L f cdv → (∀ p ∈ led, p.1 < c.L) → TrS c (fun y => binds.reverse.lookup y) led body (FinP post)) : FnH w Hb f vs led (k + 1) post := by
  intro c m hw O hb s F N
  subst hw
  obtain ⟨p, loose, mean, mg, mb, T⟩ := O.T
  have hr := O.room
  have hu := O.units
  obtain ⟨FG, st₀, lv⟩ := ground (R := fun r s' => match r with | .ok (.ret v) => Post c (fun v m' led' => m' = m ∧ post led' v) s v s' | _ => False) F N
  have X' : (KH c.w.params).In (hideAll s.heap (led.map (·.1))) := O.X.keeps st₀
  have T' := T.keeps st₀
  have hb' := hst _ _ st₀ hb
  refine wpAny_call (codeAny_call_def (fd := fnX name qual params body scope [] dV kV doc pm an cdv ct) (body := body) (binds := binds) (show c.dp < recursionLimit by omega) ((O.X.keeps F.keep) _ _ ho) rfl (T.nolimit.keeps F.keep) (codeRec_of (O.X.keeps F.keep) hcd) rfl (hbind s) hcell hloc (fun h₁ hns hk₁ => ?_) hco hgen hk)
  have := h ⟨c.w, c.dp + 1, c.un + 3, (c.A.deeper (envOf qual scope s.heap.objs.size f cdv)).frames, (c.A.deeper (envOf qual scope s.heap.objs.size f cdv)).guards, hideAll s.heap (led.map (·.1)), s.heap.objs.size, envOf qual scope s.heap.objs.size f cdv⟩ rfl
    ⟨X', ⟨_, _, _, _, _, T'⟩, by show c.dp + 1 + k < _; omega, by show c.un + 3 + 10 * k < _; omega, rfl, hk, rfl, rfl⟩ hb' rfl (fun p hp => Heap.lt_size (N p hp).1)
  refine wpAny_mono (Tr.use (c := ⟨c.w, c.dp + 1, c.un + 3, (c.A.deeper (envOf qual scope s.heap.objs.size f cdv)).frames, (c.A.deeper (envOf qual scope s.heap.objs.size f cdv)).guards, hideAll s.heap (led.map (·.1)), s.heap.objs.size, envOf qual scope s.heap.objs.size f cdv⟩) (Q := fun fl s' => LeaveK c.g c.L m (hideAll s.heap (led.map (·.1))) (fun r s' => match r with | .ok (.ret v) => Post c (fun v m' led' => m' = m ∧ post led' v) s v s' | _ => False) (match fl with | .ret v => v | _ => .none) s') (E := fun _ _ => False) this
    ⟨hns, fun b o e => hk₁ b o (of_hideAll _ e), Nat.le_of_eq (hideAll_size _ _)⟩ (fun p hp => ⟨hk₁ _ _ (N p hp).1, Nat.ne_of_lt (Heap.lt_size (N p hp).1), hideAll_none _ (List.mem_map_of_mem hp)⟩) fun fl m' led' h' tk hp F2 N2 => ?_) (fun fl s' hl => lv _ _ hl) fun _ _ x => x.elim
  refine leaveK_ F2 N2 fun F3 N3 => ?_
  cases fl <;> exact (.mk ⟨rfl, hp⟩ F3 N3)
end
theorem well_fn (w : World) {Sa : Addr} {svs : List Value} {xs : List Int} {led : Led} (hSi : IntsAre svs xs) (hz : xs.length ≤ 63) :
    FnH w (fun g => g.IsList Sa svs.toArray) 146 [.ref Sa] led 1 (fun led' v => ∃ W l ivs ns n2, v = .ref W ∧ WellIn led' W l ∧ Script ivs ns ∧ (l, listOf ivs.toArray n2) ∈ led' ∧ l ≠ W ∧ (∀ p ∈ led, p.1 ≠ W) ∧ ∀ p ∈ led, p ∈ led' ∧ p.1 ≠ l) := by
  have e0 : Challenge.rw_sa0304_01 = Challenge.rw_sa0304_01 ∧ KH = KH := ⟨rfl, rfl⟩
  revert e0; k_fill; intro _
  k_dflt (refine' FnH.enter (fun g g' hst hq => let ⟨o, q1, q2⟩ := hq; ⟨o, hst _ _ q1, q2⟩) (binds := [(Str.ofString "script", .ref Sa)]) ?ho ?hcd ?hb ?hl ?c2 ?c3 ?c4 ?c5 ?_; (case ho => k_is); (case hcd => k_is); (case hb => exact fun s => BindsTo.of_eq rfl); (case hl => exact locs rfl); (case c2 => exact rfl); (case c3 => exact rfl); (case c4 => exact rfl); (case c5 => decide))
  intro c hw O hS he l1
  have q1 : (fun y => List.lookup y [((Str.ofString "script"), Value.ref Sa)].reverse) (Str.ofString "script") = some (.ref Sa) := rfl
  generalize (fun y => List.lookup y [((Str.ofString "script"), Value.ref Sa)].reverse) = m0 at q1 ⊢
  have kS : c.env.kindOf (Str.ofString "script") = some .local := by rw [he]; rfl
  have hl : svs.length = xs.length := hSi.length
  refine St.ret (Tr.list (Its.cons (Tr.comp false (k := 0) (cl := []) (P := fun D nD outs ledJ => IntsAre outs (xs.map fun x => x.fmod 2147483647) ∧ (∀ p ∈ led, p ∈ ledJ) ∧ ∀ p ∈ led, p.1 ≠ D) O (by rw [he]; rfl) ⟨fun _ _ => rfl, fun _ => rfl⟩ rfl (by decide +kernel) (fun C => by rw [he]; rfl)
    (Tr.mono (Tr.sliceTo (vs := svs) (Ev.loc (d := .ref Sa) O kS q1 rfl) .int_ hS (by omega) (by omega)) ?_)) ?_))
  · rintro v m' led' ⟨D, rfl, rfl, rfl⟩
    refine ⟨rfl, D, false, svs, 0, fun i outs led' => IntsAre outs ((xs.take i).map fun x => x.fmod 2147483647) ∧ ∀ p ∈ (D, listOf svs.toArray 0) :: led, p ∈ led', rfl, by omega, ⟨.nil, fun p hp => hp⟩, fun _ _ _ h => h.2 _ (.head _), ?_, ?_⟩
    · rintro c' m2 i u outs ledJ D2 I oI oc nD hw' O' he' hu ⟨hi, hb⟩ ha ho _
      obtain ⟨x, t, rfl, hx⟩ := hSi.at i u hu
      refine .plain rfl true .nil nofun fun _ => Tr.mono (Ev.mod (.loc (d := .int x) O' (by rw [he', he]; rfl) upd_at ⟨t, rfl⟩) .int_ (by decide)) ?_
      rintro r m4 led4 ⟨⟨t4, rfl⟩, _, rfl⟩
      refine ⟨ledJ, fun p hp => hp, ha, ?_, hb⟩
      rw [List.take_add_one, hx, List.map_append]
      exact hi.append (.cons _ _ .nil)
    · rintro D2 nD outs ledJ ⟨hi, hb⟩ hne _
      rw [hl, List.take_length] at hi
      exact ⟨hi, fun p hp => hb p (.tail _ hp), fun p hp => hne p (hb p (.tail _ hp))⟩
  · rintro v m' led' ⟨rfl, D, nD, outs, ledJ, rfl, rfl, hi, hb, hne⟩
    refine Its.ev .int_ fun v1 ⟨t1, e1⟩ => Its.ev .int_ fun v2 ⟨t2, e2⟩ => Its.nil ⟨show 3 ≤ 1000 by decide, fun l hl => ?_⟩
    subst e1; subst e2
    refine ⟨l, D, outs, _, nD, rfl, ⟨_, .head _, 0, 5, t1, t2, 0, rfl, by decide, by decide, by decide, by decide⟩, ⟨hi, by rw [List.length_map]; exact hz, ?_⟩, .tail _ (.head _), Nat.ne_of_lt (hl _ (.head _)), fun p hp => Nat.ne_of_lt (hl _ (.tail _ (hb p hp))), fun p hp => ⟨.tail _ (.tail _ (hb p hp)), hne p hp⟩⟩
    intro x hx
    obtain ⟨y, _, rfl⟩ := List.mem_map.mp hx
    exact ⟨Int.fmod_nonneg_of_pos _ (by decide), Int.fmod_lt_of_pos _ (by decide)⟩
/-- the well in a ledger, with its script -/
noncomputable def WellAt (led : Led) (W lW : Addr) : Prop := ∃ ivs ns n2, WellIn led W lW ∧ Script ivs ns ∧ (lW, listOf ivs.toArray n2) ∈ led ∧ lW ≠ W
/-- all but the well stands -/
noncomputable def Keep (W : Addr) (led led' : Led) : Prop := ∀ p ∈ led, p.1 ≠ W → p ∈ led'
theorem Keep.refl {W : Addr} {led : Led} : Keep W led led := fun _ h _ => h
theorem Keep.trans {W : Addr} {l1 l2 l3 : Led} (h : Keep W l1 l2) (h2 : Keep W l2 l3) : Keep W l1 l3 := fun p hp hn => h2 p (h p hp hn) hn
theorem Keep.sub {W : Addr} {l1 l2 : Led} (h : ∀ p ∈ l1, p ∈ l2) : Keep W l1 l2 := fun p hp _ => h p hp
theorem WellAt.sub {W lW : Addr} {led led' : Led} (h : WellAt led W lW) (hs : ∀ p ∈ led, p ∈ led') : WellAt led' W lW :=
  let ⟨ivs, ns, n2, ⟨o, h1, h1'⟩, h2, h3, h4⟩ := h; ⟨ivs, ns, n2, ⟨o, hs _ h1, h1'⟩, h2, hs _ h3, h4⟩
theorem keep153 (P : Params) : keepIn (KH P) (.ref 153) = true := by kernel_rfl
theorem glob153 (P : Params) : nsIn (KH P) mainGlobals (Str.ofString "_law_draw") = some (some (.ref 153)) := by kernel_rfl
inductive Consts : List Expr → List Str → Prop
  | nil : Consts [] []
  | cons {x : Str} {n : Nat} {p : Pos} {es : List Expr} {xs : List Str} : Consts es xs → Consts (.Constant (.str x) n p :: es) (x :: xs)
section
variable {c : Cx} {m : Map} {led : Led} {e e1 e2 : Expr} {es : List Expr} {d : Dm} {pos p1 p2 px : Pos} {x : Str} {k n : Nat} {W lW : Addr} {xs : List Str} {size : Int}
/-- what a draw leaves -/
noncomputable def DrawnV (W lW : Addr) (m : Map) (led : Led) (size : Int) (v : Value) (m' : Map) (led' : Led) : Prop := m' = m ∧ (∃ r : Int, 0 ≤ r ∧ r < size ∧ (Dm.int r).Is v) ∧ WellAt led' W lW ∧ Keep W led led'
theorem Tr.draw (O : c.Ok (k + 1)) (hk : c.env.kindOf (Str.ofString "_law_draw") = some .globalImplicit) (hW : WellAt led W lW) (h1 : Ev c m led e1 (.ref W)) (h2 : Ev c m led e2 (.int size)) (h0 : 0 < size)
    (hs : eval ((Expr.Name (Str.ofString "_law_draw") p1).Call [e1, e2] [] pos) c.env = (do let f ← eval (.Name (Str.ofString "_law_draw") p1) c.env; callWith pos f [] (backTo pos (starEach [e1, e2] c.env)) (backToKw pos (keywordEach [] c.env))) := by rfl)
    (he : starEach [e1, e2] c.env = (false, eval e1 c.env) :: starEach [e2] c.env := by rfl) (hp : (backTo pos (starEach [e2] c.env)).any (·.1) = false := by rfl) (he2 : starEach [e2] c.env = (false, eval e2 c.env) :: starEach [] c.env := by rfl) :
    Tr c m led (eval (.Call (.Name (Str.ofString "_law_draw") p1) [e1, e2] [] pos) c.env) (DrawnV W lW m led size) := by
  obtain ⟨ivs, ns, n2, w1, w2, w3, w4⟩ := hW
  refine Tr.mono (Tr.call (post := Drawn W lW led size) (O.less (Nat.succ_le_succ (Nat.zero_le k))) (glob_ O hk (glob153 _)) (keep153 _) (.cons h1 (.cons h2 .nil he2) he) (fun vs q => ?_) hs he hp) fun v m' led' ⟨q1, q2, q3, q4⟩ => ⟨q1, q2, ⟨ivs, ns, n2, q3, w2, q4 _ w3 w4, w4⟩, q4⟩
  cases q with | cons a1 q => cases q with | cons a2 q => cases q; cases a1; obtain ⟨t, rfl⟩ := a2; exact draw_fn c.w w1 w2 w3 w4 h0
theorem Its.consts {P : List Value → Map → Led → Prop} (h : Consts es xs) (hP : ∀ vs, StrsAre vs xs → P vs m led) : Its c m led es P := by
  induction h generalizing P with
  | nil => exact Its.nil (hP [] .nil)
  | cons h ih => exact Its.ev .str_ fun v ⟨t, hv⟩ => ih fun vs hvs => hP _ (hv ▸ .cons _ _ hvs)
theorem strsAt : ∀ {vs : List Value} {xs : List Str}, StrsAre vs xs → ∀ {i : Nat}, i < xs.length → ∃ x t, vs[i]? = some (.str x t) ∧ x ∈ xs
  | _, _, .cons x t r, 0, _ => ⟨x, t, rfl, .head _⟩
  | _, _, .cons x t r, i + 1, h => let ⟨y, u, h1, h2⟩ := strsAt r (Nat.lt_of_succ_lt_succ h); ⟨y, u, h1, .tail _ h2⟩
  | _, _, .nil, _, h => absurd h (Nat.not_lt_zero _)
theorem strsLen : ∀ {vs : List Value} {xs : List Str}, StrsAre vs xs → vs.length = xs.length
  | _, _, .nil => rfl
  | _, _, .cons _ _ r => congrArg Nat.succ (strsLen r)
/-- a word off a menu -/
noncomputable def Picked (W lW : Addr) (m : Map) (led : Led) (xs : List Str) (v : Value) (m' : Map) (led' : Led) : Prop := m' = m ∧ (∃ x, x ∈ xs ∧ (Dm.str x).Is v) ∧ WellAt led' W lW ∧ Keep W led led'
theorem Tr.menu (hc : Consts es xs) (hz : (xs.length : Int) = size ∧ xs.length ≤ 1000)
    (h : ∀ led1, (∀ p ∈ led, p ∈ led1) → Tr c m led1 (eval e2 c.env) (DrawnV W lW m led1 size))
    (hW : WellAt led W lW)
    (hs : ∀ (a : Addr) i t, subscripted e2 false (.ref a) (.int i t) = operate [.ref a, .int i t] (getItem (.ref a) (.int i t)) := by intro _ _ _; with_unfolding_all rfl) :
    Tr c m led (eval (.Subscript (.Tuple es n p1) e2 pos) c.env) (Picked W lW m led xs) := by
  obtain ⟨ivs, ns, n2, ⟨o, w1, w1'⟩, w2, w3, w4⟩ := hW
  refine Tr.tupAt (Tr.tuple (Its.consts hc fun vs hvs => ⟨by rw [strsLen hvs]; exact hz.2, fun a hl => ⟨a, vs, rfl, Tr.mono (h _ fun p hp => .tail _ hp) ?_⟩⟩)) hs
  rintro v2 m2 led2 ⟨rfl, ⟨r, h0, h1, t, rfl⟩, q3, q4⟩
  have hi : r.toNat < xs.length := by omega
  obtain ⟨x, u, hx, hm⟩ := strsAt hvs hi
  exact ⟨q4 _ (.head _) (Nat.ne_of_gt (hl _ w1)), r, t, _, rfl, h0, by rw [strsLen hvs]; omega, by rw [strsLen hvs]; exact hz.2, hx, rfl, ⟨x, hm, u, rfl⟩, q3, fun p hp hn => q4 p (.tail _ hp) hn⟩
end
/-- a display's pairs: written keys, data -/
inductive DP (c : Cx) (m : Map) (led : Led) : List (Option Expr) → List Expr → List (Str × Dm) → Prop
  | nil : DP c m led [] [] []
  | cons {x : Str} {n : Nat} {p : Pos} {e : Expr} {d : Dm} {ks : List (Option Expr)} {es : List Expr} {xs : List (Str × Dm)} : Ev c m led e d → DP c m led ks es xs → DP c m led (some (.Constant (.str x) n p) :: ks) (e :: es) ((x, d) :: xs)
inductive VA : List (Value × Value) → List (Str × Dm) → Prop
  | nil : VA [] []
  | cons {x : Str} {t : Tok} {v : Value} {d : Dm} {r : List (Value × Value)} {xs : List (Str × Dm)} : d.Is v → VA r xs → VA ((.str x t, v) :: r) ((x, d) :: xs)
theorem VA.keys : ∀ {vs : List (Value × Value)} {xs : List (Str × Dm)}, VA vs xs → allStrKeys vs = true ∧ (strPairs vs).map (·.1) = xs.map (·.1)
  | _, _, .nil => ⟨rfl, rfl⟩
  | _, _, .cons _ r => ⟨r.keys.1, congrArg (_ :: ·) r.keys.2⟩
theorem VA.at : ∀ {vs : List (Value × Value)} {xs : List (Str × Dm)}, VA vs xs → (xs.map (·.1)).Nodup → ∀ p ∈ xs, ∃ v, valueAt (strPairs vs) p.1 = some v ∧ p.2.Is v
  | _, _, .cons (x := x) (v := v) hv r, hn, p, hp => by
    unfold valueAt strPairs
    rw [List.find?_cons]
    rcases List.mem_cons.mp hp with rfl | hp
    · exact ⟨v, by simp, hv⟩
    · have hmem := List.mem_map_of_mem (f := fun q : Str × Dm => q.1) hp
      have hne : x ≠ p.1 := fun e => (List.nodup_cons.mp hn).1 (by show x ∈ _; rw [e]; exact hmem)
      have := r.at (List.nodup_cons.mp hn).2 p hp
      simpa [hne, valueAt] using this
section
variable {c : Cx} {m : Map} {led : Led} {e e1 e2 : Expr} {keys : List (Option Expr)} {values : List Expr} {xs : List (Str × Dm)} {pos : Pos}
theorem DP.run (h : DP c m led keys values xs) : ∀ {s : Shared} {Q : List (Value × Value) → Shared → Prop} {E : Value → Shared → Prop}, Fr c.g c.L s.heap m → News c.g c.L s.heap led → (∀ vs h' tk, VA vs xs → Fr c.g c.L h' m → News c.g c.L h' led → Q vs { s with heap := h', toks := tk }) →
    wpAny c.M c.A (evalPairs (pairTrees keys values c.env pos)) Q E s := by
  induction h with
  | nil => exact fun {s} _ _ F N k => pairTrees_nil_walk (k [] s.heap s.toks .nil F N)
  | cons he r ih =>
    intro s Q E F N k
    exact pairTrees_cons_walk (Ev.use .str_ F N fun v1 h1 tk1 ⟨t, i1⟩ F1 N1 => he.use F1 N1 fun v2 h2 tk2 i2 F2 N2 => ih F2 N2 fun vs h3 tk3 hv F3 N3 => k _ h3 tk3 (i1 ▸ .cons i2 hv) F3 N3)
theorem Tr.dictEv (h : ∀ led', (∀ p ∈ led, p ∈ led') → DP c m led' keys values xs) (hn : (xs.map (·.1)).Nodup) (hall : keys.all (·.isSome) = true) (hl : keys.length = values.length) (h0 : keys ≠ []) (hlen : keys.length ≤ 15) {k : Nat} (O : c.Ok k) :
    Tr c m led (eval (.Dict keys values pos) c.env) fun v m' led' => m' = m ∧ ∃ a o kvs, v = .ref a ∧ led' = (a, o) :: led ∧ (∀ p ∈ led, p.1 < a) ∧ o.IsDictOf (PySem.strKind Challenge.rw_sa0304_01.row.prog c.w) kvs ∧ ∀ p ∈ xs, ∃ v, valueAt kvs p.1 = some v ∧ p.2.Is v := by
  intro s F N
  obtain ⟨p, loose, mean, mg, mb, T⟩ := O.T
  refine kdn_eval (knd := PySem.strKind Challenge.rw_sa0304_01.row.prog c.w) F N (topRead_of T).nolimit hall hl h0 hlen fun d h' o F' N' lt lo hd => ?_
  refine (h _ fun p hp => .tail _ hp).run (s := { s with heap := h' }) F' N' fun vs h2 tk2 hv F2 N2 => ?_
  refine kdn_made_str (s := ⟨h2, s.gens, s.drawn, tk2, s.os⟩) F2 N2 (.head fun p hp => Nat.ne_of_lt (lt p hp)) hd hv.keys.1 (hv.keys.2 ▸ hn) fun h3 o3 F3 N3 hd3 => ?_
  exact .mk ⟨rfl, d, o3, _, rfl, rfl, lt, hd3, hv.at hn⟩ F3 N3
theorem Ev.addStr {x y : Str} (h1 : Ev c m led e1 (.str x)) (h2 : Ev c m led e2 (.str y)) (hz : x.length + y.length ≤ 1000) : Ev c m led (.BinOp e1 .Add e2 pos) (.str (x ++ y)) := fun s F N =>
  wpAny_BinOp (h1.use F N fun v h' tk ⟨t, i⟩ F' N' => h2.use F' N' fun v2 h3 tk3 ⟨t2, i2⟩ F3 N3 => by
    subst i; subst i2
    exact PyProof.Rows.add_str (fun t' tk => .mk ⟨⟨_, rfl⟩, rfl, rfl⟩ F3 N3) (by rw [sizeLine_eq]; omega))
theorem Tr.cmpT {op : CmpOp} {P : Value → Map → Led → Prop} (h1 : Tr c m led (eval e1 c.env) fun v m' led' => ∃ d1 d2 b, d1.Is v ∧ Ev c m' led' e2 d2 ∧ CmpD c m' led' op d1 d2 b ∧ P (.bool b) m' led') (hs : behindInMarks op e2 = false := by rfl) :
    Tr c m led (eval (.Compare e1 [op] [e2] pos) c.env) P := fun s F N =>
  wpAny_Compare1 (h1.use F N fun v1 m' led' h' tk ⟨d1, d2, b, i1, he, hc, hp⟩ F' N' => he.use F' N' fun v2 h'' tk' i2 F'' N'' => Tr.use (hc v1 v2 i1 i2) F'' N'' fun a m3 led3 h3 tk3 ⟨q1, q2, q3⟩ F3 N3 => .mk (q1 ▸ q2 ▸ q3 ▸ hp) F3 N3) hs
/-- both ways meet again -/
theorem St.ifJ {b : Bool} {body rest : List Stmt} {P : Flow → Map → Led → Prop} (J : Map → Led → Prop) (h : Tst c m led e b) (h1 : b = true → TrS c m led body fun f m' led' => f = .next ∧ J m' led') (h2 : b = false → J m led) (hr : ∀ m' led', J m' led' → TrS c m' led' rest P) :
    TrS c m led (.If e body [] pos :: rest) P := St.if0 h (fun hb => Tr.mono (h1 hb) fun f m' led' ⟨e, j⟩ => e ▸ hr m' led' j) fun hb => hr _ _ (h2 hb)
end
/-- what a drawn row keeps to -/
noncomputable def tyList : List Str := [(Str.ofString "()"), (Str.ofString "(uint256)"), (Str.ofString "(bool)")]
structure RowOk (r : Row) : Prop where
  key : ∃ ty, r.key = r.call ++ ty ∧ ((r.sort == (Str.ofString "function")) = true → ty ∈ tyList)
  short : r.key.length ≤ 200
  call : r.call ∈ [(Str.ofString "f"), (Str.ofString "g"), (Str.ofString "h")]
  seen : r.seen ∈ [(Str.ofString "public"), (Str.ofString "internal"), (Str.ofString "external"), (Str.ofString "private")]
/-- the frame of _law_row, behind the call's draw -/
structure RowM (W : Addr) (spot : Nat) (tS : Tok) (sort call : Str) (m : Map) : Prop where
  well : m (Str.ofString "well") = some (.ref W)
  spot : m (Str.ofString "spot") = some (.int (spot : Nat) tS)
  sort : ∃ t, m (Str.ofString "sort") = some (.str sort t)
  call : ∃ t, m (Str.ofString "call") = some (.str call t)
theorem RowM.upd {W : Addr} {spot : Nat} {tS : Tok} {sort call : Str} {m : Map} (h : RowM W spot tS sort call m) {x : Str} {v : Value} (hx : [(Str.ofString "well"), (Str.ofString "spot"), (Str.ofString "sort"), (Str.ofString "call")].contains x = false) : RowM W spot tS sort call (upd m x v) := by
  have ne : ∀ y ∈ [(Str.ofString "well"), (Str.ofString "spot"), (Str.ofString "sort"), (Str.ofString "call")], y ≠ x := fun y hy e => by subst e; rw [List.contains_iff_mem.mpr hy] at hx; cases hx
  obtain ⟨a, b, ⟨t, d⟩, ⟨u, e⟩⟩ := h
  exact ⟨upd_ne a (ne _ (.head _)), upd_ne b (ne _ (.tail _ (.head _))), ⟨t, upd_ne d (ne _ (.tail _ (.tail _ (.head _))))⟩, ⟨u, upd_ne e (ne _ (.tail _ (.tail _ (.tail _ (.head _)))))⟩⟩
theorem short_of {x : Str} {xs : List Str} (h : x ∈ xs) (hall : xs.all (fun y => decide (y.length ≤ 100)) = true) : x.length ≤ 100 := of_decide_eq_true (List.all_eq_true.mp hall x h)
theorem rowL_keys (r : Row) : ((rowL r).map (·.1)).Nodup := by
  show [(Str.ofString "at"), (Str.ofString "sort"), (Str.ofString "call"), (Str.ofString "key"), (Str.ofString "duty"), (Str.ofString "seen"), (Str.ofString "full")].Nodup
  decide +kernel
set_option maxHeartbeats 1000000 in
theorem row_fn (w : World) {W lW : Addr} {spot : Nat} {tS : Tok} {led : Led} (hW : WellAt led W lW) :
    Fn w 160 [.ref W, .int (spot : Nat) tS] led 2 (fun led' v => ∃ a r, v = .ref a ∧ RowAt w led' a r ∧ (∀ p ∈ led, p.1 ≠ a) ∧ r.spot = spot ∧ RowOk r ∧ WellAt led' W lW ∧ Keep W led led') := by
  have e0 : Challenge.rw_sa0304_01 = Challenge.rw_sa0304_01 ∧ KH = KH := ⟨rfl, rfl⟩
  revert e0; k_fill; intro _
  k_dflt (refine' Fn.enter (binds := [(Str.ofString "well", .ref W), (Str.ofString "spot", .int (spot : Nat) tS)]) ?ho ?hcd ?hb ?hl ?c2 ?c3 ?c4 ?c5 ?_; (case ho => k_is); (case hcd => k_is); (case hb => exact fun s => BindsTo.of_eq rfl); (case hl => exact locs rfl); (case c2 => exact rfl); (case c3 => exact rfl); (case c4 => exact rfl); (case c5 => decide))
  intro c hw O he l1
  subst hw
  generalize hm0 : (fun y => List.lookup y [((Str.ofString "well"), Value.ref W), ((Str.ofString "spot"), Value.int (spot : Nat) tS)].reverse) = m0
  have q1 : m0 (Str.ofString "well") = some (.ref W) := by subst hm0; rfl
  have q2 : m0 (Str.ofString "spot") = some (.int (spot : Nat) tS) := by subst hm0; rfl
  clear hm0
  have kW : c.env.kindOf (Str.ofString "well") = some .local := by rw [he]; rfl
  have kP : c.env.kindOf (Str.ofString "spot") = some .local := by rw [he]; rfl
  have k1 : c.env.kindOf (Str.ofString "sort") = some .local := by rw [he]; rfl
  have k2 : c.env.kindOf (Str.ofString "call") = some .local := by rw [he]; rfl
  have k3 : c.env.kindOf (Str.ofString "types") = some .local := by rw [he]; rfl
  have k4 : c.env.kindOf (Str.ofString "duty") = some .local := by rw [he]; rfl
  have k5 : c.env.kindOf (Str.ofString "seen") = some .local := by rw [he]; rfl
  have k6 : c.env.kindOf (Str.ofString "full") = some .local := by rw [he]; rfl
  have kD : c.env.kindOf (Str.ofString "_law_draw") = some .globalImplicit := by rw [he]; rfl
  have nW {m led p} (h : m (Str.ofString "well") = some (.ref W)) : Ev c m led (.Name (Str.ofString "well") p) (.ref W) := .loc O kW h rfl
  have dr {m led p1 p2 p3 n p4} {size : Int} (h : m (Str.ofString "well") = some (.ref W)) (hW : WellAt led W lW) (h0 : 0 < size) : Tr c m led (eval (.Call (.Name (Str.ofString "_law_draw") p1) [.Name (Str.ofString "well") p2, .Constant (.int size) n p3] [] p4) c.env) (DrawnV W lW m led size) := Tr.draw O kD hW (nW h) .int_ h0
  refine St.setT O k1 (Tr.menu (.cons (.cons (.cons (.cons (.cons .nil))))) ⟨rfl, by decide⟩ (fun led1 hs => dr q1 (hW.sub hs) (by decide)) hW) ?_
  rintro v1 m1 led1 ⟨rfl, ⟨sort, hsort, t1, rfl⟩, hW1, hK1⟩
  refine St.swap [(Str.ofString "call"), (Str.ofString "types")] (Tr.tuple (Its.cons (Tr.menu (.cons (.cons (.cons .nil))) ⟨rfl, by decide⟩ (fun led1 hs => dr (upd_ne q1 (by decide)) (hW1.sub hs) (by decide)) hW1) ?_)) (by rw [he]; rfl)
  rintro v2 m2 led2 ⟨rfl, ⟨call, hcall, t2, rfl⟩, hW2, hK2⟩
  refine Its.cons (Tr.menu (.cons (.cons (.cons .nil))) ⟨rfl, by decide⟩ (fun led1 hs => dr (upd_ne q1 (by decide)) (hW2.sub hs) (by decide)) hW2) ?_
  rintro v3 m3 led3 ⟨rfl, ⟨ty, hty, t3, rfl⟩, hW3, hK3⟩
  refine Its.nil ⟨show 2 ≤ 1000 by decide, fun l hl => ⟨l, _, rfl, .head _, rfl, Asn.name O k3 (Asn.name O k2 (Asn.nil ?_))⟩⟩
  have R0 : RowM W spot tS sort call (upd (upd (upd m1 (Str.ofString "sort") (.str sort t1)) (Str.ofString "types") (.str ty t3)) (Str.ofString "call") (.str call t2)) :=
    ⟨upd_ne (upd_ne (upd_ne q1 (by decide)) (by decide)) (by decide), upd_ne (upd_ne (upd_ne q2 (by decide)) (by decide)) (by decide), ⟨t1, upd_ne (upd_ne upd_at (by decide)) (by decide)⟩, ⟨t2, upd_at⟩⟩
  have R1 : upd (upd (upd m1 (Str.ofString "sort") (.str sort t1)) (Str.ofString "types") (.str ty t3)) (Str.ofString "call") (.str call t2) (Str.ofString "types") = some (.str ty t3) := upd_ne upd_at (by decide)
  generalize upd (upd (upd m1 (Str.ofString "sort") (.str sort t1)) (Str.ofString "types") (.str ty t3)) (Str.ofString "call") (.str call t2) = m4 at R0 R1 ⊢
  refine St.setT O k4 (Tr.menu (.cons (.cons (.cons (.cons (.cons (.cons .nil)))))) ⟨rfl, by decide⟩ (fun led1 hs => dr R0.well ((hW3.sub fun p hp => .tail _ hp).sub hs) (by decide)) (hW3.sub fun p hp => .tail _ hp)) ?_
  rintro v4 m5 led5 ⟨rfl, ⟨du, hdu, t4, rfl⟩, hW5, hK5⟩
  have hK : Keep W led led5 := ((hK1.trans hK2).trans hK3).trans ((Keep.sub fun p hp => .tail _ hp).trans hK5)
  refine St.ifJ (b := sort != (Str.ofString "function")) (fun m led' => RowM W spot tS sort call m ∧ (∃ ty t, m (Str.ofString "types") = some (.str ty t) ∧ ty.length ≤ 100 ∧ ((sort == (Str.ofString "function")) = true → ty ∈ tyList)) ∧ (∃ du t, m (Str.ofString "duty") = some (.str du t)) ∧ WellAt led' W lW ∧ Keep W led led')
    (.cmp (.loc (d := .str sort) O k1 (upd_ne R0.sort.choose_spec (by decide)) ⟨_, rfl⟩) .str_ .neStr) (fun hb => ?_) (fun _ => ⟨R0.upd rfl, ⟨ty, t3, upd_ne R1 (by decide), ?hl, fun _ => hty⟩, ⟨du, t4, upd_at⟩, hW5, hK⟩) ?_
  case hl => exact short_of hty (by decide +kernel)
  · refine St.tup (Tr.tuple (Its.ev .str_ fun v1 hv1 => Its.ev .str_ fun v2 hv2 => Its.nil ⟨show 2 ≤ 1000 by decide, fun l hl => ⟨l, _, rfl, .head _, rfl, Asg.name O k3 (Asg.name O k4 (Asg.nil (St.nil ⟨rfl, ?_⟩)))⟩⟩)) (hw := by rw [he]; rfl)
    obtain ⟨u1, rfl⟩ := hv1
    obtain ⟨u2, rfl⟩ := hv2
    exact ⟨((R0.upd rfl).upd rfl).upd rfl, ⟨_, u1, upd_ne upd_at (by decide), by decide +kernel, fun h => by rw [bne, h] at hb; exact nomatch hb⟩, ⟨_, u2, upd_at⟩, hW5.sub fun p hp => .tail _ hp, hK.trans (Keep.sub fun p hp => .tail _ hp)⟩
  rintro m6 led6 ⟨R2, ⟨ty2, t5, hty2, hlen, hty3⟩, ⟨du2, t6, hdu2⟩, hW6, hK6⟩
  refine St.swap [(Str.ofString "seen"), (Str.ofString "full")] (Tr.tuple (Its.cons (Tr.menu (.cons (.cons (.cons (.cons .nil)))) ⟨rfl, by decide⟩ (fun led1 hs => dr R2.well (hW6.sub hs) (by decide)) hW6) ?_)) (by rw [he]; rfl)
  rintro v7 m7 led7 ⟨rfl, ⟨seen, hseen, t7, rfl⟩, hW7, hK7⟩
  refine Its.cons (P1 := fun v m' led' => m' = m7 ∧ (∃ b, (Dm.bool b).Is v) ∧ WellAt led' W lW ∧ Keep W led7 led') (Tr.cmpT (Tr.mono (dr R2.well hW7 (by decide)) fun v m' led' ⟨h1, ⟨r, _, _, hr⟩, h2, h3⟩ => ⟨.int r, .int 1, _, hr, .int_, .eqInt, h1, ⟨_, rfl⟩, h2, h3⟩)) ?_
  rintro v8 m8 led8 ⟨rfl, ⟨full, rfl⟩, hW8, hK8⟩
  refine Its.nil ⟨show 2 ≤ 1000 by decide, fun l hl => ⟨l, _, rfl, .head _, rfl, Asn.name O k6 (Asn.name O k5 (Asn.nil ?_))⟩⟩
  have R3 := (R2.upd (v := .bool full) (x := (Str.ofString "full")) rfl).upd (v := .str seen t7) (x := (Str.ofString "seen")) rfl
  have s1 : upd (upd m8 (Str.ofString "full") (.bool full)) (Str.ofString "seen") (.str seen t7) (Str.ofString "seen") = some (.str seen t7) := upd_at
  have s2 : upd (upd m8 (Str.ofString "full") (.bool full)) (Str.ofString "seen") (.str seen t7) (Str.ofString "full") = some (.bool full) := upd_ne upd_at (by decide)
  have s3 : upd (upd m8 (Str.ofString "full") (.bool full)) (Str.ofString "seen") (.str seen t7) (Str.ofString "types") = some (.str ty2 t5) := upd_ne (upd_ne hty2 (by decide)) (by decide)
  have s4 : upd (upd m8 (Str.ofString "full") (.bool full)) (Str.ofString "seen") (.str seen t7) (Str.ofString "duty") = some (.str du2 t6) := upd_ne (upd_ne hdu2 (by decide)) (by decide)
  generalize upd (upd m8 (Str.ofString "full") (.bool full)) (Str.ofString "seen") (.str seen t7) = m9 at R3 s1 s2 s3 s4 ⊢
  obtain ⟨u1, hs1⟩ := R3.sort
  obtain ⟨u2, hs2⟩ := R3.call
  have hcl : call.length ≤ 100 := short_of hcall (by decide +kernel)
  have nC {led p} : Ev c m9 led (.Name (Str.ofString "call") p) (.str call) := .loc O k2 hs2 ⟨u2, rfl⟩
  refine St.ret (Tr.mono (Tr.dictEv (xs := rowL ⟨spot, sort, call, call ++ ty2, du2, seen, full⟩) (fun led' _ => .cons (.loc (d := .int (spot : Nat)) O kP R3.spot ⟨tS, rfl⟩) (.cons (.loc (d := .str sort) O k1 hs1 ⟨u1, rfl⟩) (.cons nC (.cons (.addStr nC (.loc O k3 s3 ⟨t5, rfl⟩) (by omega)) (.cons (.loc (d := .str du2) O k4 s4 ⟨t6, rfl⟩) (.cons (.loc (d := .str seen) O k5 s1 ⟨t7, rfl⟩) (.cons (.loc (d := .bool full) O k6 s2 rfl) .nil)))))))
    (rowL_keys _) rfl rfl (by simp) (by decide) O) ?_)
  rintro v m' led' ⟨_, a, o, kvs, rfl, rfl, hlo, h1, h2⟩
  have hsl : (call ++ ty2).length ≤ 200 := by
    show (call.cps ++ ty2.cps).size ≤ 200
    rw [Array.size_append]
    have h1 : call.cps.size ≤ 100 := hcl
    have h2 : ty2.cps.size ≤ 100 := hlen
    omega
  have hfr : ∀ p ∈ led, p.1 ≠ a := fun p hp => by
    by_cases hn : p.1 = W
    · obtain ⟨_, _, _, ⟨o, w1, _⟩, _⟩ := hW8
      rw [hn]
      exact Nat.ne_of_lt (hlo _ (.tail _ w1))
    · exact Nat.ne_of_lt (hlo _ (.tail _ (((hK6.trans hK7).trans hK8) p hp hn)))
  exact ⟨a, _, rfl, ⟨o, kvs, .head _, h1, h2⟩, hfr, rfl, ⟨⟨ty2, rfl, hty3⟩, hsl, hcall, hseen⟩, (hW8.sub fun p hp => .tail _ hp).sub fun p hp => .tail _ hp, ((hK6.trans hK7).trans hK8).trans ((Keep.sub fun p hp => .tail _ hp).trans (Keep.sub fun p hp => .tail _ hp))⟩
noncomputable def rangeO (k : Nat) (t u v : Tok) : Obj := { cls := .type "range", data := .fields #[.int 0 t, .int (k : Nat) u, .int 1 v] }
theorem nsRange (P : Params) : nsIn (KH P) mainGlobals (Str.ofString "range") = some none := by kernel_rfl
section
variable {c : Cx} {m : Map} {led : Led} {e iter : Expr} {pos px p1 : Pos} {x : Str} {k : Nat} {P : Flow → Map → Led → Prop} {rest body : List Stmt}
theorem Tr.range {P : Value → Map → Led → Prop} (O : c.Ok k) (hk : c.env.kindOf (Str.ofString "range") = some .globalImplicit) (h : Tr c m led (eval e c.env) fun v m' led' => ∃ n : Nat, (Dm.int (n : Nat)).Is v ∧ ∀ r t u w, (∀ p ∈ led', p.1 < r) → P (.ref r) m' ((r, rangeO n t u w) :: led'))
    (hs : eval ((Expr.Name (Str.ofString "range") p1).Call [e] [] pos) c.env = (do let f ← eval (.Name (Str.ofString "range") p1) c.env; callWith pos f [] (backTo pos (starEach [e] c.env)) (backToKw pos (keywordEach [] c.env))) := by rfl)
    (he : backTo pos (starEach [e] c.env) = [(false, eval e c.env)] := by rfl) : Tr c m led (eval (.Call (.Name (Str.ofString "range") p1) [e] [] pos) c.env) P := by
  intro s F N
  obtain ⟨p, loose, mean, mg, mb, T⟩ := O.T
  refine Call_ (Name_function_global O.kind hk (loadGlobal_builtin (by rw [O.glob]; exact (topRead_of T).g.keeps F.keep) (mg_none_of O.X (topRead_of T).g (nsRange _)) (by rw [O.blt]; exact (topRead_of T).b.keeps F.keep) (((topRead_of T).builtins (Str.ofString "range") (by decide)).trans boot_range) ?_) (by decide)) hs
  rw [he]
  refine PySem.callWith_type rfl (Calls.evalArgs_plain (Calls.spliced_cons (h.use F N fun v m' led' h' tk ⟨n, ⟨t, hv⟩, hp⟩ F' N' => Calls.spliced_nil ?_)))
  subst hv
  exact call_range_1 (.mk (hp _ _ _ _ fun q hq => Heap.lt_size (N' q hq).1) (F'.push _) (N'.push F' _))
inductive ForRL (c : Cx) (x : Str) (body rest : List Stmt) (P : Flow → Map → Led → Prop) (v : Value) (m : Map) (led : Led) : Prop
  | mk (r : Addr) (n : Nat) (t u w : Tok) (J : Nat → Map → Led → Prop) (e : v = .ref r) (hr : (r, rangeO n t u w) ∈ led) (hn : n ≤ 1000) (h0 : J 0 m led)
    (turn : ∀ (i : Nat) tv m' led' I oI, i < n → J i m' led' → Apart led' [I] → TrS c (upd m' x (.int (i : Nat) tv)) ((I, oI) :: led') body (TurnP c rest P I oI (J (i + 1))))
    (done : ∀ m' led', J n m' led' → TrS c m' led' rest P) : ForRL c x body rest P v m led
theorem St.forRange (O : c.Ok k) (hk : c.env.kindOf x = some .local) (h : Tr c m led (eval iter c.env) (ForRL c x body rest P))
    (hs : ∀ v, foldedSetIterable iter c.env v = (Pure.pure v : Sem Value) := by intro _; rfl) : TrS c m led (.For (.Name x px) iter body [] pos :: rest) P :=
  St.one fun s F N => for_range (h₀ := c.g) (L := c.L) rfl (h.use F N fun v m1 led1 h1 tk1 hv F1 N1 => by
    obtain ⟨r, n, t, u, w, J, e, hr, hn, hj, turn, done⟩ := hv
    refine ⟨r, n, t, u, w, m1, led1, J, e, (N1 _ hr).1, hn, F1, N1, hj, ?_, ?_⟩
    · intro i tv m' led' h' tk I oI hi hJ ha F' N'
      refine wpAny_assign_Name ?_
      refine Tr.use (store_ (v := .int (i : Nat) tv) (led := (I, oI) :: led') O hk) F' N' fun _ m2 led2 h2 tk2 ⟨q1, q2⟩ F2 N2 => ?_
      subst q1; subst q2
      refine Tr.use (turn i tv m' led' I oI hi hJ ha) F2 N2 fun f m3 led3 h3 tk3 hp F3 N3 => ?_
      cases f with
      | ret v => exact (.mk hp F3 N3)
      | brk => exact (.mk hp F3 N3)
      | next =>
        obtain ⟨led4, h4, a4, j4⟩ := hp
        exact ⟨h3, tk3, m3, led4, rfl, F3, News.sub N3 h4, a4, j4⟩
      | cont =>
        obtain ⟨led4, h4, a4, j4⟩ := hp
        exact ⟨h3, tk3, m3, led4, rfl, F3, News.sub N3 h4, a4, j4⟩
    · intro m' led' h' tk hJ F' N'
      exact (.mk (done m' led' hJ) F' N')) hs
/-- a test that builds, both ways meet again -/
theorem St.ifT {orelse : List Stmt} (h : Tr c m led (PySem.isTrue e c.env (eval e c.env)) fun b m' led' => (b = true → TrS c m' led' body (Then c rest P)) ∧ (b = false → TrS c m' led' orelse (Then c rest P))) : TrS c m led (.If e body orelse pos :: rest) P :=
  St.one fun s F N => wpAny_If (h.use F N fun b m' led' h' tk hp F' N' => by
    cases b with
    | true => exact Tr.use (hp.1 rfl) F' N' fun a m3 led3 h3 tk3 hp F3 N3 => (.mk hp F3 N3)
    | false => exact Tr.use (hp.2 rfl) F' N' fun a m3 led3 h3 tk3 hp F3 N3 => (.mk hp F3 N3))
/-- e1 and e2, where e2 builds -/
theorem Tr.and2 {e1 e2 : Expr} {b1 : Bool} {P : Bool → Map → Led → Prop} (h1 : Tst c m led e1 b1) (h2 : b1 = true → Tr c m led (PySem.isTrue e2 c.env (eval e2 c.env)) P) (h3 : b1 = false → P false m led) {whole : Sem Value} : Tr c m led (PySem.isTrue (.BoolOp .And [e1, e2] pos) c.env whole) P := fun s F N =>
  isTrue_and (Tr.useB h1 F N fun h' tk F' N' => by
    cases b1 with
    | true => exact isTrue_and (Tr.use (h2 rfl) F' N' fun a m' led' h'' tk' hp F'' N'' => by
        cases a with
        | true => exact isTrue_and_nil (.mk hp F'' N'')
        | false => rw [if_neg Bool.false_ne_true]; exact (.mk hp F'' N''))
    | false => rw [if_neg Bool.false_ne_true]; exact (.mk (h3 rfl) F' N'))
theorem Tr.cmpB {op : CmpOp} {e1 e2 : Expr} {P : Bool → Map → Led → Prop} (h1 : Tr c m led (eval e1 c.env) fun v m' led' => ∃ d1 d2 b, d1.Is v ∧ Ev c m' led' e2 d2 ∧ CmpD c m' led' op d1 d2 b ∧ P b m' led') (hs : behindInMarks op e2 = false := by rfl) :
    Tr c m led (PySem.isTrue (.Compare e1 [op] [e2] pos) c.env (eval (.Compare e1 [op] [e2] pos) c.env)) P := fun s F N =>
  wpAny_isTrue_Compare1 (h1.use F N fun v1 m' led' h' tk ⟨d1, d2, b, i1, he, hc, hp⟩ F' N' => he.use F' N' fun v2 h'' tk' i2 F'' N'' => Tr.use (hc v1 v2 i1 i2) F'' N'' fun a m3 led3 h3 tk3 ⟨q1, q2, q3⟩ F3 N3 => q1 ▸ wpAny_truthy_bool (.mk (q2 ▸ q3 ▸ hp) F3 N3)) hs
end
section
variable {c : Cx} {m : Map} {led : Led} {e1 e2 e3 : Expr} {pos apos p2 : Pos} {a : Addr} {k : Nat} {P : Flow → Map → Led → Prop} {rest : List Stmt} {pl : Sem Bool}
theorem St.insert (h1 : Ev c m led e1 (.ref a)) (hl0 : ∃ (vs : List Value) (n : Nat), (a, listOf vs.toArray n) ∈ led)
    (h2 : Its c m led [e2, e3] fun vs m' led' => ∃ (x : Int) (u : Tok) (y : Value) (ws : List Value) (n : Nat), vs = [.int x u, y] ∧ (a, listOf ws.toArray n) ∈ led' ∧ ws.length ≤ 1000 ∧ 0 ≤ x ∧ x ≤ 2000 ∧ TrS c m' (put led' a (listOf (kl_ins ws x y).toArray (n + 1))) rest P)
    (hs : eval ((e1.Attribute (Str.ofString "insert") apos).Call [e2, e3] [] pos) c.env = (do
          let ov ← eval e1 c.env
          standAt apos.atName
          let __x ← holding [ov] (getMethod ov (Str.ofString "insert") pl)
          match __x with
            | (f, first) => callWith pos f first (backTo pos (starEach [e2, e3] c.env)) []) := by rfl)
    (he : starEach [e2, e3] c.env = (false, eval e2 c.env) :: starEach [e3] c.env := by rfl) (hp : (backTo pos (starEach [e3] c.env)).any (·.1) = false := by rfl)
    (hi : interactive c.env = false := by rfl) (hw : swapsWith ((e1.Attribute (Str.ofString "insert") apos).Call [e2, e3] [] pos) none p2.line c.env = (Pure.pure false : Sem Bool) := by rfl) :
    TrS c m led (.Expr (.Call (.Attribute e1 (Str.ofString "insert") apos) [e2, e3] [] pos) p2 :: rest) P := by
  obtain ⟨vs0, n0, hl0⟩ := hl0
  refine St.expr (fun s F N => MethodCall_ (pl := pl) (h1.use F N fun v h' tk i F' N' => ?_) hs) hi hw
  cases i
  refine kf_method N' hl0 PySem.F.slot_list_insert PySem.F.type_list_insert ?_
  refine callWith_method1 (Tr.use (h2 pos) F' N' fun vs m' led' h2 tk2 ⟨x, u, y, ws, n, ev, ha, hz, h0, h9, ht⟩ F2 N2 => ?_) he hp
  subst ev
  obtain ⟨N3, U, _⟩ := put_upd (o' := listOf (kl_ins ws x y).toArray (n + 1)) N2 ha
  exact kl_insert F2 N3 (by simp [Builtin.List.listFitsIndex]; omega) (by simp) U (by simp; rw [sizeLine_eq]; omega) fun h5 F6 N6 => .mk ht F6 N6
end
/-- an order: one ahead, no number twice -/
structure OrdOk (many : Nat) (ord : List Nat) : Prop where
  ne : ord ≠ []
  nodup : ord.Nodup
  lt : ∀ x ∈ ord, x < many
noncomputable def insN (l : List Nat) (r y : Nat) : List Nat := l.take (1 + r) ++ y :: l.drop (1 + r)
theorem kl_insN {vs : List Value} {l : List Nat} {r y : Nat} {t : Tok} (h : IntsAre vs (natZ l)) (hr : r < l.length) : IntsAre (kl_ins vs (1 + (r : Nat)) (.int (y : Nat) t)) (natZ (insN l r y)) := by
  have hl : vs.length = l.length := by rw [h.length, List.length_map]
  unfold kl_ins insN natZ
  rw [if_neg (by omega), hl, Nat.min_eq_left (by omega), show ((1 : Int) + (r : Nat)).toNat = 1 + r by omega, List.map_append, List.map_cons]
  refine (h.take _ |> fun q => by rwa [← List.map_take] at q : IntsAre (vs.take (1 + r)) ((l.take (1 + r)).map fun (j : Nat) => (j : Int))).append (.cons _ _ ?_)
  have := h.drop (1 + r)
  rwa [← List.map_drop] at this
theorem insN_perm (l : List Nat) (r y : Nat) : (insN l r y).Perm (y :: l) := by
  unfold insN
  refine List.perm_middle.trans ?_
  rw [List.take_append_drop]
theorem insN_cons (h : Nat) (l : List Nat) (r y : Nat) : insN (h :: l) r y = h :: (l.take r ++ y :: l.drop r) := by unfold insN; rw [Nat.add_comm 1 r]; rfl
theorem CmpD.neIntD {c : Cx} {m : Map} {led : Led} {x y : Int} : CmpD c m led .NotEq (.int x) (.int y) (x != y) := fun v1 v2 ⟨t, h1⟩ ⟨u, h2⟩ s F N => by
  subst h1; subst h2; exact PyProof.Rows.ne_int (.mk ⟨rfl, rfl, rfl⟩ F N)
theorem Tr.addT {c : Cx} {m : Map} {led : Led} {e1 e2 : Expr} {pos : Pos} {x : Int} {P1 P : Value → Map → Led → Prop} (h1 : Ev c m led e1 (.int x)) (h2 : Tr c m led (eval e2 c.env) P1) (h : ∀ v m' led', P1 v m' led' → ∃ y, (Dm.int y).Is v ∧ ∀ t, P (.int (x + y) t) m' led') : Tr c m led (eval (.BinOp e1 .Add e2 pos) c.env) P := fun s F N =>
  wpAny_BinOp (h1.use F N fun v h' tk ⟨t, i⟩ F' N' => h2.use F' N' fun v2 m' led' h3 tk3 hp F3 N3 => by
    obtain ⟨y, ⟨t2, i2⟩, hq⟩ := h v2 m' led' hp
    subst i; subst i2
    exact add_int (.mk (hq _) F3 N3))
/-- the order as it grows -/
inductive OJ (W lW Oa : Addr) (many : Nat) (led0 : Led) (h i : Nat) (m : Map) (led : Led) : Prop
  | mk (ord : List Nat) (vs : List Value) (n : Nat) (hO : (Oa, listOf vs.toArray n) ∈ led) (hi : IntsAre vs (natZ (h :: ord))) (nd : (h :: ord).Nodup) (lt : ∀ x ∈ ord, x < i) (lm : ∀ x ∈ h :: ord, x < many) (len : ord.length ≤ i)
    (hW : WellAt led W lW) (hK : Keep W led0 led) (m1 : m (Str.ofString "well") = some (.ref W)) (m2 : m (Str.ofString "order") = some (.ref Oa)) : OJ W lW Oa many led0 h i m led
theorem order_fn (w : World) {W lW : Addr} {many : Nat} {tm : Tok} {led : Led} (hW : WellAt led W lW) (h0 : 0 < many) (hmany : many ≤ 100) :
    Fn w 174 [.ref W, .int (many : Nat) tm] led 2 (fun led' v => ∃ Oa vs n ord, v = .ref Oa ∧ (Oa, listOf vs.toArray n) ∈ led' ∧ IntsAre vs (natZ ord) ∧ OrdOk many ord ∧ WellAt led' W lW ∧ Keep W led led' ∧ ∀ p ∈ led, p.1 ≠ Oa) := by
  have e0 : Challenge.rw_sa0304_01 = Challenge.rw_sa0304_01 ∧ KH = KH := ⟨rfl, rfl⟩
  revert e0; k_fill; intro _
  k_dflt (refine' Fn.enter (binds := [(Str.ofString "well", .ref W), (Str.ofString "many", .int (many : Nat) tm)]) ?ho ?hcd ?hb ?hl ?c2 ?c3 ?c4 ?c5 ?_; (case ho => k_is); (case hcd => k_is); (case hb => exact fun s => BindsTo.of_eq rfl); (case hl => exact locs rfl); (case c2 => exact rfl); (case c3 => exact rfl); (case c4 => exact rfl); (case c5 => decide))
  intro c hw O he l1
  subst hw
  generalize hm0 : (fun y => List.lookup y [((Str.ofString "well"), Value.ref W), ((Str.ofString "many"), Value.int (many : Nat) tm)].reverse) = m0
  have q1 : m0 (Str.ofString "well") = some (.ref W) := by subst hm0; rfl
  have q2 : m0 (Str.ofString "many") = some (.int (many : Nat) tm) := by subst hm0; rfl
  clear hm0
  have kW : c.env.kindOf (Str.ofString "well") = some .local := by rw [he]; rfl
  have kM : c.env.kindOf (Str.ofString "many") = some .local := by rw [he]; rfl
  have kO : c.env.kindOf (Str.ofString "order") = some .local := by rw [he]; rfl
  have kN : c.env.kindOf (Str.ofString "number") = some .local := by rw [he]; rfl
  have kD : c.env.kindOf (Str.ofString "_law_draw") = some .globalImplicit := by rw [he]; rfl
  have kR : c.env.kindOf (Str.ofString "range") = some .globalImplicit := by rw [he]; rfl
  have kL : c.env.kindOf (Str.ofString "len") = some .globalImplicit := by rw [he]; rfl
  have nW {m led p} (h : m (Str.ofString "well") = some (.ref W)) : Ev c m led (.Name (Str.ofString "well") p) (.ref W) := .loc O kW h rfl
  refine St.setT (P1 := fun v m' led' => m' = m0 ∧ ∃ Oa h t, v = .ref Oa ∧ h < many ∧ (Oa, listOf [Value.int (h : Nat) t].toArray 0) ∈ led' ∧ WellAt led' W lW ∧ Keep W led led' ∧ (∀ p ∈ led, p.1 ≠ W → p.1 ≠ Oa) ∧ W ≠ Oa ∧ lW ≠ Oa) O kO
    (Tr.list (Its.cons (Tr.draw O kD hW (nW q1) (.loc (d := .int (many : Nat)) O kM q2 ⟨tm, rfl⟩) (by omega)) ?_)) ?_
  · rintro v m' led1 ⟨rfl, ⟨r, h1, h2, t, rfl⟩, hW1, hK1⟩
    refine Its.nil ⟨show 1 ≤ 1000 by decide, fun l hl => ⟨rfl, l, r.toNat, t, rfl, by omega, by rw [Int.toNat_of_nonneg h1]; exact .head _, hW1.sub fun p hp => .tail _ hp, hK1.trans (Keep.sub fun p hp => .tail _ hp), fun p hp hn => Nat.ne_of_lt (hl _ (hK1 p hp hn)), ?_, ?_⟩⟩
    · obtain ⟨_, _, _, ⟨o, w1, _⟩, _⟩ := hW1; exact Nat.ne_of_lt (hl _ w1)
    · obtain ⟨_, _, _, _, _, w3, _⟩ := hW1; exact Nat.ne_of_lt (hl _ w3)
  rintro v m' led1 ⟨rfl, Oa, h, t, rfl, hh, hO, hW1, hK1, hne, hWO, hlO⟩
  have g1 : upd m' (Str.ofString "order") (.ref Oa) (Str.ofString "order") = some (.ref Oa) := upd_at
  have g2 : upd m' (Str.ofString "order") (.ref Oa) (Str.ofString "well") = some (.ref W) := upd_ne q1 (by decide)
  have g3 : upd m' (Str.ofString "order") (.ref Oa) (Str.ofString "many") = some (.int (many : Nat) tm) := upd_ne q2 (by decide)
  generalize upd m' (Str.ofString "order") (.ref Oa) = m1 at g1 g2 g3 ⊢
  refine St.forRange O kN (Tr.range O kR (Tr.mono (Ev.loc (d := .int (many : Nat)) O kM g3 ⟨tm, rfl⟩) ?_))
  rintro v m' led' ⟨hv, rfl, rfl⟩
  refine ⟨many, hv, fun r tr ur wr hr => ⟨r, many, tr, ur, wr, OJ W lW Oa many led h, rfl, .head _, by omega, ⟨[], _, 0, .tail _ hO, .cons _ _ .nil, List.nodup_cons.mpr ⟨(fun x => nomatch x), List.nodup_nil⟩, (fun x hx => nomatch hx), (fun x hx => List.mem_singleton.mp hx ▸ hh), Nat.le_refl _, hW1.sub fun p hp => .tail _ hp, hK1.trans (Keep.sub fun p hp => .tail _ hp), g2, g1⟩, ?_, ?_⟩⟩
  · rintro i tv m2 led2 I oI hi ⟨ord, vs, n, jO, ji, jn, jl, jm, jz, jW, jK, j1, j2⟩ ha
    have hWI : W ≠ I := by obtain ⟨_, _, _, ⟨o, w1, _⟩, _⟩ := jW; exact ha _ w1 I (.head _)
    have hlI : lW ≠ I := by obtain ⟨_, _, _, _, _, w3, _⟩ := jW; exact ha _ w3 I (.head _)
    have hOI : Oa ≠ I := ha _ jO I (.head _)
    have hledI : ∀ p ∈ led, p.1 ≠ W → p.1 ≠ I := fun p hp hn => ha p (jK p hp hn) I (.head _)
    have nx : ∀ rest0 P0 m3 led3, OJ W lW Oa many led h (i + 1) m3 led3 → (I, oI) ∈ led3 → TrS c m3 led3 [] (TurnP c rest0 P0 I oI (OJ W lW Oa many led h (i + 1))) := by
      rintro rest0 P0 m3 led3 ⟨ord, vs, n, jO, ji, jn, jl, jm, jz, ⟨ivs, ns, n2, ⟨o, w1, w2⟩, w3, w4, w5⟩, jK, j1, j2⟩ hI
      have kp : ∀ p ∈ led3, p.1 ≠ I → p ∈ led3.filter fun p => p.1 != I := fun p hp hn => List.mem_filter.mpr ⟨hp, by simpa using hn⟩
      refine St.nil ⟨led3.filter fun p => p.1 != I, fun p hp => ?_, fun p hp a hm => ?_, ⟨ord, vs, n, kp _ jO hOI, ji, jn, jl, jm, jz, ⟨ivs, ns, n2, ⟨o, kp _ w1 hWI, w2⟩, w3, kp _ w4 hlI, w5⟩, fun p hp hn => kp p (jK p hp hn) (hledI p hp hn), j1, j2⟩⟩
      · rcases List.mem_cons.mp hp with rfl | hp
        · exact hI
        · exact (List.mem_filter.mp hp).1
      · rw [List.mem_singleton.mp hm]
        simpa using (List.mem_filter.mp hp).2
    have jO' : (Oa, listOf vs.toArray n) ∈ (I, oI) :: led2 := .tail _ jO
    have jW' : WellAt ((I, oI) :: led2) W lW := jW.sub fun p hp => .tail _ hp
    have jK' : Keep W led ((I, oI) :: led2) := jK.trans (Keep.sub fun p hp => .tail _ hp)
    have j1' : upd m2 (Str.ofString "number") (.int (i : Nat) tv) (Str.ofString "well") = some (.ref W) := upd_ne j1 (by decide)
    have j2' : upd m2 (Str.ofString "number") (.int (i : Nat) tv) (Str.ofString "order") = some (.ref Oa) := upd_ne j2 (by decide)
    have j3' : upd m2 (Str.ofString "number") (.int (i : Nat) tv) (Str.ofString "number") = some (.int (i : Nat) tv) := upd_at
    generalize upd m2 (Str.ofString "number") (.int (i : Nat) tv) = m3 at j1' j2' j3' ⊢
    have same : ∀ led3, WellAt led3 W lW → Keep W ((I, oI) :: led2) led3 → OJ W lW Oa many led h (i + 1) m3 led3 ∧ (I, oI) ∈ led3 := fun led3 hW3 hK3 => ⟨⟨ord, vs, n, hK3 _ jO' hWO.symm, ji, jn, fun x hx => Nat.lt_succ_of_lt (jl x hx), jm, Nat.le_succ_of_le jz, hW3, jK'.trans hK3, j1', j2'⟩, hK3 _ (.head _) hWI.symm⟩
    obtain ⟨th, hhead⟩ : ∃ t, vs[0]? = some (.int (h : Nat) t) := by obtain ⟨t, ht⟩ := ji.get 0 (h : Nat) rfl; exact ⟨t, ht⟩
    have hvl : vs.length = ord.length + 1 := by rw [ji.length, List.length_map, List.length_cons]
    refine St.ifT (Tr.and2 (b1 := (i : Int) != (h : Nat)) (.cmp (.loc (d := .int (i : Nat)) O kN j3' ⟨tv, rfl⟩) (.item (d := .int (h : Nat)) (.loc (d := .ref Oa) O kO j2' rfl) .int_ jO' (by decide) (by decide) (show vs[Int.toNat 0]? = _ from hhead) ⟨th, rfl⟩) .neIntD) (fun hb => ?_) fun _ => ⟨(fun x => nomatch x), fun _ => St.nil (nx _ _ _ _ (same _ jW' Keep.refl).1 (.head _))⟩)
    have hih : i ≠ h := fun e => by rw [e] at hb; simp at hb
    refine Tr.cmpB (Tr.mono (Tr.draw O kD jW' (nW j1') .int_ (by decide)) ?_)
    rintro v m4 led3 ⟨rfl, ⟨r, _, _, hr⟩, hW3, hK3⟩
    refine ⟨.int r, .int 0, _, hr, .int_, .gtInt, fun _ => ?_, fun _ => St.nil (nx _ _ _ _ (same _ hW3 hK3).1 (same _ hW3 hK3).2)⟩
    have hO3 := hK3 _ jO' hWO.symm
    refine St.insert (.loc (d := .ref Oa) O kO j2' rfl) ⟨vs, n, hO3⟩ (Its.cons (P1 := fun v m' led' => m' = m4 ∧ ∃ r : Nat, (Dm.int (1 + (r : Nat))).Is v ∧ r < (h :: ord).length ∧ WellAt led' W lW ∧ Keep W led3 led') (Tr.addT .int_ (Tr.draw O kD hW3 (nW j1') (.len O kL (.loc (d := .ref Oa) O kO j2' rfl) hO3 (by omega)) (by omega)) ?_) ?_) (hi := by rw [he]; rfl)
    · rintro v m' led' ⟨e1, ⟨r, r0, r1, hv⟩, hW4, hK4⟩
      exact ⟨r, hv, fun t => ⟨e1, r.toNat, ⟨t, by rw [Int.toNat_of_nonneg r0]⟩, by rw [List.length_cons]; omega, hW4, hK4⟩⟩
    · rintro v m' led4 ⟨rfl, r, ⟨t5, rfl⟩, hrl, ⟨ivs, ns, n2, ⟨o, w1, w2⟩, w3, w4, w5⟩, hK4⟩
      have hO4 := hK4 _ hO3 hWO.symm
      refine Its.ev (.loc (d := .int (i : Nat)) O kN j3' ⟨tv, rfl⟩) fun y ⟨ty, hy⟩ => Its.nil ⟨1 + (r : Nat), t5, y, vs, n, rfl, hO4, by omega, by omega, by rw [List.length_cons] at hrl; omega, ?_⟩
      subst hy
      have hp := insN_perm (h :: ord) r i
      have hii := kl_insN (t := ty) (y := i) ji hrl
      rw [insN_cons] at hp hii
      have mem : ∀ x ∈ ord.take r ++ i :: ord.drop r, x = i ∨ x ∈ ord := fun x hx => by
        rcases List.mem_append.mp hx with hx | hx
        · exact .inr (List.mem_of_mem_take hx)
        · exact (List.mem_cons.mp hx).imp id List.mem_of_mem_drop
      refine St.nil (nx _ _ _ _ ⟨ord.take r ++ i :: ord.drop r, _, n + 1, .head _, hii, hp.nodup_iff.mpr (List.nodup_cons.mpr ⟨fun hx => ?_, jn⟩), fun x hx => ?_, fun x hx => ?_, ?_, ⟨ivs, ns, n2, ⟨o, put_ne w1 hWO, w2⟩, w3, put_ne w4 hlO, w5⟩, fun p hp hn => put_ne (hK4 p (hK3 p (jK' p hp hn) hn) hn) (hne p hp hn), j1', j2'⟩ (put_ne (hK4 _ (same _ hW3 hK3).2 hWI.symm) hOI.symm))
      · rcases List.mem_cons.mp hx with e | hx
        · exact hih e
        · exact absurd (jl i hx) (Nat.lt_irrefl _)
      · rcases mem x hx with rfl | hx
        · exact Nat.lt_succ_self _
        · exact Nat.lt_succ_of_lt (jl x hx)
      · rcases List.mem_cons.mp (hp.mem_iff.mp hx) with rfl | hx
        · exact hi
        · exact jm x hx
      · have := hp.length_eq
        rw [List.length_cons, List.length_cons, List.length_cons] at this
        omega
  · rintro m2 led2 ⟨ord, vs, n, jO, ji, jn, jl, jm, jz, jW, jK, j1, j2⟩
    exact St.ret (Tr.mono (Ev.loc (d := .ref Oa) O kO j2 rfl) fun v m' led' ⟨h1, _, h3⟩ => ⟨Oa, vs, n, h :: ord, h1, h3 ▸ jO, ji, ⟨List.cons_ne_nil _ _, jn, jm⟩, h3 ▸ jW, h3 ▸ jK, fun p hp e => if hn : p.1 = W then hWO (hn.symm.trans e) else hne p hp hn e⟩)
/-- an own dict's entries as a function of the names -/
inductive StrEs : List DictEntry → Prop
  | nil : StrEs []
  | cons {e : DictEntry} {es : List DictEntry} (x : Str) (t : Tok) : e.key = .str x t → StrEs es → StrEs (e :: es)
theorem StrEs.noRef : ∀ {es : List DictEntry}, StrEs es → es.any (·.refKey) = false
  | _, .nil => rfl
  | _, .cons x t h r => by rw [List.any_cons, r.noRef, Bool.or_false]; simp [DictEntry.refKey, h]
theorem StrEs.getL {es : List DictEntry} (h : StrEs es) (y : Str) : getL y es = some ((es.find? (·.key.isStr y)).map (·.val)) := by
  unfold PySem.W.getL
  cases es.find? (·.key.isStr y) with
  | some e => rfl
  | none => rw [h.noRef]; rfl
theorem StrEs.put {es : List DictEntry} (h : StrEs es) (x : Str) (hsh : Int) (t : Tok) (v : Value) : StrEs (putL x hsh (.str x t) v es) ∧ (putL x hsh (.str x t) v es).length ≤ es.length + 1 ∧
    ∀ y, ((putL x hsh (.str x t) v es).find? (·.key.isStr y)).map (·.val) = if y = x then some v else (es.find? (·.key.isStr y)).map (·.val) := by
  induction h with
  | nil =>
    refine ⟨.cons x t rfl .nil, Nat.le_refl _, fun y => ?_⟩
    show ((List.find? _ [_]).map _) = _
    rw [List.find?_cons, PyProof.Rows.KTD.key_is (x := x) (t := t) rfl]
    by_cases hy : y = x <;> simp [hy]
  | @cons e es x' t' hk r ih =>
    unfold putL
    rw [PyProof.Rows.KTD.key_is hk]
    by_cases hx : x = x'
    · subst hx
      rw [if_pos (decide_eq_true rfl)]
      refine ⟨.cons x t' hk r, Nat.le_succ _, fun y => ?_⟩
      rw [List.find?_cons, List.find?_cons, PyProof.Rows.KTD.key_is (e := ⟨e.hash, e.key, v⟩) hk]
      by_cases hy : y = x <;> simp [hy]
    · rw [if_neg (by simpa using hx)]
      refine ⟨.cons x' t' hk ih.1, Nat.succ_le_succ ih.2.1, fun y => ?_⟩
      rw [List.find?_cons, List.find?_cons, PyProof.Rows.KTD.key_is hk]
      by_cases hy : y = x'
      · subst hy
        rw [decide_eq_true rfl, if_neg (fun e => hx e.symm)]
      · rw [decide_eq_false hy]
        exact ih.2.2 y
/-- an own object with its own dict -/
noncomputable def OwnF (C : Addr) (led : Led) (a dx : Addr) (f : Map) (k : Nat) : Prop := ∃ es n, (a, instObj C dx) ∈ led ∧ (dx, dictOf es n) ∈ led ∧ a ≠ dx ∧ StrEs es ∧ es.length ≤ k ∧ ∀ y, (es.find? (·.key.isStr y)).map (·.val) = f y
theorem OwnF.attr {led : Led} {a dx : Addr} {f : Map} {k : Nat} {x : Str} {v : Value} (h : OwnF 59 led a dx f k) (hx : f x = some v) : Attr led a x v := by
  obtain ⟨es, n, h1, h2, _, h3, _, h4⟩ := h
  exact ⟨dx, es, n, h1, h2, by rw [h3.getL, h4, hx]⟩
section
variable {c : Cx} {m : Map} {led : Led} {e e1 : Expr} {pos p2 : Pos} {x : Str} {k kk : Nat} {C a dx : Addr} {f : Map} {P : Flow → Map → Led → Prop} {rest : List Stmt}
/-- what the class lets be stored -/
structure Plain (C : Addr) (x : Str) : Prop where
  s : ∀ P, findIn (KH P) (.ref C) "__setattr__" = some (some (.builtin "object.__setattr__"))
  p : ∀ P, plainOver (KH P) C = true
  t : ∀ P, takerIn (KH P) C x = some none
  d : ∀ P, hasDictIn (KH P) C = true
theorem St.setAttr (O : c.Ok k) (hC : Plain C x) (h : Tr c m led (eval e c.env) fun v m' led' => Ev c m' led' e1 (.ref a) ∧ OwnF C led' a dx f kk ∧ kk ≤ 500 ∧ ∀ led2, (∀ p ∈ led', p.1 ≠ dx → p ∈ led2) → OwnF C led2 a dx (upd f x v) (kk + 1) → TrS c m' led2 rest P)
    (hs : swapsWith e (some (.Attribute e1 x p2)) pos.line c.env = (Pure.pure false : Sem Bool) := by rfl) : TrS c m led (.Assign [.Attribute e1 x p2] e pos :: rest) P :=
  St.one fun s F N => plainObj_wpAny_Assign_Attribute (h.use F N fun v m' led' h' tk ⟨he, ho, hk, hn⟩ F' N' => he.use F' N' fun v2 h2 tk2 i2 F2 N2 => by
    cases i2
    obtain ⟨es, n, h1, h3, hne, h4, h5, h6⟩ := ho
    obtain ⟨q1, q2, q3⟩ := h4.put x (PyData.keyHash c.w.params x) (tk2 + 1) v
    obtain ⟨N3, U, _⟩ := put_upd (o' := dictOf (putL x (PyData.keyHash c.w.params x) (.str x (tk2 + 1)) v es) (putN x es n)) N2 h3
    refine set_dict (s := ⟨h2, s.gens, s.drawn, tk2, s.os⟩) F2 O.X N3 (InstAt.of_news N2 h1 h3) rfl (hC.s _) (hC.p _) (hC.t _) (hC.d _) (by rw [h4.getL]; rfl) rfl U (Nat.le_trans q2 (by omega)) fun h8 F8 N8 => .mk (hn _ (fun p hp hq => put_ne hp hq) ⟨_, _, put_ne h1 hne, .head _, hne, q1, by omega, fun y => ?_⟩) F8 N8
    rw [q3 y, h6 y]
    rfl) hs
/-- the state of an __init__: what stands, and the object -/
structure IJ (C a dx : Addr) (f : Map) (kk : Nat) (led0 led : Led) : Prop where
  own : OwnF C led a dx f kk
  keep : ∀ p ∈ led0, p ∈ led
  ne : ∀ p ∈ led0, p.1 ≠ dx
variable {led0 : Led} {d : Dm}
theorem IJ.step {led led2 : Led} {v : Value} (J : IJ C a dx f kk led0 led) (hs : ∀ p ∈ led, p.1 ≠ dx → p ∈ led2) (ho : OwnF C led2 a dx (upd f x v) (kk + 1)) : IJ C a dx (upd f x v) (kk + 1) led0 led2 := ⟨ho, fun p hp => hs p (J.keep p hp) (J.ne p hp), J.ne⟩
theorem init_ev (O : c.Ok k) (hC : Plain C x) (h1 : ∀ led, Ev c m led e1 (.ref a)) (he : ∀ led, Ev c m led e d) (J : IJ C a dx f kk led0 led) (hk : kk ≤ 500) (hn : ∀ v led2, d.Is v → IJ C a dx (upd f x v) (kk + 1) led0 led2 → TrS c m led2 rest P)
    (hs : swapsWith e (some (.Attribute e1 x p2)) pos.line c.env = (Pure.pure false : Sem Bool) := by rfl) : TrS c m led (.Assign [.Attribute e1 x p2] e pos :: rest) P :=
  St.setAttr (a := a) (dx := dx) (kk := kk) (f := f) O hC (Tr.mono (he led) fun v m' led' ⟨q1, q2, q3⟩ => by
    subst q2; subst q3; exact ⟨h1 _, J.own, hk, fun led2 q4 q5 => hn v led2 q1 (J.step q4 q5)⟩) hs
theorem OwnF.mono {led led2 : Led} (h : OwnF C led a dx f kk) (hs : ∀ p ∈ led, p ∈ led2) : OwnF C led2 a dx f kk := let ⟨es, n, h1, h2, h3⟩ := h; ⟨es, n, hs _ h1, hs _ h2, h3⟩
theorem init_list {pl : Pos} (O : c.Ok k) (hC : Plain C x) (h1 : ∀ led, Ev c m led e1 (.ref a)) (J : IJ C a dx f kk led0 led) (hk : kk ≤ 500) (hn : ∀ l led2, (∀ p ∈ led0, p.1 ≠ l) → IJ C a dx (upd f x (.ref l)) (kk + 1) ((l, listOf [].toArray 0) :: led0) led2 → TrS c m led2 rest P)
    (hs : swapsWith (.List [] pl) (some (.Attribute e1 x p2)) pos.line c.env = (Pure.pure false : Sem Bool) := by rfl) : TrS c m led (.Assign [.Attribute e1 x p2] (.List [] pl) pos :: rest) P :=
  St.setAttr (a := a) (dx := dx) (kk := kk) (f := f) O hC (Tr.list (Its.nil ⟨Nat.zero_le _, fun l hl => ⟨h1 _, J.own.mono fun p hp => .tail _ hp, hk, fun led2 q4 q5 => by
    obtain ⟨es, n, _, o2, _⟩ := J.own
    have hd : l ≠ dx := (Nat.ne_of_lt (hl _ o2)).symm
    refine hn l led2 (fun p hp => Nat.ne_of_lt (hl p (J.keep p hp))) ⟨q5, fun p hp => ?_, fun p hp => ?_⟩
    · rcases List.mem_cons.mp hp with rfl | hp
      · exact q4 _ (.head _) hd
      · exact q4 p (.tail _ (J.keep p hp)) (J.ne p hp)
    · rcases List.mem_cons.mp hp with rfl | hp
      · exact hd
      · exact J.ne p hp⟩⟩)) hs
theorem init_dict {pl : Pos} (O : c.Ok k) (hC : Plain C x) (h1 : ∀ led, Ev c m led e1 (.ref a)) (J : IJ C a dx f kk led0 led) (hk : kk ≤ 500) (hn : ∀ l led2, IJ C a dx (upd f x (.ref l)) (kk + 1) led0 led2 → TrS c m led2 rest P)
    (hs : swapsWith (.Dict [] [] pl) (some (.Attribute e1 x p2)) pos.line c.env = (Pure.pure false : Sem Bool) := by rfl) : TrS c m led (.Assign [.Attribute e1 x p2] (.Dict [] [] pl) pos :: rest) P :=
  St.setAttr (a := a) (dx := dx) (kk := kk) (f := f) O hC (Tr.dict0 O fun l o hl _ _ => ⟨h1 _, J.own.mono fun p hp => .tail _ hp, hk, fun led2 q4 q5 =>
    hn l led2 ⟨q5, fun p hp => q4 p (.tail _ (J.keep p hp)) (J.ne p hp), J.ne⟩⟩) hs
end

section
variable {w : World} {name qual : Str} {params : Arguments} {body : List Stmt} {scope : Scope} {dV kV doc pm cdv ct oc : Value} {an od : Option Addr} {osl : Array (Option Value)} {f : Addr} {vs : List Value} {binds : List (Str × Value)} {led : Led} {k : Nat} {post : Led → Value → Prop}
/-- what a call of the def at f does: its code -/
noncomputable def FnC (w : World) (f : Addr) (vs : List Value) (led : Led) (k : Nat) (post : Led → Value → Prop) : Prop :=
  ∀ (c : Cx) (m : Map) (s : Shared) (R : Result → Shared → Prop), c.w = w → c.Ok k → Fr c.g c.L s.heap m → News c.g c.L s.heap led → (∀ v led' h' tk, post led' v → Fr c.g c.L h' m → News c.g c.L h' led' → R (.ok (.ret v)) { s with heap := h', toks := tk }) →
    codeAny c.M c.A (.call (.ref f) ⟨vs, []⟩) R s
theorem FnC.enter (ho : (KH w.params).lookup f = some ⟨oc, od, .func (fnOf name qual params body scope dV kV doc pm an cdv ct), osl⟩) (hcd : codeIn (KH w.params) cdv qual = true)
    (hbind : ∀ s, BindsTo s (fnOf name qual params body scope dV kV doc pm an cdv ct) ⟨vs, []⟩ binds) (hloc : ∀ y ∈ binds, scope.names.lookup y.1 = some .local)
    (hco : scope.isCoroutine = false) (hgen : scope.isGenerator = false) (hk : scope.kind = .function) (hcell : ∀ x ∈ scope.names, x.2 ≠ .cell)
    (h : ∀ c : Cx, c.w = w → c.Ok k → c.env = envOf qual scope c.L f cdv → (∀ p ∈ led, p.1 < c.L) → TrS c (fun y => binds.reverse.lookup y) led body (FinP post)) : FnC w f vs led (k + 1) post := by
  intro c m s R hw O F N hR
  subst hw
  obtain ⟨p, loose, mean, mg, mb, T⟩ := O.T
  have hr := O.room
  have hu := O.units
  refine Mine.enter F O.X N T ho hcd (show c.dp < recursionLimit by omega) (hbind s) hloc hco hgen hk hcell fun g L' h₁ F' N' X' T' l1 => ?_
  have := h ⟨c.w, c.dp + 1, c.un + 3, (c.A.deeper (envOf qual scope L' f cdv)).frames, (c.A.deeper (envOf qual scope L' f cdv)).guards, g, L', envOf qual scope L' f cdv⟩ rfl
    ⟨X', ⟨_, _, _, _, _, T'⟩, by show c.dp + 1 + k < _; omega, by show c.un + 3 + 10 * k < _; omega, rfl, hk, rfl, rfl⟩ rfl l1
  refine Tr.use (c := ⟨c.w, c.dp + 1, c.un + 3, (c.A.deeper (envOf qual scope L' f cdv)).frames, (c.A.deeper (envOf qual scope L' f cdv)).guards, g, L', envOf qual scope L' f cdv⟩) this F' N' fun fl m' led' h' tk hp F2 N2 => ?_
  refine leaveK_ F2 N2 fun F3 N3 => ?_
  cases fl <;> exact hR _ _ _ _ hp F3 N3
/-- a class's call -/
theorem Tr.make {c : Cx} {m : Map} {C fI : Addr} {P : Value → Map → Led → Prop} (O : c.Ok (k + 1)) (hm : makesIn (KH c.w.params) C = true) (hi : findIn (KH c.w.params) (.ref C) "__init__" = some (some (.ref fI))) (hf : isFn (KH c.w.params) (.ref fI) = true)
    (h : ∀ x dx, (∀ p ∈ led, p.1 < dx) → dx < x → FnC c.w fI (.ref x :: vs) ((x, instObj C dx) :: (dx, dictOf [] 0) :: led) k fun led' v => v = .none ∧ P (.ref x) m led') : Tr c m led (PySem.call (.ref C) vs) P := by
  intro s F N
  refine call_cls F O.X N hm hi hf fun x dx h' F' N' hd hx => ?_
  have hr := O.room
  have hu := O.units
  refine h x dx hd hx ⟨c.w, c.dp + 1, c.un + 1, _, _, c.g, c.L, c.env⟩ m { s with heap := h' } _ rfl ⟨O.X, O.T, by show c.dp + 1 + k < _; omega, by show c.un + 1 + 10 * k < _; omega, O.loc, O.kind, O.glob, O.blt⟩ F' N' fun v led' h2 tk hp F2 N2 => ?_
  exact ⟨hp.1, .mk hp.2 F2 N2⟩
end
noncomputable def names59 : List Str := [(Str.ofString "kind"), (Str.ofString "name"), (Str.ofString "line"), (Str.ofString "unique"), (Str.ofString "key"), (Str.ofString "owner"), (Str.ofString "word"), (Str.ofString "params"), (Str.ofString "results"), (Str.ofString "type"), (Str.ofString "visibility"), (Str.ofString "mutability"), (Str.ofString "is_virtual"), (Str.ofString "is_override"), (Str.ofString "overrides"), (Str.ofString "modifiers"), (Str.ofString "body"), (Str.ofString "value"), (Str.ofString "is_constant"), (Str.ofString "is_immutable"), (Str.ofString "members"), (Str.ofString "bases"), (Str.ofString "linear"), (Str.ofString "base_args"), (Str.ofString "names"), (Str.ofString "usings"), (Str.ofString "selector_text"), (Str.ofString "getter"), (Str.ofString "value_of"), (Str.ofString "syn")]
theorem taker59 (P : Params) : (names59.map fun x => takerIn (KH P) 59 x) = List.replicate 30 (some none) := by kernel_rfl
theorem plain59 {x : Str} (h : names59.contains x = true) : Plain 59 x where
  s := fun P => by kernel_rfl
  p := fun P => by kernel_rfl
  t := fun P => List.eq_of_mem_replicate (taker59 P ▸ List.mem_map_of_mem (f := fun x => takerIn (KH P) 59 x) (List.contains_iff_mem.mp h))
  d := attr_dict
/-- what a fresh declaration's own dict holds -/
structure FreshF (f : Map) (K N : Str) (lm ll : Addr) : Prop where
  kind : ∃ v, f (Str.ofString "kind") = some v ∧ (Dm.str K).Is v
  name : ∃ v, f (Str.ofString "name") = some v ∧ (Dm.str N).Is v
  owner : f (Str.ofString "owner") = some .none
  body : f (Str.ofString "body") = some .none
  members : f (Str.ofString "members") = some (.ref lm)
  linear : f (Str.ofString "linear") = some (.ref ll)
theorem init_fn (w : World) {a dx : Addr} {K N : Str} {ln : Int} {tk tn tl : Tok} {led0 : Led} (hne : a ≠ dx) (hd : ∀ p ∈ led0, p.1 ≠ dx) :
    FnC w 56 [.ref a, .str K tk, .str N tn, .int ln tl] ((a, instObj 59 dx) :: (dx, dictOf [] 0) :: led0) 1 (fun led' v => v = .none ∧ ∃ f lm ll, OwnF 59 led' a dx f 30 ∧ FreshF f K N lm ll ∧ (lm, listOf [].toArray 0) ∈ led' ∧ (ll, listOf [].toArray 0) ∈ led' ∧ lm ≠ ll ∧ lm ≠ dx ∧ ll ≠ dx ∧ (∀ p ∈ (a, instObj 59 dx) :: led0, p ∈ led' ∧ p.1 ≠ lm ∧ p.1 ≠ ll)) := by
  have e0 : Challenge.rw_sa0304_01 = Challenge.rw_sa0304_01 ∧ KH = KH := ⟨rfl, rfl⟩
  revert e0; k_fill; intro _
  k_dflt (refine' FnC.enter (binds := [(Str.ofString "self", .ref a), (Str.ofString "kind", .str K tk), (Str.ofString "name", .str N tn), (Str.ofString "line", .int ln tl)]) ?ho ?hcd ?hb ?hl ?c2 ?c3 ?c4 ?c5 ?_; (case ho => k_is); (case hcd => k_is); (case hb => exact fun s => BindsTo.of_eq rfl); (case hl => exact locs rfl); (case c2 => exact rfl); (case c3 => exact rfl); (case c4 => exact rfl); (case c5 => decide))
  intro c hw O he l1
  generalize hm0 : (fun y => List.lookup y [((Str.ofString "self"), Value.ref a), ((Str.ofString "kind"), Value.str K tk), ((Str.ofString "name"), Value.str N tn), ((Str.ofString "line"), Value.int ln tl)].reverse) = m0
  have q0 : m0 (Str.ofString "self") = some (.ref a) := by subst hm0; rfl
  have q1 : m0 (Str.ofString "kind") = some (.str K tk) := by subst hm0; rfl
  have q2 : m0 (Str.ofString "name") = some (.str N tn) := by subst hm0; rfl
  have q3 : m0 (Str.ofString "line") = some (.int ln tl) := by subst hm0; rfl
  clear hm0
  have k0 : c.env.kindOf (Str.ofString "self") = some .local := by rw [he]; rfl
  have k1 : c.env.kindOf (Str.ofString "kind") = some .local := by rw [he]; rfl
  have k2 : c.env.kindOf (Str.ofString "name") = some .local := by rw [he]; rfl
  have k3 : c.env.kindOf (Str.ofString "line") = some .local := by rw [he]; rfl
  have nS {p} : ∀ led, Ev c m0 led (.Name (Str.ofString "self") p) (.ref a) := fun led => .loc O k0 q0 rfl
  have J : IJ 59 a dx (fun _ => none) 0 ((a, instObj 59 dx) :: led0) ((a, instObj 59 dx) :: (dx, dictOf [] 0) :: led0) := ⟨⟨[], 0, .head _, .tail _ (.head _), hne, .nil, Nat.le_refl _, fun _ => rfl⟩, fun p hp => by
    rcases List.mem_cons.mp hp with rfl | hp
    · exact .head _
    · exact .tail _ (.tail _ hp), fun p hp => by
    rcases List.mem_cons.mp hp with rfl | hp
    · exact hne
    · exact hd p hp⟩
  refine init_ev O (plain59 (by decide +kernel)) nS (fun _ => .loc (d := .str K) O k1 q1 ⟨tk, rfl⟩) J (by decide) fun u0 led0 h0 J => ?_
  refine init_ev O (plain59 (by decide +kernel)) nS (fun _ => .loc (d := .str N) O k2 q2 ⟨tn, rfl⟩) J (by decide) fun u1 led1 h1 J => ?_
  refine init_ev O (plain59 (by decide +kernel)) nS (fun _ => .loc (d := .int ln) O k3 q3 ⟨tl, rfl⟩) J (by decide) fun u2 led2 h2 J => ?_
  refine init_ev O (plain59 (by decide +kernel)) nS (fun _ => .loc (d := .str N) O k2 q2 ⟨tn, rfl⟩) J (by decide) fun u3 led3 h3 J => ?_
  refine init_ev O (plain59 (by decide +kernel)) nS (fun _ => .loc (d := .str N) O k2 q2 ⟨tn, rfl⟩) J (by decide) fun u4 led4 h4 J => ?_
  refine init_ev O (plain59 (by decide +kernel)) nS (fun _ => .none_) J (by decide) fun u5 led5 h5 J => ?_
  refine init_ev O (plain59 (by decide +kernel)) nS (fun _ => .str_) J (by decide) fun u6 led6 h6 J => ?_
  refine init_list O (plain59 (by decide +kernel)) nS J (by decide) fun u7 led7 g7 J => ?_
  refine init_list O (plain59 (by decide +kernel)) nS J (by decide) fun u8 led8 g8 J => ?_
  refine init_ev O (plain59 (by decide +kernel)) nS (fun _ => .none_) J (by decide) fun u9 led9 h9 J => ?_
  refine init_ev O (plain59 (by decide +kernel)) nS (fun _ => .str_) J (by decide) fun u10 led10 h10 J => ?_
  refine init_ev O (plain59 (by decide +kernel)) nS (fun _ => .str_) J (by decide) fun u11 led11 h11 J => ?_
  refine init_ev O (plain59 (by decide +kernel)) nS (fun _ => .true_) J (by decide) fun u12 led12 h12 J => ?_
  refine init_ev O (plain59 (by decide +kernel)) nS (fun _ => .true_) J (by decide) fun u13 led13 h13 J => ?_
  refine init_list O (plain59 (by decide +kernel)) nS J (by decide) fun u14 led14 g14 J => ?_
  refine init_list O (plain59 (by decide +kernel)) nS J (by decide) fun u15 led15 g15 J => ?_
  refine init_ev O (plain59 (by decide +kernel)) nS (fun _ => .none_) J (by decide) fun u16 led16 h16 J => ?_
  refine init_ev O (plain59 (by decide +kernel)) nS (fun _ => .none_) J (by decide) fun u17 led17 h17 J => ?_
  refine init_ev O (plain59 (by decide +kernel)) nS (fun _ => .true_) J (by decide) fun u18 led18 h18 J => ?_
  refine init_ev O (plain59 (by decide +kernel)) nS (fun _ => .true_) J (by decide) fun u19 led19 h19 J => ?_
  refine init_list O (plain59 (by decide +kernel)) nS J (by decide) fun u20 led20 g20 J => ?_
  refine init_list O (plain59 (by decide +kernel)) nS J (by decide) fun u21 led21 g21 J => ?_
  refine init_list O (plain59 (by decide +kernel)) nS J (by decide) fun u22 led22 g22 J => ?_
  refine init_dict O (plain59 (by decide +kernel)) nS J (by decide) fun u23 led23 J => ?_
  refine init_list O (plain59 (by decide +kernel)) nS J (by decide) fun u24 led24 g24 J => ?_
  refine init_list O (plain59 (by decide +kernel)) nS J (by decide) fun u25 led25 g25 J => ?_
  refine init_ev O (plain59 (by decide +kernel)) nS (fun _ => .str_) J (by decide) fun u26 led26 h26 J => ?_
  refine init_ev O (plain59 (by decide +kernel)) nS (fun _ => .none_) J (by decide) fun u27 led27 h27 J => ?_
  refine init_ev O (plain59 (by decide +kernel)) nS (fun _ => .none_) J (by decide) fun u28 led28 h28 J => ?_
  refine init_ev O (plain59 (by decide +kernel)) nS (fun _ => .none_) J (by decide) fun u29 led29 h29 J => ?_
  cases h5; cases h16
  refine St.nil ⟨rfl, _, u20, u22, J.own, ⟨⟨u0, rfl, h0⟩, ⟨u1, rfl, h1⟩, rfl, rfl, rfl, rfl⟩, J.keep _ (.tail _ (.tail _ (.tail _ (.tail _ (.head _))))), J.keep _ (.tail _ (.tail _ (.head _))), g22 _ (.tail _ (.head _)), J.ne _ (.tail _ (.tail _ (.tail _ (.tail _ (.head _))))), J.ne _ (.tail _ (.tail _ (.head _))), fun p hp => ⟨J.keep _ (.tail _ (.tail _ (.tail _ (.tail _ (.tail _ (.tail _ (.tail _ (.tail _ (.tail _ (hp)))))))))), g20 _ (.tail _ (.tail _ (.tail _ (.tail _ (hp))))), g22 _ (.tail _ (.tail _ (.tail _ (.tail _ (.tail _ (.tail _ (hp)))))))⟩⟩

theorem makes59 (P : Params) : makesIn (KH P) 59 = true := by kernel_rfl
theorem init59 (P : Params) : findIn (KH P) (.ref 59) "__init__" = some (some (.ref 56)) := by kernel_rfl
theorem isFn56 (P : Params) : isFn (KH P) (.ref 56) = true := by kernel_rfl
theorem keep59 (P : Params) : keepIn (KH P) (.ref 59) = true := by kernel_rfl
theorem glob59 (P : Params) : nsIn (KH P) mainGlobals (Str.ofString "Decl") = some (some (.ref 59)) := by kernel_rfl
/-- a fresh declaration -/
structure FreshD (led led' : Led) (a dx lm ll : Addr) (f : Map) (K N : Str) : Prop where
  own : OwnF 59 led' a dx f 30
  fresh : FreshF f K N lm ll
  mem : (lm, listOf [].toArray 0) ∈ led'
  lin : (ll, listOf [].toArray 0) ∈ led'
  ne : lm ≠ ll ∧ lm ≠ dx ∧ ll ≠ dx ∧ lm ≠ a ∧ ll ≠ a ∧ a ≠ dx
  old : ∀ p ∈ led, p ∈ led' ∧ p.1 ≠ lm ∧ p.1 ≠ ll ∧ p.1 ≠ a ∧ p.1 ≠ dx
theorem Tr.newDecl {c : Cx} {m : Map} {led : Led} {k : Nat} {K N : Str} {ln : Int} {tk tn tl : Tok} (O : c.Ok (k + 2)) : Tr c m led (PySem.call (.ref 59) [.str K tk, .str N tn, .int ln tl]) fun v m' led' => m' = m ∧ ∃ a dx lm ll f, v = .ref a ∧ FreshD led led' a dx lm ll f K N :=
  Tr.make (k := 1) (O.less (by omega)) (makes59 _) (init59 _) (isFn56 _) fun x dx hd hx => fun c' m' s R hw O' F N hR => init_fn c.w (Nat.ne_of_gt hx) (fun p hp => Nat.ne_of_lt (hd p hp)) c' m' s R hw O' F N fun v led' h' tk ⟨h1, f, lm, ll, h2, h3, h4, h5, h6, h7, h8, h9⟩ F' N' => hR v led' h' tk
    ⟨h1, rfl, x, dx, lm, ll, f, rfl, h2, h3, h4, h5, ⟨h6, h7, h8, (h9 _ (.head _)).2.1.symm, (h9 _ (.head _)).2.2.symm, Nat.ne_of_gt hx⟩, fun p hp => ⟨(h9 p (.tail _ hp)).1, (h9 p (.tail _ hp)).2.1, (h9 p (.tail _ hp)).2.2, Nat.ne_of_lt (Nat.lt_trans (hd p hp) hx), Nat.ne_of_lt (hd p hp)⟩⟩ F' N'
section
variable {prog : Program} {w : World} {A : Around} {E : Value → Shared → Prop} {s : Shared}
theorem sort_small {a : Addr} {vs : List Value} {n : Nat} {P : PySem.Fin → Shared → Prop} (ho : s.heap.get? a = some (seqObj "list" vs.toArray n)) (hz : vs.length < 2)
    (h : P (.done (.ret .none)) { s with heap := sortedHeap s.heap a vs vs.toArray }) : wpAny (model prog w) A (Builtin.«list.sort» ⟨[.ref a], []⟩) P E s := by
  rw [list_sort_plain]
  have ha : a < s.heap.objs.size := Heap.lt_size ho
  have hsz : vs.toArray.size < 2 := by rw [List.size_toArray]; exact hz
  have hle : vs.toArray.size ≤ sizeLine := by rw [sizeLine_eq]; omega
  refine wpAny_bind (listItems_at ho rfl ?_)
  refine wpAny_bind (listUpdate_at ho rfl ?_ hle (Nat.zero_le _))
  obtain ⟨e1, ho1⟩ : ∃ e1, (s.heap.update a (Obj.mapSeq fun _ => #[])).get? a = some (seqObj "list" #[] e1) := ⟨_, get?_update_seq ho (fun _ => #[])⟩
  refine wpAny_bind (seqEpoch_at ho1 rfl ?_)
  refine wpAny_bind (wpAny_newTuple ?_ (by show vs.length ≤ _; rw [sizeLine_eq]; omega))
  refine wpAny_bind (wpAny_newList ?_ (Nat.zero_le _))
  refine wpAny_holding ?_
  have ho6 : (((s.heap.update a (Obj.mapSeq fun _ => #[])).push (seqObj "tuple" vs.toArray 0)).push (seqObj "list" #[] 0)).get? a = some (seqObj "list" #[] e1) := by
    rw [Heap.get?_push_ne _ _ _ (by rw [size_push', Heap.size_update]; exact Nat.ne_of_lt (Nat.lt_succ_of_lt ha)), Heap.get?_push_ne _ _ _ (by rw [Heap.size_update]; exact Nat.ne_of_lt ha)]
    exact ho1
  show wpAny (model prog w) A _ P E { s with heap := ((s.heap.update a (Obj.mapSeq fun _ => #[])).push (seqObj "tuple" vs.toArray 0)).push (seqObj "list" #[] 0) }
  dsimp only
  have e : (arrOf (SortSt.mk' general' (vs.toArray.zip vs.toArray) #[] 7 none)).map (·.2) = vs.toArray := by
    show (vs.toArray.zip vs.toArray).map (·.2) = vs.toArray
    apply Array.toList_inj.mp
    rw [Array.toList_map, Array.toList_zip]
    exact List.map_snd_zip (Nat.le_refl _)
  rw [if_pos hsz, if_pos hsz]
  refine wpAny_bind (wpAny_pure ?_)
  rw [StateT.run_pure]
  refine wpAny_bind (wpAny_pure ?_)
  dsimp only
  rw [e]
  refine wpAny_bind (seqEpoch_at ho6 rfl ?_)
  refine wpAny_bind (listUpdate_at ho6 rfl ?_ (Nat.zero_le _) (by rw [sizeLine_eq]; omega))
  simp only [bne_self_eq_false, Bool.false_eq_true, if_false]
  exact wpAny_pure h
theorem sorted_small {g : Heap} {L l : Addr} {m : Map} {led : Led} {vs : List Value} {Q : Value → Shared → Prop} (F : Fr g L s.heap m) (N : News g L s.heap led) (hl : s.heap.IsList l vs.toArray) (hz : vs.length < 2)
    (h : ∀ h' D e, Fr g L h' m → News g L h' ((D, listOf vs.toArray e) :: led) → (∀ p ∈ led, p.1 < D) → Q (.ref D) { s with heap := h' }) : wpAny (model prog w) A (call (.builtin "sorted") [.ref l]) Q E s := by
  have hle : vs.length ≤ sizeLine := by rw [sizeLine_eq]; omega
  refine Calls.call_function_entry kind_sorted plain_sorted entry_sorted (args_sorted1 _) ?_
  unfold Builtin.«sorted»
  refine wpAny_bind (m := checkCount "sorted" 1 1 _) (wpAny_pure ?_)
  refine wpAny_bind (collect_list hl ?_ hle)
  refine wpAny_bind (wpAny_newList ?_ hle)
  have hsz : ((s.heap.push (seqObj "list" #[] 0)).update s.heap.objs.size (Obj.mapSeq (· ++ vs.toArray))).objs.size = s.heap.objs.size + 1 := by
    rw [Heap.size_update, size_push']
  have hoL : (((s.heap.push (seqObj "list" #[] 0)).update s.heap.objs.size (Obj.mapSeq (· ++ vs.toArray))).push (seqObj "list" vs.toArray 0)).get? (s.heap.objs.size + 1) = some (seqObj "list" vs.toArray 0) := by
    rw [← hsz]; exact Heap.get?_push_size _ rfl
  show wpAny _ _ _ _ _ { s with heap := ((s.heap.push (seqObj "list" #[] 0)).update s.heap.objs.size (Obj.mapSeq (· ++ vs.toArray))).push (seqObj "list" vs.toArray 0) }
  rw [hsz]
  obtain ⟨e, he⟩ := sortedAll_at s.heap vs vs.toArray
  refine wpAny_bind (wpAny_holding (wpAny_call_entry slot_list_sort ⟨_, hoL, rfl⟩ entry_list_sort (sort_small hoL hz ⟨_, rfl, ?_⟩) (args_list_sort _)))
  exact wpAny_pure ⟨_, rfl, h _ _ e (F.kept fun _ _ => sortedAll_old) (N.kept_cons F (fun _ _ => sortedAll_old) (Nat.le_succ _) he) fun p hp => Nat.lt_succ_of_lt (Heap.lt_size (N p hp).1)⟩
theorem ask_pairs {g : Heap} {L : Addr} {led : Led} {as : List Addr} {ps : List (Int × Int)} {i j : Nat} {p q : Int × Int} {C : Bool → Shared → Prop} (N : News g L s.heap led) (hp : PairsAt led as ps) (hi : ps[i]? = some p) (hj : ps[j]? = some q)
    (h : C (lexB p.1 p.2 q.1 q.2) s) : kas_ask prog w A (tuples' true) (refsOf as) i j C s := by
  have gd : ∀ {i p}, ps[i]? = some p → ∃ a u v, (refsOf as).getD i Value.none = .ref a ∧ (a, tupOf [.int p.1 u, .int p.2 v]) ∈ led := fun {i p} hi => by
    have hl := (List.getElem?_eq_some_iff.mp hi).1
    rw [← hp.1] at hl
    have ha := List.getElem?_eq_getElem hl
    obtain ⟨u, v, hm⟩ := hp.2 i _ p ha hi
    refine ⟨as[i], u, v, ?_, hm⟩
    rw [List.getD_eq_getElem?_getD, refsOf_get, ha]
    rfl
  obtain ⟨a, u1, v1, e1, m1⟩ := gd hi
  obtain ⟨b, u2, v2, e2, m2⟩ := gd hj
  unfold kas_ask
  rw [e1, e2]
  unfold lexB at h
  refine kat_lt (N _ m1).1 rfl (N _ m2).1 rfl (kat_cons (eqb_int (kat_go (fun e => ?_) fun e => ?_)))
  · rw [e] at h
    refine kat_yes (kat_cons (eqb_int (kat_go (fun e2 => ?_) fun e2 => ?_)))
    · rw [e2] at h
      exact kat_yes (kat_nil h)
    · rw [e2] at h
      refine kat_no (kat_one _ _ (lt_int h))
  · rw [e] at h
    exact kat_no (oneLt_int h)
end
noncomputable def evalT {α : Type} (lt : Nat → Nat → Bool) : KasT α → α
  | .ret a => a
  | .ask i j k => evalT lt (k (lt i j))
noncomputable def okT {α : Type} (n : Nat) : KasT α → Bool
  | .ret _ => true
  | .ask i j k => ((Nat.blt i n && Nat.blt j n) && !(Nat.beq i j)) && (okT n (k true) && okT n (k false))
theorem okT_ask {α : Type} {n i j : Nat} {k : Bool → KasT α} (h : okT n (.ask i j k) = true) : i < n ∧ j < n ∧ i ≠ j ∧ ∀ b, okT n (k b) = true := by
  unfold okT at h
  simp only [Bool.and_eq_true, Bool.not_eq_true'] at h
  obtain ⟨⟨⟨h1, h2⟩, h3⟩, h4, h5⟩ := h
  exact ⟨Nat.blt_eq.mp h1, Nat.blt_eq.mp h2, Nat.ne_of_beq_eq_false h3, fun b => by cases b <;> assumption⟩
theorem evalT_congr {α : Type} {n : Nat} {lt lt' : Nat → Nat → Bool} (h : ∀ i j, i < n → j < n → i ≠ j → lt i j = lt' i j) : ∀ t : KasT α, okT n t = true → evalT lt t = evalT lt' t
  | .ret _, _ => rfl
  | .ask i j k, hk => by
    obtain ⟨h1, h2, h3, h4⟩ := okT_ask hk
    show evalT lt (k (lt i j)) = evalT lt' (k (lt' i j))
    rw [h i j h1 h2 h3]
    exact evalT_congr h _ (h4 _)
theorem run_T {α : Type} {n : Nat} {lt : Nat → Nat → Bool} {cmp : Nat → Nat → (Bool → Shared → Prop) → Shared → Prop} {Q : α → Shared → Prop} {s : Shared} (hc : ∀ i j C, i < n → j < n → C (lt i j) s → cmp i j C s) : ∀ t : KasT α, okT n t = true → Q (evalT lt t) s → t.kasWp cmp Q s
  | .ret _, _, h => h
  | .ask i j k, hk, h => by
    obtain ⟨h1, h2, h3, h4⟩ := okT_ask hk
    exact hc i j _ h1 h2 (run_T hc _ (h4 _) h)
noncomputable def tab (a b c d e f : Bool) (i j : Nat) : Bool :=
  bif Nat.beq i 0 then (bif Nat.beq j 1 then a else e) else bif Nat.beq i 1 then (bif Nat.beq j 0 then b else c) else (bif Nat.beq j 1 then d else f)
noncomputable def perms : Nat → List (List Nat)
  | 2 => [[0, 1], [1, 0]]
  | _ => [[0, 1, 2], [0, 2, 1], [1, 0, 2], [1, 2, 0], [2, 0, 1], [2, 1, 0]]
noncomputable def inRow (lt : Nat → Nat → Bool) : List Nat → Bool
  | [] => true
  | x :: r => r.all (fun y => !lt y x) && inRow lt r
noncomputable def chk (n : Nat) (lt : Nat → Nat → Bool) : Bool := (perms n).any fun q => (evalT lt (kas_sort n)).toList == q && inRow lt q
theorem ok2 : okT 2 (kas_sort 2) = true := by decide +kernel
theorem ok3 : okT 3 (kas_sort 3) = true := by decide +kernel
theorem chk2 : ∀ a b c d e f : Bool, (a && b) = false → chk 2 (tab a b c d e f) = true := by decide +kernel
theorem chk3 : ∀ a b c d e f : Bool, (bif ((!(a && b) && !(c && d)) && (!(e && f) && (a || c || !e))) && (((e || d || !a) && (b || e || !c)) && (((c || f || !b) && (f || a || !d)) && (d || b || !f))) then chk 3 (tab a b c d e f) else true) = true := by decide +kernel
theorem perm_all : ∀ n ∈ [2, 3], ∀ q ∈ perms n, q.Perm (List.range n) := by decide +kernel
theorem chk_out {n : Nat} {lt : Nat → Nat → Bool} (hn : n = 2 ∨ n = 3) (ho : okT n (kas_sort n) = true) (h : chk n (tab (lt 0 1) (lt 1 0) (lt 1 2) (lt 2 1) (lt 0 2) (lt 2 0)) = true) :
    ∃ q : List Nat, q.Perm (List.range n) ∧ (evalT lt (kas_sort n)).toList = q ∧ inRow lt q = true := by
  obtain ⟨q, hq, h⟩ := List.any_eq_true.mp h
  rw [Bool.and_eq_true, beq_iff_eq] at h
  have e : ∀ i j, i < n → j < n → i ≠ j → lt i j = tab (lt 0 1) (lt 1 0) (lt 1 2) (lt 2 1) (lt 0 2) (lt 2 0) i j := fun i j hi hj hij => by
    have hi3 : i < 3 := by omega
    have hj3 : j < 3 := by omega
    match i, j, hi3, hj3, hij with
    | 0, 0, _, _, h => exact absurd rfl h
    | 0, 1, _, _, _ => rfl
    | 0, 2, _, _, _ => rfl
    | 1, 0, _, _, _ => rfl
    | 1, 1, _, _, h => exact absurd rfl h
    | 1, 2, _, _, _ => rfl
    | 2, 0, _, _, _ => rfl
    | 2, 1, _, _, _ => rfl
    | 2, 2, _, _, h => exact absurd rfl h
  refine ⟨q, perm_all n (by rcases hn with rfl | rfl <;> decide) q hq, by rw [evalT_congr e _ ho]; exact h.1, ?_⟩
  rw [← h.2]
  rcases hn with rfl | rfl
  · have : q = [0, 1] ∨ q = [1, 0] := by simpa [perms] using hq
    rcases this with rfl | rfl <;> rfl
  · have : q = [0, 1, 2] ∨ q = [0, 2, 1] ∨ q = [1, 0, 2] ∨ q = [1, 2, 0] ∨ q = [2, 0, 1] ∨ q = [2, 1, 0] := by simpa [perms] using hq
    rcases this with rfl | rfl | rfl | rfl | rfl | rfl <;> rfl
theorem inRow_map {lt : Nat → Nat → Bool} {f : Nat → Int × Int} (h : ∀ i j, lt i j = lexB (f i).1 (f i).2 (f j).1 (f j).2) : ∀ q : List Nat, inRow lt q = true → (q.map f).Pairwise fun a b => lexB b.1 b.2 a.1 a.2 = false
  | [], _ => .nil
  | x :: r, hq => by
    have hq' : (r.all (fun y => !lt y x) && inRow lt r) = true := hq
    rw [Bool.and_eq_true, List.all_eq_true] at hq'
    rw [List.map_cons, List.pairwise_cons]
    refine ⟨fun b hb => ?_, inRow_map h r hq'.2⟩
    obtain ⟨y, hy, rfl⟩ := List.mem_map.mp hb
    have := hq'.1 y hy
    rw [Bool.not_eq_true', h] at this
    exact this
theorem lex_asym {a b c d : Int} : (lexB a b c d && lexB c d a b) = false := by
  rw [Bool.eq_false_iff, ne_eq, Bool.and_eq_true, lexB_iff, lexB_iff]
  omega
theorem lex_neg {a b c d e f : Int} : (lexB a b c d || lexB c d e f || !lexB a b e f) = true := by
  rw [Bool.or_eq_true, Bool.or_eq_true, Bool.not_eq_true', Bool.eq_false_iff, ne_eq, lexB_iff, lexB_iff, lexB_iff]
  omega

/-- sorted(..) of at most three pairs -/
theorem Tr.sortPairs {c : Cx} {m : Map} {led : Led} {D : Addr} {as : List Addr} {ps : List (Int × Int)} {n k : Nat} (O : c.Ok k) (hD : (D, listOf (refsOf as).toArray n) ∈ led) (hp : PairsAt led as ps) (hz : as.length ≤ 3) :
    Tr c m led (PySem.call (.builtin "sorted") [.ref D]) fun v m' led' => m' = m ∧ ∃ D' as' ps' n', v = .ref D' ∧ led' = (D', listOf (refsOf as').toArray n') :: led ∧ (∀ p ∈ led, p.1 < D') ∧ PairsAt led as' ps' ∧ ps'.Perm ps ∧ ps'.Pairwise fun a b => lexB b.1 b.2 a.1 a.2 = false := by
  intro s F N
  have hl : s.heap.IsList D (refsOf as).toArray := ⟨_, (N _ hD).1, rfl, n, rfl⟩
  have hlen : (refsOf as).length = ps.length := by rw [refsOf_len, hp.1]
  rcases Nat.lt_or_ge as.length 2 with h2 | h2
  · refine sorted_small F N hl (by rw [refsOf_len]; exact h2) fun h' D' e F' N' hD' => .mk ⟨rfl, D', as, ps, e, rfl, rfl, hD', hp, .refl _, ?_⟩ F' N'
    have := hp.1
    match ps, (show ps.length < 2 by omega) with
    | [], _ => exact .nil
    | [_], _ => exact List.pairwise_singleton _ _
    | _ :: _ :: _, h => exact absurd h (by simp)
  refine kat_sorted F N hl (by rw [refsOf_len]; exact h2) (by rw [refsOf_len]; omega) fun D' e1 h' F' N' hD' => ?_
  obtain ⟨fs, hfs, hfl, hfi⟩ : ∃ fs, KatTups h' (refsOf as) fs ∧ fs.length = as.length ∧ ∀ v ∈ fs, ∃ x t, v = Value.int x t := by
    have gen : ∀ (as : List Addr) (ps : List (Int × Int)), PairsAt led as ps → ∃ fs, KatTups h' (refsOf as) fs ∧ fs.length = as.length ∧ ∀ v ∈ fs, ∃ x t, v = Value.int x t := by
      intro as
      induction as with
      | nil => exact fun _ _ => ⟨[], .nil, rfl, fun _ h => nomatch h⟩
      | cons a as ih =>
        intro ps hp
        match ps, hp with
        | [], hp => exact absurd hp.1 (by simp)
        | p :: ps, hp =>
          obtain ⟨u, v, hm⟩ := hp.2 0 a p rfl rfl
          obtain ⟨fs, h1, h2, h3⟩ := ih ps ⟨Nat.succ.inj hp.1, fun i b q hb hq => hp.2 (i + 1) b q hb hq⟩
          refine ⟨.int p.1 u :: fs, .cons (N' _ (.tail _ hm)).1 rfl rfl rfl h1, by rw [List.length_cons, h2, List.length_cons], fun x hx => ?_⟩
          rcases List.mem_cons.mp hx with rfl | hx
          · exact ⟨_, _, rfl⟩
          · exact h3 x hx
    exact gen as ps hp
  refine kat_kind (T := .type "int") hfs (by omega) (fun v hv => ?_) rfl ?_
  · obtain ⟨x, t, rfl⟩ := hfi v hv
    exact Looks.of_pure rfl
  generalize hlt : (fun i j => lexB (ps.getD i (0, 0)).1 (ps.getD i (0, 0)).2 (ps.getD j (0, 0)).1 (ps.getD j (0, 0)).2) = lt
  have hlt' : ∀ i j, lt i j = lexB (ps.getD i (0, 0)).1 (ps.getD i (0, 0)).2 (ps.getD j (0, 0)).1 (ps.getD j (0, 0)).2 := fun i j => by subst hlt; rfl
  have hask : ∀ i j C, i < (refsOf as).length → j < (refsOf as).length → C (lt i j) { s with heap := h' } → kas_ask Challenge.rw_sa0304_01.row.prog c.w c.A.in1.in1 (tuples' true) (refsOf as) i j C { s with heap := h' } := fun i j C hi hj hC => by
    rw [hlen] at hi hj
    have gd : ∀ i (hi : i < ps.length), ps.getD i (0, 0) = ps[i] := fun i hi => by rw [List.getD_eq_getElem?_getD, List.getElem?_eq_getElem hi]; rfl
    rw [hlt', gd i hi, gd j hj] at hC
    exact ask_pairs (fun p hp => N' p (.tail _ hp)) hp (List.getElem?_eq_getElem hi) (List.getElem?_eq_getElem hj) hC
  have hok : okT (refsOf as).length (kas_sort (refsOf as).length) = true := by
    rw [refsOf_len]
    rcases (show as.length = 2 ∨ as.length = 3 by omega) with e | e <;> rw [e]
    · exact ok2
    · exact ok3
  refine run_T hask _ hok ?_
  have asym : ∀ i j, (lt i j && lt j i) = false := fun i j => by rw [hlt', hlt']; exact lex_asym
  have neg : ∀ i j k, (lt i j || lt j k || !lt i k) = true := fun i j k => by rw [hlt', hlt', hlt']; exact lex_neg
  have hchk : chk as.length (tab (lt 0 1) (lt 1 0) (lt 1 2) (lt 2 1) (lt 0 2) (lt 2 0)) = true := by
    rcases (show as.length = 2 ∨ as.length = 3 by omega) with e | e <;> rw [e]
    · exact chk2 _ _ _ _ _ _ (asym 0 1)
    · have := chk3 (lt 0 1) (lt 1 0) (lt 1 2) (lt 2 1) (lt 0 2) (lt 2 0)
      rw [asym 0 1, asym 1 2, asym 0 2, neg 0 1 2, neg 0 2 1, neg 1 0 2, neg 1 2 0, neg 2 0 1, neg 2 1 0] at this
      exact this
  rw [refsOf_len] at hok ⊢
  obtain ⟨q, q1, q2, q3⟩ := chk_out (by omega) hok hchk
  rw [q2]
  have qb : ∀ x ∈ q, x < as.length := fun x hx => List.mem_range.mp (q1.mem_iff.mp hx)
  have ea : (q.map fun i => (refsOf as).getD i Value.none) = refsOf (q.map fun i => as.getD i 0) := by
    unfold refsOf
    rw [List.map_map]
    refine List.map_congr_left fun i hi => ?_
    rw [List.getD_eq_getElem?_getD, List.getElem?_map, List.getElem?_eq_getElem (qb i hi)]
    have hi' := qb i hi
    show Value.ref as[i] = Value.ref (as.getD i 0)
    rw [List.getD_eq_getElem?_getD, List.getElem?_eq_getElem (qb i hi)]
    rfl
  rw [ea]
  refine KasFin.intro F' N' (.head fun p hp => Nat.ne_of_lt (hD' p hp)) fun h3 c3 F3 N3 => .mk ⟨rfl, D', _, q.map fun i => ps.getD i (0, 0), c3, rfl, rfl, hD', ⟨by rw [List.length_map, List.length_map], fun i a p ha hp' => ?_⟩, ?_, inRow_map hlt' q q3⟩ F3 N3
  · rw [List.getElem?_map] at ha hp'
    obtain ⟨x, hx, rfl⟩ := Option.map_eq_some_iff.mp ha
    rw [hx] at hp'
    cases hp'
    have hxl := qb x (List.mem_of_getElem? hx)
    have hxl2 : x < ps.length := hp.1 ▸ hxl
    have e1 : as.getD x 0 = as[x] := by rw [List.getD_eq_getElem?_getD, List.getElem?_eq_getElem hxl]; rfl
    have e2 : ps.getD x (0, 0) = ps[x] := by rw [List.getD_eq_getElem?_getD, List.getElem?_eq_getElem hxl2]; rfl
    show ∃ u v, (as.getD x 0, tupOf [.int (ps.getD x (0, 0)).1 u, .int (ps.getD x (0, 0)).2 v]) ∈ _
    rw [e1, e2]
    obtain ⟨u, v, hm⟩ := hp.2 x _ _ (List.getElem?_eq_getElem hxl) (List.getElem?_eq_getElem hxl2)
    exact ⟨u, v, hm⟩
  · have e : (List.range as.length).map (fun i => ps.getD i (0, 0)) = ps := by
      rw [hp.1]
      refine List.ext_getElem? fun i => ?_
      rw [List.getElem?_map]
      rcases Nat.lt_or_ge i ps.length with h | h
      · rw [List.getElem?_range h, List.getElem?_eq_getElem h]
        show some (ps.getD i (0, 0)) = _
        rw [List.getD_eq_getElem?_getD, List.getElem?_eq_getElem h]
        rfl
      · rw [List.getElem?_eq_none h, List.getElem?_eq_none (by rw [List.length_range]; exact h)]
        rfl
    exact (q1.map fun i => ps.getD i (0, 0)).trans (.of_eq e)
section
variable {c : Cx} {m : Map} {led : Led} {e e1 e2 : Expr} {es : List Expr} {d1 : Dm} {pos px : Pos} {x : Str} {k n : Nat} {a l : Addr} {o : Obj} {vs : List Value}
theorem Tr.addLists {P : Value → Map → Led → Prop} (h1 : Ev c m led e1 (.ref l)) (h2 : Tr c m led (eval e2 c.env) fun v m' led' => ∃ b ws n2, v = .ref b ∧ (l, listOf vs.toArray n) ∈ led' ∧ (b, listOf ws.toArray n2) ∈ led' ∧ vs.length + ws.length ≤ 1000 ∧ ∀ D, (∀ p ∈ led', p.1 < D) → P (.ref D) m' ((D, listOf (vs ++ ws).toArray 0) :: led')) :
    Tr c m led (eval (.BinOp e1 .Add e2 pos) c.env) P := fun s F N =>
  wpAny_BinOp (h1.use F N fun v h' tk i F' N' => Tr.use h2 F' N' fun v2 m2 led2 h3 tk3 ⟨b, ws, n2, e, hl, hb, hz, hp⟩ F3 N3 => by
    cases i; subst e
    exact PyProof.Rows.add_lists F3 N3 ⟨_, (N3 _ hl).1, rfl, n, rfl⟩ ⟨_, (N3 _ hb).1, rfl, n2, rfl⟩ (fun h4 F4 N4 => .mk (hp _ fun p hp => Heap.lt_size (N3 p hp).1) F4 N4) (by rw [sizeLine_eq]; omega))
theorem Asg.cell {P : Map → Led → Prop} {v : Value} {v0 : Option Value} {ws : List Value} (O : c.Ok k) (hk : c.env.kindOf x = some .cell) (hc : c.env.cells.lookup x = some a) (hm : (a, o) ∈ led) (ho : o.data = .cell v0)
    (h : ∀ o', o'.data = .cell (some v) → Asg c m (put led a o') es ws P) : Asg c m led (.Name x px :: es) (v :: ws) P := fun s F N =>
  wpAny_bind (wpAny_holding (wpAny_assign_Name (by
    have hz := N _ hm
    refine wpAny_storeName_cell O.kind hk hc ⟨o, hz.1, ho⟩ fun h2 ⟨o', q1, q2⟩ hs2 => ?_
    refine Tr.use (h o' q2) (s := { s with heap := h2 }) (fr_sameBut F hs2 hz.2.1 hz.2.2) (fun p hp => ?_) fun _ m3 led3 h3 tk3 hp F3 N3 => .mk hp F3 N3
    rcases List.mem_cons.mp hp with rfl | hp
    · exact ⟨q1, hz.2⟩
    · obtain ⟨hp1, hp2⟩ := List.mem_filter.mp hp
      exact ⟨(hs2.2 _ (by simpa using hp2)).trans (N p hp1).1, (N p hp1).2⟩)))
/-- e1 op e2, where e2 builds -/
theorem Tr.cmpR {op : CmpOp} {P : Value → Map → Led → Prop} (h1 : Ev c m led e1 d1) (h2 : Tr c m led (eval e2 c.env) fun v m' led' => ∃ d2 b, d2.Is v ∧ CmpD c m' led' op d1 d2 b ∧ P (.bool b) m' led') (hs : behindInMarks op e2 = false := by rfl) :
    Tr c m led (eval (.Compare e1 [op] [e2] pos) c.env) P := fun s F N =>
  wpAny_Compare1 (h1.use F N fun v1 h' tk i1 F' N' => Tr.use h2 F' N' fun v2 m' led' h'' tk' ⟨d2, b, i2, hc, hp⟩ F'' N'' => Tr.use (hc v1 v2 i1 i2) F'' N'' fun a m3 led3 h3 tk3 ⟨q1, q2, q3⟩ F3 N3 => .mk (q1 ▸ q2 ▸ q3 ▸ hp) F3 N3) hs
/-- e1 and .., where e1 builds: the value -/
theorem Tr.andV {P : Value → Map → Led → Prop} (h1 : Tr c m led (eval e1 c.env) fun v m' led' => ∃ b, v = .bool b ∧ (b = false → P (.bool false) m' led') ∧ (b = true → Tr c m' led' (eval (.BoolOp .And (e2 :: es) pos) c.env) P)) :
    Tr c m led (eval (.BoolOp .And (e1 :: e2 :: es) pos) c.env) P := fun s F N =>
  BoolOp_and (h1.use F N fun v m' led' h' tk ⟨b, e, hf, ht⟩ F' N' => by
    subst e
    refine wpAny_truthy_bool ?_
    cases b with
    | true => exact Tr.use (ht rfl) F' N' fun v m2 led2 h'' tk' hp F'' N'' => .mk hp F'' N''
    | false => rw [if_neg Bool.false_ne_true]; exact .mk (hf rfl) F' N')
end
noncomputable def keyR (rs : List Row) (i : Nat) : Str := (rs[i]?.getD noRow).key
/-- what the law's visible takes up -/
noncomputable def visB (o0 : Int) (call : Str) (st : Nat) (ord : List Int) (r : Row) : Bool :=
  ((ord.drop st).any (· == (r.spot : Nat)) && (r.sort == (Str.ofString "function") && r.duty == (Str.ofString "function"))) && (((r.seen != (Str.ofString "private")) || ((r.spot : Nat) : Int) == o0) && (((((st : Nat) : Int) == 0) || (r.full && r.seen != (Str.ofString "external"))) && (r.call == call)))
noncomputable def visR (rs : List Row) (o0 : Int) (call : Str) (st : Nat) (ord : List Int) (i : Nat) : Bool := visB o0 call st ord (rs[i]?.getD noRow)
noncomputable def newKey (ks : List Str) (k : Str) : List Str := bif ks.any (· == k) then [] else [k]
noncomputable def keysOf (rs : List Row) (fs : List Nat) : List Str := fs.foldl (fun ks j => ks ++ newKey ks (keyR rs j)) []
theorem keysOf_snoc {rs : List Row} {fs : List Nat} {j : Nat} : keysOf rs (fs ++ [j]) = keysOf rs fs ++ newKey (keysOf rs fs) (keyR rs j) := by unfold keysOf; rw [List.foldl_append]; rfl
theorem newKey_len {ks : List Str} {k : Str} : (newKey ks k).length ≤ 1 := by unfold newKey; cases ks.any (· == k) <;> simp
theorem turn_cut {ledf : Led} {I : Addr} {oI : Obj} (hI : (I, oI) ∈ ledf) : (∀ p ∈ (I, oI) :: ledf.filter (fun p => p.1 != I), p ∈ ledf) ∧ Apart (ledf.filter fun p => p.1 != I) [I] := by
  refine ⟨fun p hp => ?_, fun p hp a hm => ?_⟩
  · rcases List.mem_cons.mp hp with rfl | hp
    · exact hI
    · exact (List.mem_filter.mp hp).1
  · rw [List.mem_singleton.mp hm]
    simpa using (List.mem_filter.mp hp).2
/-- the cells, the two lists, and what stood before -/
inductive VL (C R Oa : Addr) (fs : List Nat) (ks : List Str) (led led' : Led) : Prop
  | mk (F K : Addr) (nf nk : Nat) (fvs kvs : List Value) (xr xo xf xk : Obj) (ir : xr.data = .cell (some (.ref R))) (io : xo.data = .cell (some (.ref Oa))) (jf : xf.data = .cell (some (.ref F))) (jk : xk.data = .cell (some (.ref K)))
    (mr : (C + 1, xr) ∈ led') (mo : (C + 1 + 1, xo) ∈ led') (mf : (C + 1 + 1 + 1, xf) ∈ led') (mk : (C + 1 + 1 + 1 + 1, xk) ∈ led') (hF : (F, listOf fvs.toArray nf) ∈ led') (hK : (K, listOf kvs.toArray nk) ∈ led')
    (fF : C + 1 + 1 + 1 + 1 < F) (fK : C + 1 + 1 + 1 + 1 < K) (ne : F ≠ K) (hf : IntsAre fvs (natZ fs)) (hk : StrsAre kvs ks) (base : ∀ p ∈ led, p ∈ led') : VL C R Oa fs ks led led'
theorem cells_lt {p C : Nat} (h : p < C) : p ≠ C + 1 ∧ p ≠ C + 1 + 1 ∧ p ≠ C + 1 + 1 + 1 ∧ p ≠ C + 1 + 1 + 1 + 1 := by omega
theorem cells_gt {F C : Nat} (h : C + 1 + 1 + 1 + 1 < F) : F ≠ C + 1 ∧ F ≠ C + 1 + 1 ∧ F ≠ C + 1 + 1 + 1 ∧ F ≠ C + 1 + 1 + 1 + 1 := by omega
theorem cells_ne {C : Nat} : C + 1 ≠ C + 1 + 1 + 1 ∧ C + 1 ≠ C + 1 + 1 + 1 + 1 ∧ C + 1 + 1 ≠ C + 1 + 1 + 1 ∧ C + 1 + 1 ≠ C + 1 + 1 + 1 + 1 ∧ C + 1 + 1 + 1 ≠ C + 1 + 1 + 1 + 1 := by omega
theorem VL.base {C R Oa : Addr} {fs : List Nat} {ks : List Str} {led led' : Led} (h : VL C R Oa fs ks led led') : ∀ p ∈ led, p ∈ led' := by cases h; assumption
/-- the names that the loop keeps -/
structure VM (call : Str) (tc : Tok) (st : Nat) (ts : Tok) (m : Map) : Prop where
  call : m (Str.ofString "call") = some (.str call tc)
  start : m (Str.ofString "start") = some (.int (st : Nat) ts)
theorem VM.upd {call : Str} {tc : Tok} {st : Nat} {ts : Tok} {m : Map} {x : Str} {v : Value} (h : VM call tc st ts m) (hx : [(Str.ofString "call"), (Str.ofString "start")].contains x = false) : VM call tc st ts (upd m x v) := by
  have h1 : (Str.ofString "call") ≠ x := fun e => by subst e; exact absurd hx (by decide +kernel)
  have h2 : (Str.ofString "start") ≠ x := fun e => by subst e; exact absurd hx (by decide +kernel)
  exact ⟨upd_ne h.1 h1, upd_ne h.2 h2⟩
theorem keysOf_ok {rs : List Row} : ∀ (fs : List Nat) (ks : List Str), ks.Nodup → (fs.foldl (fun ks j => ks ++ newKey ks (keyR rs j)) ks).Nodup ∧ ∀ k, k ∈ fs.foldl (fun ks j => ks ++ newKey ks (keyR rs j)) ks ↔ k ∈ ks ∨ ∃ j ∈ fs, keyR rs j = k
  | [], ks, h => ⟨h, fun k => ⟨.inl, fun h => h.elim id fun ⟨_, h, _⟩ => nomatch h⟩⟩
  | j :: fs, ks, h => by
    have hm : (ks ++ newKey ks (keyR rs j)).Nodup ∧ ∀ k, k ∈ ks ++ newKey ks (keyR rs j) ↔ k ∈ ks ∨ keyR rs j = k := by
      unfold newKey
      cases e : ks.any (· == keyR rs j) with
      | true =>
        obtain ⟨x, hx, hxe⟩ := List.any_eq_true.mp e
        have hxe := eq_of_beq hxe
        rw [cond_true, List.append_nil]
        exact ⟨h, fun k => ⟨.inl, fun h => h.elim id fun e => e ▸ hxe ▸ hx⟩⟩
      | false =>
        rw [cond_false]
        have hn : keyR rs j ∉ ks := fun hx => by
          have : ks.any (· == keyR rs j) = true := List.any_eq_true.mpr ⟨_, hx, beq_self_eq_true (keyR rs j)⟩
          rw [e] at this
          exact nomatch this
        refine ⟨List.nodup_append.mpr ⟨h, List.pairwise_singleton _ _, fun a ha b hb e => ?_⟩, fun k => ?_⟩
        · rw [List.mem_singleton] at hb; subst hb; subst e; exact hn ha
        · rw [List.mem_append, List.mem_singleton]; exact ⟨fun h => h.imp id Eq.symm, fun h => h.imp id Eq.symm⟩
    obtain ⟨h1, h2⟩ := keysOf_ok fs _ hm.1
    refine ⟨h1, fun k => ?_⟩
    rw [List.foldl_cons, h2, hm.2]
    constructor
    · rintro ((h | h) | ⟨x, hx, h⟩)
      · exact .inl h
      · exact .inr ⟨j, .head _, h⟩
      · exact .inr ⟨x, .tail _ hx, h⟩
    · rintro (h | ⟨x, hx, h⟩)
      · exact .inl (.inl h)
      · rcases List.mem_cons.mp hx with rfl | hx
        · exact .inl (.inr h)
        · exact .inr ⟨x, hx, h⟩
theorem nodup_len {α : Type} [DecidableEq α] : ∀ (ks K : List α), ks.Nodup → (∀ k ∈ ks, k ∈ K) → ks.length ≤ K.length
  | [], _, _, _ => Nat.zero_le _
  | k :: ks, K, h, hs => by
    rw [List.nodup_cons] at h
    have := nodup_len ks (K.erase k) h.2 fun x hx => (List.mem_erase_of_ne fun e => by subst e; exact h.1 hx).mpr (hs x (.tail _ hx))
    rw [List.length_erase_of_mem (hs k (.head _))] at this
    have hp := List.length_pos_of_mem (hs k (.head _))
    rw [List.length_cons]
    omega
/-- of each key its least -/
inductive Due (rs : List Row) (ord : List Int) (fs : List Nat) : List Str → List Nat → Prop
  | nil : Due rs ord fs [] []
  | snoc {ks : List Str} {ds : List Nat} {k : Str} {d : Nat} : Due rs ord fs ks ds → d ∈ fs → keyR rs d = k → (∀ x ∈ fs, keyR rs x = k → lexB (rankZ rs ord x).1 (rankZ rs ord x).2 (rankZ rs ord d).1 (rankZ rs ord d).2 = false) → Due rs ord fs (ks ++ [k]) (ds ++ [d])
theorem Due.keys {rs : List Row} {ord : List Int} {fs ds : List Nat} {ks : List Str} (h : Due rs ord fs ks ds) : ds.map (keyR rs) = ks := by
  induction h with
  | nil => rfl
  | snoc _ _ e _ ih => rw [List.map_append, ih, ← e]; rfl
theorem Due.mem {rs : List Row} {ord : List Int} {fs ds : List Nat} {ks : List Str} (h : Due rs ord fs ks ds) : ∀ d ∈ ds, d ∈ fs ∧ ∀ x ∈ fs, keyR rs x = keyR rs d → lexB (rankZ rs ord x).1 (rankZ rs ord x).2 (rankZ rs ord d).1 (rankZ rs ord d).2 = false := by
  induction h with
  | nil => exact fun _ h => nomatch h
  | snoc _ hm e hb ih =>
    intro d hd
    rcases List.mem_append.mp hd with hd | hd
    · exact ih d hd
    · rw [List.mem_singleton] at hd; subst hd; subst e; exact ⟨hm, hb⟩
/-- what the law's visible says -/
structure VisOk (rs : List Row) (ord : List Int) (fs ns : List Nat) : Prop where
  mem : ∀ j ∈ ns, j ∈ fs ∧ ∀ x ∈ fs, keyR rs x = keyR rs j → lexB (rankZ rs ord x).1 (rankZ rs ord x).2 (rankZ rs ord j).1 (rankZ rs ord j).2 = false
  all : ∀ x ∈ fs, ∃ j ∈ ns, keyR rs j = keyR rs x
  keys : (ns.map (keyR rs)).Nodup
  row : ns.Pairwise fun a b => lexB (rankZ rs ord b).1 (rankZ rs ord b).2 (rankZ rs ord a).1 (rankZ rs ord a).2 = false
theorem visOk {rs : List Row} {ord : List Int} {fs ds : List Nat} {ps : List (Int × Int)} (h : Due rs ord fs (keysOf rs fs) ds) (hp : ps.Perm (ds.map (rankZ rs ord))) (hs : ps.Pairwise fun a b => lexB b.1 b.2 a.1 a.2 = false) :
    ∃ ns : List Nat, ps.map (·.2) = natZ ns ∧ VisOk rs ord fs ns := by
  have hk := keysOf_ok (rs := rs) fs [] .nil
  have e : ps = (ps.map fun p => p.2.toNat).map (rankZ rs ord) := by
    rw [List.map_map]
    refine (List.map_id ps).symm.trans (List.map_congr_left fun p hp' => ?_)
    obtain ⟨d, _, rfl⟩ := List.mem_map.mp (hp.mem_iff.mp hp')
    rfl
  have hn : (ps.map fun p => p.2.toNat).Perm ds := by
    refine (hp.map fun p => p.2.toNat).trans (.of_eq ?_)
    rw [List.map_map]
    exact (List.map_congr_left fun d _ => rfl).trans (List.map_id ds)
  generalize (ps.map fun p => p.2.toNat) = ns at e hn
  subst e
  refine ⟨ns, by rw [List.map_map]; rfl, fun j hj => h.mem j (hn.mem_iff.mp hj), fun x hx => ?_, ?_, List.pairwise_map.mp hs⟩
  · have : keyR rs x ∈ ds.map (keyR rs) := by rw [h.keys]; exact (hk.2 _).mpr (.inr ⟨x, hx, rfl⟩)
    obtain ⟨d, hd, e⟩ := List.mem_map.mp this
    exact ⟨d, hn.mem_iff.mpr hd, e⟩
  · refine (hn.map (keyR rs)).nodup_iff.mpr ?_
    rw [h.keys]
    exact hk.1
theorem nsSorted (P : Params) : nsIn (KH P) mainGlobals (Str.ofString "sorted") = some none := by kernel_rfl
theorem visible_fn (w : World) {R La Oa : Addr} {rs : List Row} {ls : List Nat} {ord : List Int} {o0 : Int} {call : Str} {st : Nat} {tc ts : Tok} {led : Led} (H : LawIn w led R La Oa rs ls ord) (ho0 : ord[0]? = some o0) (hls : ls.length < 1000) (hK3 : ∃ K3 : List Str, K3.length ≤ 3 ∧ ∀ j ∈ ls, visR rs o0 call st ord j = true → keyR rs j ∈ K3) :
    Fn w 184 [.ref R, .ref La, .ref Oa, .str call tc, .int (st : Nat) ts] led 5 (fun led' v => ∃ ns, Nums ns led led' v ∧ VisOk rs ord (ls.filter (visR rs o0 call st ord)) ns) := by
  have e0 : Challenge.rw_sa0304_01 = Challenge.rw_sa0304_01 ∧ KH = KH := ⟨rfl, rfl⟩
  revert e0; k_fill; intro _
  k_dflt (refine' Fn.enterC (binds := [(Str.ofString "rows", .ref R), (Str.ofString "listed", .ref La), (Str.ofString "order", .ref Oa), (Str.ofString "call", .str call tc), (Str.ofString "start", .int (st : Nat) ts)]) ?ho ?hcd ?hb ?hk ?hn ?c2 ?c3 ?c4 ?_; (case ho => k_is); (case hcd => k_is); (case hb => exact fun s => BindsTo.of_eq rfl); (case hk => exact rfl); (case hn => decide +kernel); (case c2 => exact rfl); (case c3 => exact rfl); (case c4 => exact rfl))
  intro c cells hw O he l1 Y
  obtain ⟨xk, xf, xo, xr, rfl, d4, d3, d2, d1⟩ := CellsAre.four Y
  subst hw
  have ir : xr.data = .cell (some (.ref R)) := d1
  have io : xo.data = .cell (some (.ref Oa)) := d2
  have jf : xf.data = .cell none := d3
  have jk : xk.data = .cell none := d4
  have kR : c.env.kindOf (Str.ofString "rows") = some .cell := by rw [he]; rfl
  have kO : c.env.kindOf (Str.ofString "order") = some .cell := by rw [he]; rfl
  have kF : c.env.kindOf (Str.ofString "found") = some .cell := by rw [he]; rfl
  have kK : c.env.kindOf (Str.ofString "keys") = some .cell := by rw [he]; rfl
  have kL : c.env.kindOf (Str.ofString "listed") = some .local := by rw [he]; rfl
  have kC : c.env.kindOf (Str.ofString "call") = some .local := by rw [he]; rfl
  have kS : c.env.kindOf (Str.ofString "start") = some .local := by rw [he]; rfl
  have kN : c.env.kindOf (Str.ofString "number") = some .local := by rw [he]; rfl
  have kW : c.env.kindOf (Str.ofString "row") = some .local := by rw [he]; rfl
  have kT : c.env.kindOf (Str.ofString "is_there") = some .local := by rw [he]; rfl
  have kE : c.env.kindOf (Str.ofString "is_free") = some .local := by rw [he]; rfl
  have kI : c.env.kindOf (Str.ofString "is_inner") = some .local := by rw [he]; rfl
  have kD : c.env.kindOf (Str.ofString "due") = some .local := by rw [he]; rfl
  have xR : c.env.cells.lookup (Str.ofString "rows") = some (c.L + 1) := by rw [he]; rfl
  have xO : c.env.cells.lookup (Str.ofString "order") = some (c.L + 1 + 1) := by rw [he]; rfl
  have xF : c.env.cells.lookup (Str.ofString "found") = some (c.L + 1 + 1 + 1) := by rw [he]; rfl
  have xK : c.env.cells.lookup (Str.ofString "keys") = some (c.L + 1 + 1 + 1 + 1) := by rw [he]; rfl
  generalize hm0 : bindL (envOfC _ _ c.L 184 (Value.ref 183)).kindOf _ _ = m0
  have q1 : m0 (Str.ofString "listed") = some (.ref La) := by subst hm0; rfl
  have qm : VM call tc st ts m0 := by subst hm0; exact ⟨rfl, rfl⟩
  clear hm0 d1 d2 d3 d4 Y
  generalize hl0 : [(c.L + 1 + 1 + 1 + 1, xk), (c.L + 1 + 1 + 1, xf), (c.L + 1 + 1, xo), (c.L + 1, xr)] ++ led = led0
  have s1 : ∀ p ∈ led, p ∈ led0 := fun p hp => hl0 ▸ .tail _ (.tail _ (.tail _ (.tail _ hp)))
  have y1 : (c.L + 1, xr) ∈ led0 := hl0 ▸ .tail _ (.tail _ (.tail _ (.head _)))
  have y2 : (c.L + 1 + 1, xo) ∈ led0 := hl0 ▸ .tail _ (.tail _ (.head _))
  have y3 : (c.L + 1 + 1 + 1, xf) ∈ led0 := hl0 ▸ .tail _ (.head _)
  have y4 : (c.L + 1 + 1 + 1 + 1, xk) ∈ led0 := hl0 ▸ .head _
  clear hl0
  have cn := cells_ne (C := c.L)
  refine St.tup (Tr.tuple (Its.cons (P1 := fun v m' led' => m0 = m' ∧ ∃ F, v = .ref F ∧ led' = (F, listOf [].toArray 0) :: led0 ∧ ∀ p ∈ led0, p.1 < F) (Tr.list (Its.nil ⟨Nat.zero_le _, fun l hl => ⟨rfl, l, rfl, rfl, hl⟩⟩)) ?_)) (by rw [he]; rfl) (by rw [he]; rfl) (by rw [he]; rfl)
  rintro _ _ _ ⟨rfl, F, rfl, rfl, hF⟩
  refine Its.cons (P1 := fun v m' led' => m0 = m' ∧ ∃ K, v = .ref K ∧ led' = (K, listOf [].toArray 0) :: (F, listOf [].toArray 0) :: led0 ∧ F < K) (Tr.list (Its.nil ⟨Nat.zero_le _, fun l hl => ⟨rfl, l, rfl, rfl, hl _ (.head _)⟩⟩)) ?_
  rintro _ _ _ ⟨rfl, K, rfl, rfl, hK⟩
  refine Its.nil ⟨show 2 ≤ 1000 by decide, fun t ht => ⟨t, [.ref F, .ref K], rfl, .head _, by rw [he]; rfl, ?_⟩⟩
  have fF : c.L + 1 + 1 + 1 + 1 < F := hF _ y4
  have fK : c.L + 1 + 1 + 1 + 1 < K := Nat.lt_trans fF hK
  have gF := cells_gt fF
  have gK := cells_gt fK
  refine Asg.cell O kF xF (.tail _ (.tail _ (.tail _ y3))) jf fun xf' hxf => Asg.cell (o := xk) O kK xK (put_ne (.tail _ (.tail _ (.tail _ y4))) cn.2.2.2.2.symm) jk fun xk' hxk => Asg.nil ?_
  have hv0 : VL c.L R Oa [] [] led (put (put ((t, tupOf [.ref F, .ref K]) :: (K, listOf [].toArray 0) :: (F, listOf [].toArray 0) :: led0) (c.L + 1 + 1 + 1) xf') (c.L + 1 + 1 + 1 + 1) xk') := by
    have n1 : ∀ {p : Addr × Obj}, p ∈ (K, listOf [].toArray 0) :: (F, listOf [].toArray 0) :: led0 → p.1 ≠ c.L + 1 + 1 + 1 → p.1 ≠ c.L + 1 + 1 + 1 + 1 → p ∈ put (put ((t, tupOf [.ref F, .ref K]) :: (K, listOf [].toArray 0) :: (F, listOf [].toArray 0) :: led0) (c.L + 1 + 1 + 1) xf') (c.L + 1 + 1 + 1 + 1) xk' := fun hp h3 h4 => put_ne (put_ne (.tail _ hp) h3) h4
    exact ⟨F, K, 0, 0, [], [], xr, xo, xf', xk', ir, io, hxf, hxk, n1 (.tail _ (.tail _ y1)) cn.1 cn.2.1, n1 (.tail _ (.tail _ y2)) cn.2.2.1 cn.2.2.2.1,
      put_ne (.head _) cn.2.2.2.2, .head _, n1 (.tail _ (.head _)) gF.2.2.1 gF.2.2.2, n1 (.head _) gK.2.2.1 gK.2.2.2, fF, fK, Nat.ne_of_lt hK, .nil, .nil,
      fun p hp => n1 (.tail _ (.tail _ (s1 p hp))) (cells_lt (l1 p hp)).2.2.1 (cells_lt (l1 p hp)).2.2.2⟩
  generalize put (put ((t, tupOf [.ref F, .ref K]) :: (K, listOf [].toArray 0) :: (F, listOf [].toArray 0) :: led0) (c.L + 1 + 1 + 1) xf') (c.L + 1 + 1 + 1 + 1) xk' = led1 at hv0 ⊢
  clear hF hK ht fF fK gF gK y1 y2 y3 y4 s1 ir io jf jk hxf hxk
  obtain ⟨lvs, nl, hL, hLi⟩ := H.listed
  obtain ⟨ovs, no, hO, hOi⟩ := H.order
  have hll : lvs.length = ls.length := by rw [hLi.length, List.length_map]
  refine St.for_ O kN (Tr.mono (Ev.loc (d := .ref La) O kL q1 rfl) fun v m' led' ⟨h1, h2, h3⟩ => h2 ▸ h3 ▸ ⟨La, false, lvs, nl, fun i m2 led2 => VM call tc st ts m2 ∧ VL c.L R Oa ((ls.take i).filter (visR rs o0 call st ord)) (keysOf rs ((ls.take i).filter (visR rs o0 call st ord))) led led2 ∧ (keysOf rs ((ls.take i).filter (visR rs o0 call st ord))).length ≤ i,
    h1, ⟨qm, hv0, Nat.le_refl _⟩, fun i m2 led2 h => h.2.1.base _ hL, ?turn, ?done⟩)
  case turn =>
    rintro i u m2 led2 I oI hu ⟨hm, hv, hz⟩ ha
    obtain ⟨j, t, rfl, hj⟩ := natAt hLi hu
    have hjl : j ∈ ls := List.mem_of_getElem? hj
    have hil := (List.getElem?_eq_some_iff.mp hj).1
    obtain ⟨r, hr⟩ : ∃ r, rs[j]? = some r := ⟨_, List.getElem?_eq_getElem (H.lb j hjl)⟩
    obtain ⟨a, hRa, hEa⟩ := H.rows.at hr
    have hvr : visR rs o0 call st ord j = visB o0 call st ord r := by unfold visR; rw [hr]; rfl
    have hkr : keyR rs j = r.key := by unfold keyR; rw [hr]; rfl
    have htf := take_filter (p := visR rs o0 call st ord) hj
    rw [hvr] at htf
    have hv' := hv
    obtain ⟨F, K, nf, nk, fvs, kvs, xr, xo, xf, xk, ir, io, jf, jk, mr, mo, mf, mk, hF, hK, fF, fK, ne, hf, hk, base⟩ := hv'
    refine St.set O kW (hEa (fun p hp => .tail _ (base p hp)) (.cell O kR xR (.tail _ mr) ir rfl) (.loc O kN upd_at ⟨t, rfl⟩) (by intro _; with_unfolding_all rfl)) fun v hv1 => ?_
    cases hv1
    have hm1 := (hm.upd (x := (Str.ofString "number")) (v := .int (j : Nat) t) (by decide +kernel)).upd (x := (Str.ofString "row")) (v := .ref a) (by decide +kernel)
    have qn : upd (upd m2 (Str.ofString "number") (.int (j : Nat) t)) (Str.ofString "row") (.ref a) (Str.ofString "number") = some (.int (j : Nat) t) := upd_ne upd_at (by decide)
    have qw : upd (upd m2 (Str.ofString "number") (.int (j : Nat) t)) (Str.ofString "row") (.ref a) (Str.ofString "row") = some (.ref a) := upd_at
    generalize upd (upd m2 (Str.ofString "number") (.int (j : Nat) t)) (Str.ofString "row") (.ref a) = m3 at hm1 qn qw ⊢
    have nw {m led' p} (hq : m (Str.ofString "row") = some (.ref a)) : Ev c m led' (.Name (Str.ofString "row") p) (.ref a) := .loc O kW hq rfl
    refine St.setT (P1 := fun v m' led' => m3 = m' ∧ v = .bool ((ord.drop st).any (· == (r.spot : Nat)) && (r.sort == (Str.ofString "function") && r.duty == (Str.ofString "function"))) ∧ ∀ p ∈ (I, oI) :: led2, p ∈ led') O kT
      (Tr.andV (Tr.cmpR (.get (nw qw) .str_ (hRa.mono fun p hp => .tail _ (base p hp)) (.head _)) (Tr.mono (Tr.sliceFrom (.cell O kO xO (.tail _ mo) io rfl) (.loc (d := .int (st : Nat)) O kS hm1.start ⟨ts, rfl⟩) (.tail _ (base _ hO)) (Int.natCast_nonneg _) (by rw [hOi.length]; exact H.oz)) ?_))) ?_
    · rintro v m' led' ⟨D, rfl, rfl, rfl, _⟩
      have hRa3 : RowAt c.w ((D, listOf (List.drop (st : Int).toNat ovs).toArray 0) :: (I, oI) :: led2) a r := hRa.mono fun p hp => .tail _ (.tail _ (base p hp))
      refine ⟨.ref D, _, rfl, .inInts (.head _) (hOi.drop _), _, rfl, fun hb => ⟨rfl, ?_, fun p hp => .tail _ hp⟩, fun hb => ?_⟩
      · rw [Int.toNat_natCast] at hb; rw [hb]; rfl
      · rw [Int.toNat_natCast] at hb
        refine Tr.mono (Ev.and (.cmp (.get (nw qw) .str_ hRa3 (.tail _ (.head _))) .str_ .eqStr) fun _ => .one (.cmp (.get (nw qw) .str_ hRa3 (.tail _ (.tail _ (.tail _ (.tail _ (.head _)))))) .str_ .eqStr)) fun v m' led' ⟨h1, h2, h3⟩ => ⟨h2.symm, ?_, fun p hp => h3 ▸ .tail _ hp⟩
        rw [hb]; exact h1
    rintro v _ led3 ⟨rfl, rfl, s3⟩
    generalize ht : ((ord.drop st).any (· == (r.spot : Nat)) && (r.sort == (Str.ofString "function") && r.duty == (Str.ofString "function"))) = bt
    have s4 : ∀ p ∈ led2, p ∈ led3 := fun p hp => s3 p (.tail _ hp)
    have hRa4 : RowAt c.w led3 a r := hRa.mono fun p hp => s4 p (base p hp)
    have hm2 := hm1.upd (x := (Str.ofString "is_there")) (v := .bool bt) (by decide +kernel)
    have qn2 := upd_ne (x := (Str.ofString "is_there")) (v := .bool bt) qn (by decide)
    have qw2 := upd_ne (x := (Str.ofString "is_there")) (v := .bool bt) qw (by decide)
    have qt2 : upd m3 (Str.ofString "is_there") (.bool bt) (Str.ofString "is_there") = some (.bool bt) := upd_at
    generalize upd m3 (Str.ofString "is_there") (.bool bt) = m4 at hm2 qn2 qw2 qt2 ⊢
    clear hm1 qn qw
    obtain ⟨t0, hz0⟩ := hOi.get 0 o0 ho0
    refine St.set O kE (d := .bool ((r.seen != (Str.ofString "private")) || ((r.spot : Nat) : Int) == o0)) (Ev.or (.cmp (.get (nw qw2) .str_ hRa4 (.tail _ (.tail _ (.tail _ (.tail _ (.tail _ (.head _))))))) .str_ .neStr) fun _ =>
      .one (.cmp (.get (nw qw2) .str_ hRa4 (.head _)) (.item (d := .int o0) (.cell O kO xO (s4 _ mo) io rfl) .int_ (s4 _ (base _ hO)) (by decide) (by decide) (show ovs[Int.toNat 0]? = _ from hz0) ⟨t0, rfl⟩) .eqInt)) fun v hv1 => ?_
    cases hv1
    generalize hfr : ((r.seen != (Str.ofString "private")) || ((r.spot : Nat) : Int) == o0) = bf
    have hm3 := hm2.upd (x := (Str.ofString "is_free")) (v := .bool bf) (by decide +kernel)
    have qn3 := upd_ne (x := (Str.ofString "is_free")) (v := .bool bf) qn2 (by decide)
    have qw3 := upd_ne (x := (Str.ofString "is_free")) (v := .bool bf) qw2 (by decide)
    have qt3 := upd_ne (x := (Str.ofString "is_free")) (v := .bool bf) qt2 (by decide)
    have qf3 : upd m4 (Str.ofString "is_free") (.bool bf) (Str.ofString "is_free") = some (.bool bf) := upd_at
    generalize upd m4 (Str.ofString "is_free") (.bool bf) = m5 at hm3 qn3 qw3 qt3 qf3 ⊢
    clear hm2 qn2 qw2 qt2
    refine St.set O kI (d := .bool ((((st : Nat) : Int) == 0) || (r.full && r.seen != (Str.ofString "external")))) (Ev.or (.cmp (.loc (d := .int (st : Nat)) O kS hm3.start ⟨ts, rfl⟩) .int_ .eqInt) fun _ =>
      .one (.and (.get (nw qw3) .str_ hRa4 (.tail _ (.tail _ (.tail _ (.tail _ (.tail _ (.tail _ (.head _)))))))) fun _ => .one (.cmp (.get (nw qw3) .str_ hRa4 (.tail _ (.tail _ (.tail _ (.tail _ (.tail _ (.head _))))))) .str_ .neStr))) fun v hv1 => ?_
    cases hv1
    generalize hin : ((((st : Nat) : Int) == 0) || (r.full && r.seen != (Str.ofString "external"))) = bi
    have hm4 := hm3.upd (x := (Str.ofString "is_inner")) (v := .bool bi) (by decide +kernel)
    have qn4 := upd_ne (x := (Str.ofString "is_inner")) (v := .bool bi) qn3 (by decide)
    have qw4 := upd_ne (x := (Str.ofString "is_inner")) (v := .bool bi) qw3 (by decide)
    have qt4 := upd_ne (x := (Str.ofString "is_inner")) (v := .bool bi) qt3 (by decide)
    have qf4 := upd_ne (x := (Str.ofString "is_inner")) (v := .bool bi) qf3 (by decide)
    have qi4 : upd m5 (Str.ofString "is_inner") (.bool bi) (Str.ofString "is_inner") = some (.bool bi) := upd_at
    generalize upd m5 (Str.ofString "is_inner") (.bool bi) = m6 at hm4 qn4 qw4 qt4 qf4 qi4 ⊢
    clear hm3 qn3 qw3 qt3 qf3
    have hvb : visB o0 call st ord r = (bt && (bf && (bi && ((r.call == call) && true)))) := by unfold visB; rw [ht, hfr, hin, Bool.and_true]
    rw [hvb] at htf
    refine St.if0 (.and (.cons (.of (.loc (d := .bool bt) O kT qt4 rfl)) fun _ => .cons (.of (.loc (d := .bool bf) O kE qf4 rfl)) fun _ => .cons (.of (.loc (d := .bool bi) O kI qi4 rfl)) fun _ => .cons (.cmp (.get (nw qw4) .str_ hRa4 (.tail _ (.tail _ (.head _)))) (.loc (d := .str call) O kC hm4.call ⟨tc, rfl⟩) .eqStr) fun _ => .nil)) (fun hb => ?_) fun hb => ?_
    · rw [hb, if_pos rfl] at htf
      have gF := cells_gt fF
      have gK := cells_gt fK
      have hIF : I ≠ F := (ha _ hF I (.head _)).symm
      have hfl : fvs.length ≤ 1000 := by
        rw [hf.length, List.length_map]
        exact Nat.le_trans (List.length_filter_le _ _) (Nat.le_trans (by rw [List.length_take]; omega) H.lz)
      refine St.append (.cell O kF xF (s4 _ mf) jf rfl) (.loc (d := .int (j : Nat)) O kN qn4 ⟨t, rfl⟩) (s4 _ hF) (by omega) (fun u hu1 => ?_) (hi := by rw [he]; rfl)
      obtain ⟨t1, rfl⟩ := hu1
      generalize hl5 : put led3 F (listOf (fvs ++ [Value.int (j : Nat) t1]).toArray (nf + 1)) = led5
      have s5 : ∀ p ∈ led3, p.1 ≠ F → p ∈ led5 := fun p hp hn => hl5 ▸ put_ne hp hn
      have hF5 : (F, listOf (fvs ++ [Value.int (j : Nat) t1]).toArray (nf + 1)) ∈ led5 := hl5 ▸ .head _
      clear hl5
      have mr5 := s5 _ (s4 _ mr) gF.1.symm
      have mo5 := s5 _ (s4 _ mo) gF.2.1.symm
      have mf5 := s5 _ (s4 _ mf) gF.2.2.1.symm
      have mk5 := s5 _ (s4 _ mk) gF.2.2.2.symm
      have hK5 := s5 _ (s4 _ hK) ne.symm
      have hI5 := s5 _ (s3 _ (.head _)) hIF
      have b5 : ∀ p ∈ led, p ∈ led5 := fun p hp => s5 _ (s4 _ (base p hp)) (Nat.ne_of_lt (Nat.lt_trans (l1 p hp) (Nat.lt_of_succ_lt (Nat.lt_of_succ_lt (Nat.lt_of_succ_lt (Nat.lt_of_succ_lt fF))))))
      have hRa5 : RowAt c.w led5 a r := hRa.mono b5
      have hkl : kvs.length ≤ i := by rw [hk.length]; exact hz
      refine St.setCT O kK xK (Tr.addLists (vs := kvs) (n := nk) (.cell O kK xK mk5 jk rfl) (Tr.mono (Tr.comp false (cl := [((Str.ofString "keys"), c.L + 1 + 1 + 1 + 1)]) (P := fun D nD outs ledJ => StrsAre outs (newKey (keysOf rs (List.filter (visR rs o0 call st ord) (List.take i ls))) r.key) ∧ ∀ p ∈ led5, p ∈ ledJ)
        O (by rw [he]; rfl) ⟨fun _ _ => rfl, fun _ => rfl⟩ rfl (by decide +kernel) (fun C => by rw [he]; rfl) (Tr.list (Its.ev (.get (nw qw4) .str_ hRa5 (.tail _ (.tail _ (.tail _ (.head _))))) fun v hv1 => Its.nil ⟨show 1 ≤ 1000 by decide, fun l hl =>
          ⟨rfl, l, false, [v], 0, fun i2 outs led' => StrsAre outs (if i2 = 0 then [] else newKey (keysOf rs (List.filter (visR rs o0 call st ord) (List.take i ls))) r.key) ∧ ∀ p ∈ (l, listOf [v].toArray 0) :: led5, p ∈ led', rfl, show 1 ≤ 1000 by decide, ⟨.nil, fun p hp => hp⟩, fun _ _ _ hb => hb.2 _ (.head _), ?turn2, ?done2⟩⟩))) ?_))
      case done2 => exact fun D nD outs ledJ hq _ _ => ⟨hq.1, fun p hp => hq.2 p (.tail _ hp)⟩
      case turn2 =>
        rintro c' m7 i2 u2 outs ledJ D I2 oI2 oc nD hw' O' he' hu2 ⟨hi2, hb2⟩ ha2 ho2 _
        obtain ⟨tk, rfl⟩ := hv1
        have : i2 = 0 ∧ u2 = .str r.key tk := by
          cases i2 with
          | zero => exact ⟨rfl, (Option.some.inj hu2).symm⟩
          | succ n => exact nomatch hu2
        obtain ⟨rfl, rfl⟩ := this
        have e0 : outs = [] := by rw [if_pos rfl] at hi2; cases hi2; rfl
        subst e0
        generalize hl7 : (D, listOf [].toArray nD) :: (I2, oI2) :: ledJ = led7
        have s7 : ∀ p ∈ led5, p ∈ led7 := fun p hp => hl7 ▸ .tail _ (.tail _ (hb2 p (.tail _ hp)))
        refine .plain hl7 (!(keysOf rs (List.filter (visR rs o0 call st ord) (List.take i ls))).any (· == r.key)) (.one (.cmp (.loc (d := .str r.key) O' (by rw [he', he]; rfl) upd_at ⟨tk, rfl⟩) (.cell (d := .ref K) O' (by rw [he', he]; rfl) (by rw [he']; rfl) (s7 _ mk5) jk rfl) (.notInStrs (s7 _ hK5) hk))) (fun hf2 => ⟨?_, hb2⟩) fun ht2 => ?_
        · rw [if_neg (by omega)]
          unfold newKey
          rw [Bool.not_eq_false'] at hf2
          rw [hf2]
          exact .nil
        · refine Tr.mono (Ev.loc (d := .str r.key) O' (by rw [he', he]; rfl) upd_at ⟨tk, rfl⟩) fun r0 m8 led8 ⟨⟨t8, e1⟩, _, e3⟩ => ⟨ledJ, fun p hp => by rw [e3, ← hl7]; exact hp, ha2, ⟨?_, hb2⟩⟩
          subst e1
          rw [if_neg (by omega)]
          unfold newKey
          rw [Bool.not_eq_true'] at ht2
          rw [ht2]
          exact .cons _ _ .nil
      rintro v m7 led7 ⟨rfl, D, nD, outs, ledJ, rfl, rfl, hou, hb7⟩
      have hol : outs.length ≤ 1 := by rw [hou.length]; exact newKey_len
      refine ⟨D, outs, nD, rfl, .tail _ (hb7 _ hK5), .head _, by omega, fun K2 hK2 => ⟨xk, _, .tail _ (.tail _ (hb7 _ mk5)), jk, fun xk' hxk' => ?_⟩⟩
      have s8 : ∀ p ∈ led5, p.1 ≠ c.L + 1 + 1 + 1 + 1 → p ∈ put ((K2, listOf (kvs ++ outs).toArray 0) :: (D, listOf outs.toArray nD) :: ledJ) (c.L + 1 + 1 + 1 + 1) xk' := fun p hp hn => put_ne (.tail _ (.tail _ (hb7 p hp))) hn
      have fK2 : c.L + 1 + 1 + 1 + 1 < K2 := hK2 _ (.tail _ (hb7 _ mk5))
      have fF2 : F < K2 := hK2 _ (.tail _ (hb7 _ hF5))
      have fI2 : I < K2 := hK2 _ (.tail _ (hb7 _ hI5))
      have hIc : I ≠ c.L + 1 + 1 + 1 + 1 := (ha _ mk I (.head _)).symm
      have hI8 := s8 _ hI5 hIc
      have hK8 : (K2, listOf (kvs ++ outs).toArray 0) ∈ put ((K2, listOf (kvs ++ outs).toArray 0) :: (D, listOf outs.toArray nD) :: ledJ) (c.L + 1 + 1 + 1 + 1) xk' := put_ne (.head _) (cells_gt fK2).2.2.2
      have hk8 : (c.L + 1 + 1 + 1 + 1, xk') ∈ put ((K2, listOf (kvs ++ outs).toArray 0) :: (D, listOf outs.toArray nD) :: ledJ) (c.L + 1 + 1 + 1 + 1) xk' := .head _
      generalize put ((K2, listOf (kvs ++ outs).toArray 0) :: (D, listOf outs.toArray nD) :: ledJ) (c.L + 1 + 1 + 1 + 1) xk' = led8 at s8 hI8 hK8 hk8 ⊢
      have kp : ∀ p ∈ led8, p.1 ≠ I → p ∈ led8.filter fun p => p.1 != I := fun p hp hn => List.mem_filter.mpr ⟨hp, by simpa using hn⟩
      have hnat : natZ (List.filter (visR rs o0 call st ord) (List.take i ls) ++ [j]) = natZ (List.filter (visR rs o0 call st ord) (List.take i ls)) ++ [(j : Int)] := by unfold natZ; rw [List.map_append]; rfl
      refine St.nil (P := Then c [] _) (St.nil ⟨led8.filter fun p => p.1 != I, (turn_cut hI8).1, (turn_cut hI8).2, hm4, ?_, ?_⟩)
      · rw [htf, keysOf_snoc, hkr]
        refine ⟨F, K2, nf + 1, 0, _, kvs ++ outs, xr, xo, xf, xk', ir, io, jf, hxk', kp _ (s8 _ mr5 cn.2.1) (ha _ mr I (.head _)), kp _ (s8 _ mo5 cn.2.2.2.1) (ha _ mo I (.head _)), kp _ (s8 _ mf5 cn.2.2.2.2) (ha _ mf I (.head _)), kp _ hk8 hIc.symm,
          kp _ (s8 _ hF5 gF.2.2.2) hIF.symm, kp _ hK8 (Nat.ne_of_gt fI2), fF, fK2, Nat.ne_of_lt fF2, ?_, hk.append' hou, fun p hp => kp _ (s8 _ (b5 p hp) (cells_lt (l1 p hp)).2.2.2) (ha p (base p hp) I (.head _))⟩
        rw [hnat]
        exact hf.append (.cons _ _ .nil)
      · rw [htf, keysOf_snoc, hkr, List.length_append]
        have := newKey_len (ks := keysOf rs (List.filter (visR rs o0 call st ord) (List.take i ls))) (k := r.key)
        omega
    · rw [hb, if_neg Bool.false_ne_true, List.append_nil] at htf
      refine St.nil ⟨led2, s3, ha, hm4, ?_, ?_⟩
      · rw [htf]; exact hv
      · rw [htf]; omega
  case done =>
    rintro m2 led2 ⟨_, hv, hz⟩
    rw [hll, List.take_length] at hv
    clear hv0 hz
    have hfb : ∀ j ∈ ls.filter (visR rs o0 call st ord), j < rs.length ∧ inOrd rs ord j = true := fun j hj => by
      obtain ⟨h1, h2⟩ := List.mem_filter.mp hj
      refine ⟨H.lb j h1, ?_⟩
      have h3 := (Bool.and_eq_true_iff.mp (Bool.and_eq_true_iff.mp h2).1).1
      obtain ⟨x, hx, e⟩ := List.any_eq_true.mp h3
      exact List.any_eq_true.mpr ⟨x, List.mem_of_mem_drop hx, e⟩
    have hk3 : (keysOf rs (ls.filter (visR rs o0 call st ord))).length ≤ 3 := by
      obtain ⟨K3, h1, h2⟩ := hK3
      have hk := keysOf_ok (rs := rs) (ls.filter (visR rs o0 call st ord)) [] .nil
      refine Nat.le_trans (nodup_len _ K3 hk.1 fun k hk' => ?_) h1
      rcases (hk.2 k).mp hk' with h | ⟨j, hj, rfl⟩
      · exact nomatch h
      · exact h2 j (List.mem_filter.mp hj).1 (List.mem_filter.mp hj).2
    have hkm : ∀ k ∈ keysOf rs (ls.filter (visR rs o0 call st ord)), ∃ j ∈ ls.filter (visR rs o0 call st ord), keyR rs j = k := fun k hk' => by
      have hk := keysOf_ok (rs := rs) (ls.filter (visR rs o0 call st ord)) [] .nil
      rcases (hk.2 k).mp hk' with h | h
      · exact nomatch h
      · exact h
    have hfl := List.length_filter_le (visR rs o0 call st ord) ls
    generalize ls.filter (visR rs o0 call st ord) = fs at hv hfb hk3 hkm hfl ⊢
    have hvis := fun ds ps => visOk (rs := rs) (ord := ord) (fs := fs) (ds := ds) (ps := ps)
    generalize keysOf rs fs = ks at hv hk3 hkm hvis
    obtain ⟨F, K, nf, nk, fvs, kvs, xr, xo, xf, xk, ir, io, jf, jk, mr, mo, mf, mk, hF, hK, fF, fK, ne, hf, hk, base⟩ := hv
    have hkl : kvs.length = ks.length := hk.length
    refine St.comp true (cl := [((Str.ofString "rows"), c.L + 1), ((Str.ofString "order"), c.L + 1 + 1), ((Str.ofString "found"), c.L + 1 + 1 + 1)]) (P := fun D nD outs ledJ => ∃ ds, IntsAre outs (natZ ds) ∧ Due rs ord fs ks ds ∧ ∀ p ∈ led2, p ∈ ledJ)
      O (by rw [he]; rfl) (by rw [he]; rfl) ⟨fun _ _ => rfl, fun _ => rfl⟩ rfl (by decide +kernel) (fun C => by rw [he]; rfl) kD
      (Tr.mono (Ev.cell (d := .ref K) O kK xK mk jk rfl) fun v m' led' ⟨h1, h2, h3⟩ => ⟨h2, K, false, kvs, nk, fun i outs led3 => ∃ ds, IntsAre outs (natZ ds) ∧ Due rs ord fs (ks.take i) ds ∧ ∀ p ∈ led2, p ∈ led3,
        h1, by omega, ⟨[], .nil, .nil, fun p hp => h3 ▸ hp⟩, fun i outs led' ⟨_, _, _, hb⟩ => hb _ hK, ?turn3, ?done3⟩) ?rest3
    case done3 =>
      rintro D nD outs ledJ ⟨ds, h1, h2, hb⟩ _ _
      rw [hkl, List.take_length] at h2
      exact ⟨ds, h1, h2, hb⟩
    case turn3 =>
      rintro c' m3 i u outs ledJ D I oI oc nD hw' O' he' hu ⟨ds, hds, hdu, hb⟩ ha ho hoc
      obtain ⟨k, tk, rfl, hki⟩ := hk.item i u hu
      generalize hl3 : (D, listOf outs.toArray nD) :: (I, oI) :: (c'.L + 1, oc) :: ledJ = led3
      have s3 : ∀ p ∈ led2, p ∈ led3 := fun p hp => hl3 ▸ .tail _ (.tail _ (.tail _ (hb p hp)))
      have y3 : (c'.L + 1, oc) ∈ led3 := hl3 ▸ .tail _ (.tail _ (.head _))
      have k1 : c'.env.kindOf (Str.ofString "rows") = some .cell := by rw [he', he]; rfl
      have k2 : c'.env.kindOf (Str.ofString "order") = some .cell := by rw [he', he]; rfl
      have k3 : c'.env.kindOf (Str.ofString "found") = some .cell := by rw [he', he]; rfl
      have k4 : c'.env.kindOf (Str.ofString "_law_least") = some .globalImplicit := by rw [he', he]; rfl
      have x1 : c'.env.cells.lookup (Str.ofString "rows") = some (c.L + 1) := by rw [he']; rfl
      have x2 : c'.env.cells.lookup (Str.ofString "order") = some (c.L + 1 + 1) := by rw [he']; rfl
      have x3 : c'.env.cells.lookup (Str.ofString "found") = some (c.L + 1 + 1 + 1) := by rw [he']; rfl
      refine .celled hl3 true .nil nofun fun _ => ?_
      refine Tr.mono (Tr.callI (Q := fun v m' led' => (∀ p ∈ led3, p ∈ led') ∧ ∃ z, (Dm.int z).Is v ∧ Least rs ord (fs.filter fun x => keyR rs x == k) z) O' (glob_ O' k4 (glob179 _)) (keep179 _) (Its.ev (.cell (d := .ref R) O' k1 x1 (s3 _ mr) ir rfl) fun v1 hv1 => Its.ev (.cell (d := .ref Oa) O' k2 x2 (s3 _ mo) io rfl) fun v2 hv2 =>
        Its.cons (Tr.nums (cl := [((Str.ofString "rows"), c.L + 1), ((Str.ofString "key"), c'.L + 1)]) (ws := fs) (pr := fun x => keyR rs x == k) O' (by rw [he', he]; rfl) ⟨fun _ _ => rfl, fun _ => rfl⟩ rfl (by decide +kernel) (fun C => by rw [he', he]; rfl) (by omega) ?iter4 ?test4) fun v3 m4 led4 ⟨e3, D2, vs2, n2, e4, e5, e6⟩ => Its.nil ?call4)) ?_
      case iter4 => exact Tr.mono (Ev.cell (d := .ref F) O' k3 x3 (s3 _ mf) jf rfl) fun v m' led' ⟨h1, h2, h3⟩ => ⟨h2, F, fvs, nf, h1, h3 ▸ s3 _ hF, hf, fun p hp => h3 ▸ hp⟩
      case test4 =>
        intro c2 m4 led4 j t hj hw2 O2 he2 hm4 s4
        obtain ⟨r', hr'⟩ : ∃ r, rs[j]? = some r := ⟨_, List.getElem?_eq_getElem (hfb j hj).1⟩
        obtain ⟨a', hra', hea'⟩ := H.rows.at hr'
        have ek : keyR rs j = r'.key := by unfold keyR; rw [hr']; rfl
        rw [ek]
        exact .one (.cmp (.get (hea' (fun p hp => s4 p (s3 p (base p hp))) (.cell O2 (by rw [he2, he', he]; rfl) (by rw [he2]; rfl) (s4 _ (s3 _ mr)) ir rfl) (.loc O2 (by rw [he2, he', he]; rfl) hm4 ⟨t, rfl⟩) (by intro _; with_unfolding_all rfl)) .str_ (by rw [hw2, hw']; exact hra'.mono fun p hp => s4 p (s3 p (base p hp))) (.tail _ (.tail _ (.tail _ (.head _)))))
          (.cell (d := .str k) O2 (by rw [he2, he', he]; rfl) (by rw [he2]; rfl) (s4 _ y3) hoc ⟨tk, rfl⟩) .eqStr)
      case call4 =>
        cases hv1; cases hv2; subst e3; subst e4; subst e5
        exact Tr.mono (least_fn c'.w (hw' ▸ H.rows.mono fun p hp => .tail _ (s3 p (base p hp))) (.tail _ (s3 _ (base _ hO))) hOi H.oz (.head _) e6 (fun j hj => (hfb j (List.mem_filter.mp hj).1).1)
          (Nat.le_trans (List.length_filter_le _ _) (by omega)) c' _ rfl (O'.less (by decide))) fun v m' led' ⟨h1, h2, h3⟩ => ⟨fun p hp => h2 ▸ .tail _ hp, h3⟩
      rintro v m' led4 ⟨s4, z, ⟨tz, rfl⟩, hle⟩
      obtain ⟨j0, hj0, hj0k⟩ := hkm k (List.mem_of_getElem? hki)
      rcases hle with ⟨_, h2⟩ | ⟨d, hd1, hd2, rfl, hd4⟩
      · have := h2 j0 (List.mem_filter.mpr ⟨hj0, beq_iff_eq.mpr hj0k⟩)
        rw [(hfb j0 hj0).2] at this
        exact nomatch this
      refine ⟨ledJ, fun p hp => s4 p (hl3 ▸ hp), ha, ds ++ [d], ?_, ?_, hb⟩
      · unfold natZ
        rw [List.map_append]
        exact hds.append (.cons _ _ .nil)
      · rw [List.take_add_one, hki]
        obtain ⟨h1, h2⟩ := List.mem_filter.mp hd1
        exact hdu.snoc h1 (eq_of_beq h2) fun x hx e => hd4 x (List.mem_filter.mpr ⟨hx, beq_iff_eq.mpr e⟩) (hfb x hx).2
    case rest3 =>
      rintro D nD outs ledJ ⟨ds, hds, hdu, hb⟩
      have hdl : ds.length ≤ 3 := by rw [← hdu.keys, List.length_map] at hk3; exact hk3
      have hol : outs.length = ds.length := by rw [hds.length, List.length_map]
      have qd : upd m2 (Str.ofString "due") (.ref D) (Str.ofString "due") = some (.ref D) := upd_at
      generalize upd m2 (Str.ofString "due") (.ref D) = m3 at qd ⊢
      generalize hl3 : (D, listOf outs.toArray nD) :: ledJ = led3
      have hD3 : (D, listOf outs.toArray nD) ∈ led3 := hl3 ▸ .head _
      have s3 : ∀ p ∈ led2, p ∈ led3 := fun p hp => hl3 ▸ .tail _ (hb p hp)
      clear hl3
      refine St.ret (Tr.drop (Tr.comp false (cl := []) (P := fun D nD outs ledJ => ∃ ps : List (Int × Int), IntsAre outs (ps.map (·.2)) ∧ ps.Perm (ds.map (rankZ rs ord)) ∧ (ps.Pairwise fun a b => lexB b.1 b.2 a.1 a.2 = false) ∧ ∀ p ∈ led2, p ∈ ledJ)
        O (by rw [he]; rfl) ⟨fun _ _ => rfl, fun _ => rfl⟩ rfl (by decide +kernel) (fun C => by rw [he]; rfl)
        (Tr.bcall (P1 := fun v m' led' => m' = m3 ∧ ∃ D1 as n1, v = .ref D1 ∧ (D1, listOf (refsOf as).toArray n1) ∈ led' ∧ PairsAt led' as (ds.map (rankZ rs ord)) ∧ ∀ p ∈ led3, p ∈ led') O (by rw [he]; rfl) (nsSorted _) boot_sorted (by decide) ?tups fun v m' led' hP => ?sorts)) ?fin)
      case tups =>
        refine Tr.mono (Tr.comp false (cl := [((Str.ofString "rows"), c.L + 1), ((Str.ofString "order"), c.L + 1 + 1)]) (P := fun D nD outs ledJ => ∃ as, outs = refsOf as ∧ PairsAt ledJ as (ds.map (rankZ rs ord)) ∧ ∀ p ∈ led3, p ∈ ledJ)
          O (by rw [he]; rfl) ⟨fun _ _ => rfl, fun _ => rfl⟩ rfl (by decide +kernel) (fun C => by rw [he]; rfl)
          (Tr.mono (Ev.loc (d := .ref D) O kD qd rfl) fun v m' led' ⟨h1, h2, h3⟩ => ⟨h2, D, false, outs, nD, fun i outs led4 => ∃ as, outs = refsOf as ∧ PairsAt led4 as ((ds.take i).map (rankZ rs ord)) ∧ ∀ p ∈ led3, p ∈ led4,
            h1, by omega, ⟨[], rfl, ⟨rfl, fun _ _ _ h => nomatch h⟩, fun p hp => h3 ▸ hp⟩, fun i outs led' ⟨_, _, _, hb⟩ => hb _ hD3, ?turn5, ?done5⟩)) ?_
        case done5 =>
          rintro D1 n1 outs1 ledK ⟨as, e, hp, hb1⟩ _ _
          rw [hol, List.take_length] at hp
          exact ⟨as, e, hp, hb1⟩
        case turn5 =>
          rintro c' m4 i u outs1 ledK D1 I oI oc n1 hw' O' he' hu ⟨as, rfl, hp, hb1⟩ ha ho _
          obtain ⟨j, t, rfl, hj⟩ := natAt hds hu
          obtain ⟨hjf, _⟩ := hdu.mem j (List.mem_of_getElem? hj)
          obtain ⟨r, hr⟩ : ∃ r, rs[j]? = some r := ⟨_, List.getElem?_eq_getElem (hfb j hjf).1⟩
          have hsp : spotZ rs j = (r.spot : Nat) := by unfold spotZ; rw [hr]; rfl
          generalize hl4 : (D1, listOf (refsOf as).toArray n1) :: (I, oI) :: ledK = led4
          have s4 : ∀ p ∈ led2, p ∈ led4 := fun p hp => hl4 ▸ .tail _ (.tail _ (hb1 p (s3 p hp)))
          have n1' {p} : Ev c' (upd m4 (Str.ofString "number") (.int (j : Nat) t)) led4 (.Name (Str.ofString "number") p) (.int (j : Nat)) := .loc O' (by rw [he', he]; rfl) upd_at ⟨t, rfl⟩
          have n2 {p} : Ev c' (upd m4 (Str.ofString "number") (.int (j : Nat) t)) led4 (.Name (Str.ofString "rows") p) (.ref R) := .cell O' (by rw [he', he]; rfl) (by rw [he']; rfl) (s4 _ mr) ir rfl
          have n3 {p} : Ev c' (upd m4 (Str.ofString "number") (.int (j : Nat) t)) led4 (.Name (Str.ofString "order") p) (.ref Oa) := .cell O' (by rw [he', he]; rfl) (by rw [he']; rfl) (s4 _ mo) io rfl
          have hR4 : RowsAt c'.w led4 R rs := hw' ▸ H.rows.mono fun p hp => s4 p (base p hp)
          have n4 {p p1 p2 p3 p4 n} : Ev c' (upd m4 (Str.ofString "number") (.int (j : Nat) t)) led4 (.Subscript (.Subscript (.Name (Str.ofString "rows") p1) (.Name (Str.ofString "number") p2) p) (.Constant (.str (Str.ofString "at")) n p3) p4) (.int (spotZ rs j)) := by
            obtain ⟨a, h2, h1⟩ := hR4.at hr
            exact hsp ▸ (h1 (fun _ hp => hp) n2 n1' (by intro _; with_unfolding_all rfl)).get .str_ h2 (.head _)
          have hin : spotZ rs j ∈ ord := by
            obtain ⟨x, hx, e⟩ := List.any_eq_true.mp (hfb j hjf).2
            exact eq_of_beq e ▸ hx
          refine .plain hl4 true .nil nofun fun _ => Tr.tuple (Its.ev (Ev.indexInts O' n3 n4 (s4 _ (base _ hO)) hOi hin H.oz) fun v1 hv1 => Its.ev n1' fun v2 hv2 => Its.nil ⟨show 2 ≤ 1000 by decide, fun l hl => ?_⟩)
          obtain ⟨u1, rfl⟩ := hv1
          obtain ⟨u2, rfl⟩ := hv2
          have cp := comp_push (x := (l, tupOf [.int (ord.idxOf (spotZ rs j) : Nat) u1, .int (j : Nat) u2])) hl4 hl ha
          refine ⟨_, cp.1, cp.2, as ++ [l], by simp [refsOf], ?_, fun p hp => .tail _ (hb1 p hp)⟩
          rw [List.take_add_one, hj, List.map_append]
          exact PairsAt.snoc (p := rankZ rs ord j) (hp.mono fun p hp => .tail _ hp) (.head _)
        rintro v m' led' ⟨rfl, D1, n1, _, ledK, rfl, rfl, as, rfl, hp, hb1⟩
        exact ⟨rfl, D1, as, n1, rfl, .head _, hp.mono fun p hp => .tail _ hp, fun p hp => .tail _ (hb1 p hp)⟩
      case sorts =>
        obtain ⟨rfl, D1, as, n1, rfl, hD1, hp, hs1⟩ := hP
        have hal : as.length ≤ 3 := by rw [hp.1, List.length_map]; exact hdl
        refine Tr.mono (Tr.sortPairs O hD1 hp hal) ?_
        rintro v m' led3' ⟨rfl, D', as', ps', n', rfl, rfl, hD', hp', hperm, hrow⟩
        have hpl : as'.length = ps'.length := hp'.1
        have hpl2 : ps'.length ≤ 3 := by rw [hperm.length_eq, List.length_map]; exact hdl
        refine ⟨rfl, D', false, refsOf as', n', fun i outs led4 => IntsAre outs ((ps'.take i).map (·.2)) ∧ ∀ p ∈ (D', listOf (refsOf as').toArray n') :: led', p ∈ led4, rfl, by rw [refsOf_len]; omega, ⟨.nil, fun p hp => hp⟩, fun _ _ _ h => h.2 _ (.head _), ?_, ?_⟩
        · rintro c' m4 i u outs1 ledK D2 I oI oc n2 hw' O' he' hu ⟨hi, hb1⟩ ha ho _
          rw [refsOf_get] at hu
          obtain ⟨a, hai, rfl⟩ := Option.map_eq_some_iff.mp hu
          have hil := (List.getElem?_eq_some_iff.mp hai).1
          obtain ⟨q, hpi⟩ : ∃ q, ps'[i]? = some q := ⟨_, List.getElem?_eq_getElem (hpl ▸ hil)⟩
          obtain ⟨u1, u2, hm⟩ := hp'.2 i a q hai hpi
          refine .plain rfl true .nil nofun fun _ => Tr.tupAt (Tr.mono (Ev.loc (d := .ref a) O' (by rw [he', he]; rfl) upd_at rfl) ?_)
          rintro v m5 led5 ⟨h1, rfl, rfl⟩
          cases h1
          refine ⟨a, [.int q.1 u1, .int q.2 u2], rfl, Tr.mono (Ev.int_ (c := c')) ?_⟩
          rintro v2 m6 led6 ⟨⟨t2, rfl⟩, _, rfl⟩
          refine ⟨.tail _ (.tail _ (hb1 _ (.tail _ hm))), 1, t2, .int q.2 u2, rfl, by decide, show (1 : Int) < 2 by decide, show 2 ≤ 1000 by decide, rfl, ledK, fun p hp => hp, ha, ?_, hb1⟩
          rw [List.take_add_one, hpi, List.map_append]
          exact hi.append (.cons _ _ .nil)
        · rintro D2 n2 outs1 ledK ⟨h1, hb1⟩ _ _
          rw [refsOf_len, hpl, List.take_length] at h1
          exact ⟨ps', h1, hperm, hrow, fun p hp => hb1 p (.tail _ (hs1 p (s3 p hp)))⟩
      case fin =>
        rintro v m' led' ⟨_, D2, n2, outs2, ledK, rfl, rfl, ps, h1, h2, h3, h4⟩
        obtain ⟨ns, e1, e2⟩ := hvis ds ps hdu h2 h3
        refine ⟨(D2, listOf outs2.toArray n2) :: led, ⟨ns, ⟨D2, outs2, n2, rfl, rfl, e1 ▸ h1⟩, e2⟩, fun p hp => ?_⟩
        rcases List.mem_cons.mp hp with rfl | hp
        · exact .head _
        · exact .tail _ (h4 p (base p hp))
section
variable {c : Cx} {m : Map} {led : Led} {e : Expr} {d : Dm} {pos : Pos} {x : Str} {k kk : Nat} {C a dx : Addr} {f : Map}
/-- a value of the text's own that stands among the globals -/
theorem globV {v : Value} (O : c.Ok k) (hk : c.env.kindOf x = some .globalImplicit) (hn : nsIn (KH c.w.params) mainGlobals x = some (some v)) (hd : d.Is v)
    (hx : (x == ("__debug__" : Str)) = false := by decide) : Ev c m led (.Name x pos) d := by
  intro s F N
  obtain ⟨p, loose, mean, mg, mb, T⟩ := O.T
  exact Name_function_global O.kind hk (loadGlobal_global (by rw [O.glob]; exact (topRead_of T).g.keeps F.keep) (mg_of O.X (topRead_of T).g hn) (.mk ⟨hd, rfl, rfl⟩ F N)) hx
theorem Ev.own {v : Value} (O : c.Ok k) (h : Ev c m led e (.ref a)) (ho : OwnF C led a dx f kk) (hv : f x = some v) (hd : d.Is v) (hp : plainGet (KH c.w.params) C x = true) (hh : hasDictIn (KH c.w.params) C = true) (hc : findIn (KH c.w.params) (.ref C) x = some none)
    (hs : eval (e.Attribute x pos) c.env = (do let o ← eval e c.env; standAt pos.atName; let r ← holding [o] (getAttr o x true); letTemporaryGo e o r; pure r) := by rfl) : Ev c m led (.Attribute e x pos) d := by
  intro s F N
  obtain ⟨es, n, h1, h2, _, h3, _, h4⟩ := ho
  refine Attribute_any_ (h.use F N fun o h' tk ho F' N' => ?_) hs
  cases ho
  exact get_own F' O.X (InstAt.of_news N' h1 h2) hp hh hc rfl (by rw [h3.getL, h4, hv]) hd.handed (.mk ⟨hd, rfl, rfl⟩ F' N')
end
noncomputable def names132 : List Str := [(Str.ofString "kind"), (Str.ofString "line"), (Str.ofString "name"), (Str.ofString "kids"), (Str.ofString "more"), (Str.ofString "height")]
theorem taker132 (P : Params) : (names132.map fun x => takerIn (KH P) 132 x) = List.replicate 6 (some none) := by kernel_rfl
theorem dict132 (P : Params) : hasDictIn (KH P) 132 = true := by kernel_rfl
theorem plain132 {x : Str} (h : names132.contains x = true) : Plain 132 x where
  s := fun P => by kernel_rfl
  p := fun P => by kernel_rfl
  t := fun P => List.eq_of_mem_replicate (taker132 P ▸ List.mem_map_of_mem (f := fun x => takerIn (KH P) 132 x) (List.contains_iff_mem.mp h))
  d := dict132
theorem get132 (P : Params) : plainGet (KH P) 132 (Str.ofString "height") = true := by unfold plainGet; kernel_rfl
theorem cls132 (P : Params) : findIn (KH P) (.ref 132) (Str.ofString "height") = some none := by kernel_rfl
theorem nsMost (P : Params) : nsIn (KH P) mainGlobals (Str.ofString "MOST_HEIGHT") = some (some (.int 120 368)) := by kernel_rfl
theorem syn_fn (w : World) {a dx lk : Addr} {K N : Str} {ln : Int} {tk tn tl : Tok} {led0 : Led} (hne : a ≠ dx) (hd : ∀ p ∈ led0, p.1 ≠ dx) (hk : (lk, listOf [].toArray 0) ∈ led0) :
    FnC w 129 [.ref a, .str K tk, .int ln tl, .str N tn, .ref lk, .none] ((a, instObj 132 dx) :: (dx, dictOf [] 0) :: led0) 1 (fun led' v => v = .none ∧ ∀ p ∈ led0, p ∈ led') := by
  have e0 : Challenge.rw_sa0304_01 = Challenge.rw_sa0304_01 ∧ KH = KH := ⟨rfl, rfl⟩
  revert e0; k_fill; intro _
  k_dflt (refine' FnC.enter (binds := [(Str.ofString "self", .ref a), (Str.ofString "kind", .str K tk), (Str.ofString "line", .int ln tl), (Str.ofString "name", .str N tn), (Str.ofString "kids", .ref lk), (Str.ofString "more", .none)]) ?ho ?hcd ?hb ?hl ?c2 ?c3 ?c4 ?c5 ?_; (case ho => k_is); (case hcd => k_is); (case hb => exact fun s => BindsTo.of_eq rfl); (case hl => exact locs rfl); (case c2 => exact rfl); (case c3 => exact rfl); (case c4 => exact rfl); (case c5 => decide))
  intro c hw O he l1
  generalize hm0 : (fun y => List.lookup y [((Str.ofString "self"), Value.ref a), ((Str.ofString "kind"), Value.str K tk), ((Str.ofString "line"), Value.int ln tl), ((Str.ofString "name"), Value.str N tn), ((Str.ofString "kids"), Value.ref lk), ((Str.ofString "more"), Value.none)].reverse) = m0
  have q0 : m0 (Str.ofString "self") = some (.ref a) := by subst hm0; rfl
  have q1 : m0 (Str.ofString "kind") = some (.str K tk) := by subst hm0; rfl
  have q2 : m0 (Str.ofString "line") = some (.int ln tl) := by subst hm0; rfl
  have q3 : m0 (Str.ofString "name") = some (.str N tn) := by subst hm0; rfl
  have q4 : m0 (Str.ofString "kids") = some (.ref lk) := by subst hm0; rfl
  have q5 : m0 (Str.ofString "more") = some .none := by subst hm0; rfl
  clear hm0
  have k0 : c.env.kindOf (Str.ofString "self") = some .local := by rw [he]; rfl
  have k1 : c.env.kindOf (Str.ofString "kind") = some .local := by rw [he]; rfl
  have k2 : c.env.kindOf (Str.ofString "line") = some .local := by rw [he]; rfl
  have k3 : c.env.kindOf (Str.ofString "name") = some .local := by rw [he]; rfl
  have k4 : c.env.kindOf (Str.ofString "kids") = some .local := by rw [he]; rfl
  have k5 : c.env.kindOf (Str.ofString "more") = some .local := by rw [he]; rfl
  have k6 : c.env.kindOf (Str.ofString "kid") = some .local := by rw [he]; rfl
  have k7 : c.env.kindOf (Str.ofString "MOST_HEIGHT") = some .globalImplicit := by rw [he]; rfl
  have nS {p} : ∀ led, Ev c m0 led (.Name (Str.ofString "self") p) (.ref a) := fun led => .loc O k0 q0 rfl
  have J : IJ 132 a dx (fun _ => none) 0 led0 ((a, instObj 132 dx) :: (dx, dictOf [] 0) :: led0) := ⟨⟨[], 0, .head _, .tail _ (.head _), hne, .nil, Nat.le_refl _, fun _ => rfl⟩, fun p hp => .tail _ (.tail _ hp), hd⟩
  refine init_ev O (plain132 (by decide +kernel)) nS (fun _ => .loc (d := .str K) O k1 q1 ⟨tk, rfl⟩) J (by decide) fun u0 led0 h0 J => ?_
  refine init_ev O (plain132 (by decide +kernel)) nS (fun _ => .loc (d := .int ln) O k2 q2 ⟨tl, rfl⟩) J (by decide) fun u1 led1 h1 J => ?_
  refine init_ev O (plain132 (by decide +kernel)) nS (fun _ => .loc (d := .str N) O k3 q3 ⟨tn, rfl⟩) J (by decide) fun u2 led2 h2 J => ?_
  refine init_ev O (plain132 (by decide +kernel)) nS (fun _ => .loc (d := .ref lk) O k4 q4 rfl) J (by decide) fun u3 led3 h3 J => ?_
  refine init_ev O (plain132 (by decide +kernel)) nS (fun _ => .loc (d := .none) O k5 q5 rfl) J (by decide) fun u4 led4 h4 J => ?_
  refine init_ev O (plain132 (by decide +kernel)) nS (fun _ => .int_) J (by decide) fun u5 led5 h5 J => ?_
  obtain ⟨t5, rfl⟩ := h5
  refine St.for_ O k6 (Tr.mono (Ev.loc (d := .ref lk) O k4 q4 rfl) fun v m' led' ⟨e1, e2, e3⟩ => ⟨lk, false, [], 0, fun _ m2 led2 => m2 = m0 ∧ led2 = led5, e1, ⟨e2, e3⟩, fun i m2 led2 ⟨_, h⟩ => h ▸ J.keep _ hk, fun i u m2 led2 I oI hu => (nomatch hu), ?_⟩)
  rintro m2 led2 ⟨rfl, rfl⟩
  refine St.if0 (b := false) (.cmp (.own (d := .int 1) O (nS _) J.own rfl ⟨t5, rfl⟩ (get132 _) (dict132 _) (cls132 _)) (globV (d := .int 120) O k7 (nsMost _) ⟨_, rfl⟩) (show CmpD _ _ _ _ _ _ (decide ((120 : Int) < 1)) from .gtInt)) (fun hb => nomatch hb) fun _ => ?_
  exact St.nil ⟨rfl, fun p hp => J.keep p hp⟩
theorem makes132 (P : Params) : makesIn (KH P) 132 = true := by kernel_rfl
theorem init132 (P : Params) : findIn (KH P) (.ref 132) "__init__" = some (some (.ref 129)) := by kernel_rfl
theorem isFn129 (P : Params) : isFn (KH P) (.ref 129) = true := by kernel_rfl
theorem keep132 (P : Params) : keepIn (KH P) (.ref 132) = true := by kernel_rfl
theorem glob132 (P : Params) : nsIn (KH P) mainGlobals (Str.ofString "Syn") = some (some (.ref 132)) := by kernel_rfl
theorem Tr.newSyn {c : Cx} {m : Map} {led : Led} {k : Nat} {K N : Str} {ln : Int} {lk : Addr} {tk tn tl : Tok} (O : c.Ok (k + 2)) (hk : (lk, listOf [].toArray 0) ∈ led) : Tr c m led (PySem.call (.ref 132) [.str K tk, .int ln tl, .str N tn, .ref lk, .none]) fun v m' led' => m' = m ∧ ∃ a, v = .ref a ∧ ∀ p ∈ led, p ∈ led' :=
  Tr.make (k := 1) (O.less (by omega)) (makes132 _) (init132 _) (isFn129 _) fun x dx hd hx => fun c' m' s R hw O' F N hR => syn_fn c.w (Nat.ne_of_gt hx) (fun p hp => Nat.ne_of_lt (hd p hp)) hk c' m' s R hw O' F N fun v led' h' tk ⟨h1, h2⟩ F' N' => hR v led' h' tk ⟨h1, rfl, x, rfl, h2⟩ F' N'
section
variable {c : Cx} {m : Map} {led : Led} {e1 : Expr} {es : List Expr} {p2 : Pos} {x : Str} {k kk : Nat} {C a dx : Addr} {f : Map}
theorem Asg.attr {P : Map → Led → Prop} {v : Value} {vs : List Value} (O : c.Ok k) (hC : Plain C x) (he : Ev c m led e1 (.ref a)) (ho : OwnF C led a dx f kk) (hk : kk ≤ 500) (hn : ∀ led2, (∀ p ∈ led, p.1 ≠ dx → p ∈ led2) → OwnF C led2 a dx (upd f x v) (kk + 1) → Asg c m led2 es vs P) :
    Asg c m led (.Attribute e1 x p2 :: es) (v :: vs) P := fun s F N => by
  refine wpAny_bind (wpAny_holding ?_)
  show wpAny c.M c.A (assign (.Attribute e1 x p2) c.env v) _ _ _
  rw [assign_Attribute]
  refine wpAny_bind (wpAny_holding (he.use F N fun v2 h2 tk2 i2 F2 N2 => wpAny_bind (wpAny_standAt (wpAny_bind (wpAny_holding ?_)))))
  cases i2
  obtain ⟨es', n, h1, h3, hne, h4, h5, h6⟩ := ho
  obtain ⟨q1, q2, q3⟩ := h4.put x (PyData.keyHash c.w.params x) (tk2 + 1) v
  obtain ⟨N3, U, _⟩ := put_upd (o' := dictOf (putL x (PyData.keyHash c.w.params x) (.str x (tk2 + 1)) v es') (putN x es' n)) N2 h3
  refine set_dict (s := ⟨h2, s.gens, s.drawn, tk2, s.os⟩) F2 O.X N3 (InstAt.of_news N2 h1 h3) rfl (hC.s _) (hC.p _) (hC.t _) (hC.d _) (by rw [h4.getL]; rfl) rfl U (Nat.le_trans q2 (by omega)) fun h8 F8 N8 => ?_
  refine wpAny_release (Tr.use (hn _ (fun p hp hq => put_ne hp hq) ⟨_, _, put_ne h1 hne, .head _, hne, q1, by omega, fun y => ?_⟩) (s := ⟨h8, _, _, _, _⟩) F8 N8 fun _ m3 led3 h9 tk9 hp F9 N9 => .mk hp F9 N9)
  rw [q3 y, h6 y]
  rfl
end
/-- what a built declaration's own dict says -/
structure MemF (f : Map) (r : Row) (ov : Value) : Prop where
  kind : ∃ t, f (Str.ofString "kind") = some (.str r.sort t)
  name : ∃ t, f (Str.ofString "name") = some (.str r.call t)
  key : ∃ t, f (Str.ofString "key") = some (.str r.key t)
  word : ∃ t, f (Str.ofString "word") = some (.str r.duty t)
  visibility : ∃ t, f (Str.ofString "visibility") = some (.str r.seen t)
  body : if r.full = true then ∃ b, f (Str.ofString "body") = some (.ref b) else f (Str.ofString "body") = some .none
  owner : f (Str.ofString "owner") = some ov
theorem p59 {x : Str} (h : names59.contains x = true) : Plain 59 x := plain59 h
theorem keep167 (P : Params) : keepIn (KH P) (.ref 167) = true := by kernel_rfl
theorem glob167 (P : Params) : nsIn (KH P) mainGlobals (Str.ofString "_law_decl") = some (some (.ref 167)) := by kernel_rfl
theorem decl_fn (w : World) {ra ow : Addr} {r : Row} {nm : Str} {n : Nat} {tn : Tok} {led : Led} (hR : RowAt w led ra r) (hk : r.key.length ≤ 200) (hw0 : AttrD led ow (Str.ofString "name") (.str nm)) (hnm : nm.length ≤ 200) :
    Fn w 167 [.ref ra, .ref ow, .int (n : Nat) tn] led 4 (fun led' v => ∃ a dx f kk, v = .ref a ∧ OwnF 59 led' a dx f kk ∧ kk ≤ 100 ∧ MemF f r (.ref ow) ∧ ∀ p ∈ led, p ∈ led' ∧ p.1 ≠ a ∧ p.1 ≠ dx) := by
  have e0 : Challenge.rw_sa0304_01 = Challenge.rw_sa0304_01 ∧ KH = KH := ⟨rfl, rfl⟩
  revert e0; k_fill; intro _
  k_dflt (refine' Fn.enter (binds := [(Str.ofString "row", .ref ra), (Str.ofString "owner", .ref ow), (Str.ofString "number", .int (n : Nat) tn)]) ?ho ?hcd ?hb ?hl ?c2 ?c3 ?c4 ?c5 ?_; (case ho => k_is); (case hcd => k_is); (case hb => exact fun s => BindsTo.of_eq rfl); (case hl => exact locs rfl); (case c2 => exact rfl); (case c3 => exact rfl); (case c4 => exact rfl); (case c5 => decide))
  intro c hw O he l1
  subst hw
  generalize hm0 : (fun y => List.lookup y [((Str.ofString "row"), Value.ref ra), ((Str.ofString "owner"), Value.ref ow), ((Str.ofString "number"), Value.int (n : Nat) tn)].reverse) = m0
  have q1 : m0 (Str.ofString "row") = some (.ref ra) := by subst hm0; rfl
  have q2 : m0 (Str.ofString "owner") = some (.ref ow) := by subst hm0; rfl
  have q3 : m0 (Str.ofString "number") = some (.int (n : Nat) tn) := by subst hm0; rfl
  clear hm0
  have kR : c.env.kindOf (Str.ofString "row") = some .local := by rw [he]; rfl
  have kO : c.env.kindOf (Str.ofString "owner") = some .local := by rw [he]; rfl
  have kN : c.env.kindOf (Str.ofString "number") = some .local := by rw [he]; rfl
  have kD : c.env.kindOf (Str.ofString "decl") = some .local := by rw [he]; rfl
  have kC : c.env.kindOf (Str.ofString "Decl") = some .globalImplicit := by rw [he]; rfl
  have kS : c.env.kindOf (Str.ofString "Syn") = some .globalImplicit := by rw [he]; rfl
  refine St.setT (P1 := fun v m' led' => m0 = m' ∧ ∃ a dx lm ll f, v = .ref a ∧ FreshD led led' a dx lm ll f r.sort r.call) O kD (Tr.callI O (glob_ O kC (glob59 _)) (keep59 _) (Its.ev (.get (.loc (d := .ref ra) O kR q1 rfl) .str_ hR (.tail _ (.head _))) fun v1 hv1 => Its.ev (.get (.loc (d := .ref ra) O kR q1 rfl) .str_ hR (.tail _ (.tail _ (.head _)))) fun v2 hv2 =>
    Its.ev (.add .int_ (.loc (d := .int (n : Nat)) O kN q3 ⟨tn, rfl⟩)) fun v3 hv3 => Its.nil ?call)) ?_
  case call =>
    obtain ⟨t1, rfl⟩ := hv1; obtain ⟨t2, rfl⟩ := hv2; obtain ⟨t3, rfl⟩ := hv3
    exact Tr.mono (Tr.newDecl (k := 1) O) fun v m' led' ⟨h1, h2⟩ => ⟨h1.symm, h2⟩
  rintro v _ led1 ⟨rfl, a, dx, lm, ll, f, rfl, hown, ⟨hf1, hf2, hf3, hf4, _, _⟩, _, _, hne, hold⟩
  have hb : ∀ p ∈ led, p ∈ led1 := fun p hp => (hold p hp).1
  have hb2 : ∀ p ∈ led, p.1 ≠ dx := fun p hp => (hold p hp).2.2.2.2
  have q4 : upd m0 (Str.ofString "decl") (.ref a) (Str.ofString "decl") = some (.ref a) := upd_at
  have q1' := upd_ne (x := (Str.ofString "decl")) (v := .ref a) q1 (by decide)
  have q2' := upd_ne (x := (Str.ofString "decl")) (v := .ref a) q2 (by decide)
  have q3' := upd_ne (x := (Str.ofString "decl")) (v := .ref a) q3 (by decide)
  generalize upd m0 (Str.ofString "decl") (.ref a) = m1 at q1' q2' q3' q4 ⊢
  have nR {led' p} : Ev c m1 led' (.Name (Str.ofString "row") p) (.ref ra) := .loc O kR q1' rfl
  have nO {led' p} : Ev c m1 led' (.Name (Str.ofString "owner") p) (.ref ow) := .loc O kO q2' rfl
  have nN {led' p} : Ev c m1 led' (.Name (Str.ofString "number") p) (.int (n : Nat)) := .loc O kN q3' ⟨tn, rfl⟩
  have nD {led' p} : Ev c m1 led' (.Name (Str.ofString "decl") p) (.ref a) := .loc O kD q4 rfl
  have hR1 := hR.mono hb
  have l1' : (nm ++ (Str.ofString "x")).length = nm.length + 1 := by show (nm.cps ++ _).size = _; rw [Array.size_append]; rfl
  refine St.tup (Tr.tuple (Its.ev (.addStr (x := nm ++ (Str.ofString ".")) (.addStr (.attr O nO (hw0.mono hb) (.tail _ (.head _))) .str_ (by show nm.length + 1 ≤ 1000; omega)) (.get nR .str_ hR1 (.tail _ (.tail _ (.tail _ (.head _))))) ?len) fun v1 hv1 => Its.ev (.get nR .str_ hR1 (.tail _ (.tail _ (.tail _ (.head _))))) fun v2 hv2 =>
    Its.ev (.get nR .str_ hR1 (.tail _ (.tail _ (.tail _ (.tail _ (.head _)))))) fun v3 hv3 => Its.nil ⟨show 3 ≤ 1000 by decide, fun l hl => ⟨l, _, rfl, .head _, rfl, ?asg⟩⟩)) (hw := by rw [he]; rfl)
  case len =>
    have : (nm ++ (Str.ofString ".")).length = nm.length + 1 := by show (nm.cps ++ _).size = _; rw [Array.size_append]; rfl
    omega
  refine Asg.attr O (plain59 (by decide +kernel)) nD (hown.mono fun p hp => .tail _ hp) (by decide) fun led2 s2 ho2 => Asg.attr O (plain59 (by decide +kernel)) nD ho2 (by decide) fun led3 s3 ho3 => Asg.attr O (plain59 (by decide +kernel)) nD ho3 (by decide) fun led4 s4 ho4 => Asg.nil ?_
  have b4 : ∀ p ∈ led, p ∈ led4 := fun p hp => s4 p (s3 p (s2 p (.tail _ (hb p hp)) (hb2 p hp)) (hb2 p hp)) (hb2 p hp)
  refine St.tup (Tr.tuple (Its.ev nO fun v4 hv4 => Its.ev (.get nR .str_ (hR.mono b4) (.tail _ (.tail _ (.tail _ (.tail _ (.tail _ (.head _))))))) fun v5 hv5 => Its.nil ⟨show 2 ≤ 1000 by decide, fun l2 hl2 => ⟨l2, _, rfl, .head _, rfl, ?asg2⟩⟩)) (hw := by rw [he]; rfl)
  refine Asg.attr O (plain59 (by decide +kernel)) nD (ho4.mono fun p hp => .tail _ hp) (by decide) fun led5 s5 ho5 => Asg.attr O (plain59 (by decide +kernel)) nD ho5 (by decide) fun led6 s6 ho6 => Asg.nil ?_
  have b6 : ∀ p ∈ led, p ∈ led6 := fun p hp => s6 p (s5 p (.tail _ (b4 p hp)) (hb2 p hp)) (hb2 p hp)
  cases hv4
  obtain ⟨t5, rfl⟩ := hv5
  obtain ⟨t3, rfl⟩ := hv3
  obtain ⟨t2, rfl⟩ := hv2
  obtain ⟨u1, g1, t6, rfl⟩ := hf1
  obtain ⟨u2, g2, t7, rfl⟩ := hf2
  have fin : ∀ led' f' kk, (∀ p ∈ led, p ∈ led') → OwnF 59 led' a dx f' kk → kk ≤ 100 → MemF f' r (.ref ow) → Tr c m1 led' (eval (.Name (Str.ofString "decl") ⟨129, 11, 129, 15⟩) c.env) fun v m' led' => ∃ a dx f kk, v = .ref a ∧ OwnF 59 led' a dx f kk ∧ kk ≤ 100 ∧ MemF f r (.ref ow) ∧ ∀ p ∈ led, p ∈ led' ∧ p.1 ≠ a ∧ p.1 ≠ dx := fun led' f' kk h1 h2 h3 h4 =>
    Tr.mono (nD (led' := led')) fun v m' led2 ⟨e1, _, e3⟩ => ⟨a, dx, f', kk, e1, e3 ▸ h2, h3, h4, fun p hp => ⟨e3 ▸ h1 p hp, (hold p hp).2.2.2.1, hb2 p hp⟩⟩
  generalize hf' : upd (upd (upd (upd (upd f (Str.ofString "unique") v1) (Str.ofString "key") (.str r.key t2)) (Str.ofString "word") (.str r.duty t3)) (Str.ofString "owner") (.ref ow)) (Str.ofString "visibility") (.str r.seen t5) = f6 at ho6
  have M1 : f6 (Str.ofString "kind") = some (.str r.sort t6) := by subst hf'; exact upd_ne (upd_ne (upd_ne (upd_ne (upd_ne g1 (by decide)) (by decide)) (by decide)) (by decide)) (by decide)
  have M2 : f6 (Str.ofString "name") = some (.str r.call t7) := by subst hf'; exact upd_ne (upd_ne (upd_ne (upd_ne (upd_ne g2 (by decide)) (by decide)) (by decide)) (by decide)) (by decide)
  have M3 : f6 (Str.ofString "key") = some (.str r.key t2) := by subst hf'; exact upd_ne (upd_ne (upd_ne upd_at (by decide)) (by decide)) (by decide)
  have M4 : f6 (Str.ofString "word") = some (.str r.duty t3) := by subst hf'; exact upd_ne (upd_ne upd_at (by decide)) (by decide)
  have M5 : f6 (Str.ofString "visibility") = some (.str r.seen t5) := by subst hf'; exact upd_at
  have M6 : f6 (Str.ofString "owner") = some (.ref ow) := by subst hf'; exact upd_ne upd_at (by decide)
  have M7 : f6 (Str.ofString "body") = some .none := by subst hf'; exact upd_ne (upd_ne (upd_ne (upd_ne (upd_ne hf4 (by decide)) (by decide)) (by decide)) (by decide)) (by decide)
  clear hf'
  refine St.if0 (.of (.get nR .str_ (hR.mono b6) (.tail _ (.tail _ (.tail _ (.tail _ (.tail _ (.tail _ (.head _))))))))) (fun hb => ?_) fun hb => ?_
  · refine St.setAttr (a := a) (dx := dx) (kk := 35) (f := f6) O (plain59 (by decide +kernel)) (Tr.mono (Tr.callI (Q := fun v m' led' => m1 = m' ∧ (∃ b, v = .ref b) ∧ ∀ p ∈ led6, p ∈ led') O (glob_ O kS (glob132 _)) (keep132 _) (Its.ev .str_ fun v1 hv1 => Its.ev (.add .int_ nN) fun v2 hv2 => Its.ev .str_ fun v3 hv3 =>
      Its.cons (P1 := fun v m' led' => m1 = m' ∧ ∃ l, v = .ref l ∧ led' = (l, listOf [].toArray 0) :: led6) (Tr.list (Its.nil ⟨Nat.zero_le _, fun l hl => ⟨rfl, l, rfl, rfl⟩⟩)) fun v4 m4 led7 h4 => ?kids)) ?aft)
    case kids =>
      obtain ⟨rfl, l, rfl, rfl⟩ := h4
      refine Its.ev .none_ fun v5 hv5 => Its.nil ?_
      obtain ⟨t1, rfl⟩ := hv1; obtain ⟨t2, rfl⟩ := hv2; obtain ⟨t3, rfl⟩ := hv3; cases hv5
      exact Tr.mono (Tr.newSyn (k := 1) O (.head _)) fun v m' led' ⟨h1, b, h2, h3⟩ => ⟨h1.symm, ⟨b, h2⟩, fun p hp => h3 p (.tail _ hp)⟩
    rintro v _ led7 ⟨rfl, ⟨b, rfl⟩, s7⟩
    refine ⟨nD, ho6.mono s7, by decide, fun led8 s8 ho8 => St.nil (P := Then c _ _) (St.ret (fin led8 _ _ (fun p hp => s8 p (s7 p (b6 p hp)) (hb2 p hp)) ho8 (by decide) ⟨⟨_, upd_ne M1 (by decide)⟩, ⟨_, upd_ne M2 (by decide)⟩, ⟨_, upd_ne M3 (by decide)⟩, ⟨_, upd_ne M4 (by decide)⟩, ⟨_, upd_ne M5 (by decide)⟩, ?_, upd_ne M6 (by decide)⟩))⟩
    rw [if_pos hb]
    exact ⟨b, upd_at⟩
  · refine St.ret (fin led6 _ _ b6 ho6 (by decide) ⟨⟨_, M1⟩, ⟨_, M2⟩, ⟨_, M3⟩, ⟨_, M4⟩, ⟨_, M5⟩, ?_, M6⟩)
    rw [if_neg (by rw [hb]; exact Bool.false_ne_true)]
    exact M7
/-- the ledger in three: what may be written, the iterators, what stays -/
structure MU (mu itl per led : Led) : Prop where
  nd : (mu.map (·.1)).Nodup
  inMu : ∀ p ∈ mu, p ∈ led
  inPer : ∀ p ∈ per, p ∈ led ∧ ∀ q ∈ mu, p.1 ≠ q.1
  inIts : ∀ p ∈ itl, p ∈ led ∧ (∀ q ∈ mu, p.1 ≠ q.1) ∧ ∀ q ∈ per, p.1 ≠ q.1
section
variable {mu mu1 mu2 itl per led led' : Led} {X I W : Addr} {o o' oI : Obj}
theorem MU.sub (h : MU mu itl per led) (hs : ∀ p ∈ led, p ∈ led') : MU mu itl per led' := ⟨h.nd, fun p hp => hs p (h.inMu p hp), fun p hp => ⟨hs p (h.inPer p hp).1, (h.inPer p hp).2⟩, fun p hp => ⟨hs p (h.inIts p hp).1, (h.inIts p hp).2⟩⟩
theorem MU.ne (h : MU (mu1 ++ (X, o) :: mu2) itl per led) : (∀ q ∈ mu1, q.1 ≠ X) ∧ ∀ q ∈ mu2, q.1 ≠ X := by
  have nd := h.nd
  rw [List.map_append, List.map_cons, List.nodup_append, List.nodup_cons] at nd
  obtain ⟨_, ⟨h1, _⟩, h2⟩ := nd
  exact ⟨fun q hq e => h2 _ (List.mem_map_of_mem hq) _ (.head _) e, fun q hq e => h1 (by show X ∈ _; rw [← e]; exact List.mem_map_of_mem (f := fun p : Addr × Obj => p.1) hq)⟩
/-- one is written -/
theorem MU.set (h : MU (mu1 ++ (X, o) :: mu2) itl per led) (hX : (X, o') ∈ led') (hs : ∀ p ∈ led, p.1 ≠ X → p ∈ led') : MU (mu1 ++ (X, o') :: mu2) itl per led' := by
  have ne := h.ne
  have nd := h.nd
  have sub : ∀ q ∈ mu1 ++ (X, o') :: mu2, ∃ q' ∈ mu1 ++ (X, o) :: mu2, q'.1 = q.1 := fun q hq => by
    rcases List.mem_append.mp hq with hq | hq
    · exact ⟨q, List.mem_append_left _ hq, rfl⟩
    rcases List.mem_cons.mp hq with rfl | hq
    · exact ⟨(X, o), List.mem_append_right _ (.head _), rfl⟩
    · exact ⟨q, List.mem_append_right _ (.tail _ hq), rfl⟩
  have hXm : (X, o) ∈ mu1 ++ (X, o) :: mu2 := List.mem_append_right _ (.head _)
  refine ⟨by rw [List.map_append, List.map_cons] at nd ⊢; exact nd, fun p hp => ?_, fun p hp => ⟨hs p (h.inPer p hp).1 ((h.inPer p hp).2 _ hXm), fun q hq => ?_⟩, fun p hp => ⟨hs p (h.inIts p hp).1 ((h.inIts p hp).2.1 _ hXm), fun q hq => ?_, (h.inIts p hp).2.2⟩⟩
  · rcases List.mem_append.mp hp with hp | hp
    · exact hs p (h.inMu p (List.mem_append_left _ hp)) (ne.1 p hp)
    rcases List.mem_cons.mp hp with rfl | hp
    · exact hX
    · exact hs p (h.inMu p (List.mem_append_right _ (.tail _ hp))) (ne.2 p hp)
  · obtain ⟨q', hq', e⟩ := sub q hq; exact e ▸ (h.inPer p hp).2 q' hq'
  · obtain ⟨q', hq', e⟩ := sub q hq; exact e ▸ (h.inIts p hp).2.1 q' hq'
theorem MU.put (h : MU (mu1 ++ (X, o) :: mu2) itl per led) (o' : Obj) : MU (mu1 ++ (X, o') :: mu2) itl per (put led X o') := h.set (.head _) fun p hp hn => put_ne hp hn
theorem MU.mem (h : MU (mu1 ++ (X, o) :: mu2) itl per led) : (X, o) ∈ led := h.inMu _ (List.mem_append_right _ (.head _))
/-- a new one that stays -/
theorem MU.keep {p : Addr × Obj} (h : MU mu itl per led) (hp : p ∈ led) (h1 : p.1 ∉ mu.map (·.1)) (h2 : ∀ q ∈ itl, p.1 ≠ q.1) : MU mu itl (p :: per) led := by
  refine ⟨h.nd, h.inMu, fun q hq => ?_, fun q hq => ⟨(h.inIts q hq).1, (h.inIts q hq).2.1, fun r hr => ?_⟩⟩
  · rcases List.mem_cons.mp hq with rfl | hq
    · exact ⟨hp, fun q hq e => h1 (e ▸ List.mem_map_of_mem hq)⟩
    · exact h.inPer q hq
  · rcases List.mem_cons.mp hr with rfl | hr
    · exact (h2 q hq).symm
    · exact (h.inIts q hq).2.2 r hr
/-- a new one that may be written, at the end -/
theorem MU.own {p : Addr × Obj} (h : MU mu itl per led) (hp : p ∈ led) (h1 : p.1 ∉ mu.map (·.1)) (h2 : ∀ q ∈ itl, p.1 ≠ q.1) (h3 : ∀ q ∈ per, q.1 ≠ p.1) : MU (mu ++ [p]) itl per led := by
  have me : ∀ r : Addr × Obj, r ∈ mu ++ [p] → r ∈ mu ∨ r = p := fun r hr => (List.mem_append.mp hr).imp id List.mem_singleton.mp
  refine ⟨?_, fun r hr => ?_, fun q hq => ⟨(h.inPer q hq).1, fun r hr => ?_⟩, fun q hq => ⟨(h.inIts q hq).1, fun r hr => ?_, (h.inIts q hq).2.2⟩⟩
  · rw [List.map_append, List.nodup_append]
    refine ⟨h.nd, List.pairwise_singleton _ _, fun a ha b hb e => ?_⟩
    obtain ⟨q, hq, rfl⟩ := List.mem_map.mp ha
    rw [List.mem_map] at hb
    obtain ⟨r, hr, rfl⟩ := hb
    rw [List.mem_singleton] at hr
    subst hr
    exact h1 (e ▸ List.mem_map_of_mem hq)
  · rcases me r hr with hr | rfl
    · exact h.inMu r hr
    · exact hp
  · rcases me r hr with hr | rfl
    · exact (h.inPer q hq).2 r hr
    · exact h3 q hq
  · rcases me r hr with hr | rfl
    · exact (h.inIts q hq).2.1 r hr
    · exact (h2 q hq).symm
theorem MU.push (h : MU mu itl per led) (ha : Apart led [I]) : MU mu ((I, oI) :: itl) per ((I, oI) :: led) := by
  refine ⟨h.nd, fun p hp => .tail _ (h.inMu p hp), fun p hp => ⟨.tail _ (h.inPer p hp).1, (h.inPer p hp).2⟩, fun p hp => ?_⟩
  rcases List.mem_cons.mp hp with rfl | hp
  · exact ⟨.head _, fun q hq => (ha q (h.inMu q hq) I (.head _)).symm, fun q hq => (ha q (h.inPer q hq).1 I (.head _)).symm⟩
  · exact ⟨.tail _ (h.inIts p hp).1, (h.inIts p hp).2⟩
theorem MU.pop (h : MU mu ((I, oI) :: itl) per led) (ha : ∀ q ∈ itl, q.1 ≠ I) : ∃ led2, (∀ p ∈ (I, oI) :: led2, p ∈ led) ∧ Apart led2 [I] ∧ MU mu itl per led2 := by
  have hI := h.inIts _ (.head _)
  have kp : ∀ p ∈ led, p.1 ≠ I → p ∈ led.filter fun p => p.1 != I := fun p hp hn => List.mem_filter.mpr ⟨hp, by simpa using hn⟩
  exact ⟨_, (turn_cut hI.1).1, (turn_cut hI.1).2, h.nd, fun p hp => kp p (h.inMu p hp) (hI.2.1 p hp).symm, fun p hp => ⟨kp p (h.inPer p hp).1 (hI.2.2 p hp).symm, (h.inPer p hp).2⟩, fun p hp => ⟨kp p (h.inIts p (.tail _ hp)).1 (ha p hp), (h.inIts p (.tail _ hp)).2⟩⟩
/-- what is new is apart -/
theorem MU.fresh (h : MU mu itl per led) {a : Addr} (ha : ∀ p ∈ led, p.1 ≠ a) : a ∉ mu.map (·.1) ∧ (∀ q ∈ itl, a ≠ q.1) ∧ ∀ q ∈ per, q.1 ≠ a := by
  refine ⟨fun hm => ?_, fun q hq => (ha q (h.inIts q hq).1).symm, fun q hq => ha q (h.inPer q hq).1⟩
  obtain ⟨q, hq, e⟩ := List.mem_map.mp hm
  exact ha q (h.inMu q hq) e
/-- what was written stays from now on -/
theorem MU.free {p : Addr × Obj} (h : MU (mu ++ [p]) itl per led) : MU mu itl (p :: per) led := by
  have hp : p ∈ mu ++ [p] := List.mem_append_right _ (.head _)
  have nd := h.nd
  rw [List.map_append, List.nodup_append] at nd
  have sub : ∀ q ∈ mu, q ∈ mu ++ [p] := fun q hq => List.mem_append_left _ hq
  refine ⟨nd.1, fun q hq => h.inMu q (sub q hq), fun q hq => ?_, fun q hq => ⟨(h.inIts q hq).1, fun r hr => (h.inIts q hq).2.1 r (sub r hr), fun r hr => ?_⟩⟩
  · rcases List.mem_cons.mp hq with rfl | hq
    · exact ⟨h.inMu _ hp, fun r hr e => nd.2.2 r.1 (List.mem_map_of_mem hr) q.1 (.head _) e.symm⟩
    · exact ⟨(h.inPer q hq).1, fun r hr => (h.inPer q hq).2 r (sub r hr)⟩
  · rcases List.mem_cons.mp hr with rfl | hr
    · exact (h.inIts q hq).2.1 _ hp
    · exact (h.inIts q hq).2.2 r hr
end
section
variable {c : Cx} {m : Map} {led : Led} {e e1 e2 : Expr} {d : Dm} {pos p1 : Pos} {k n : Nat} {P : Flow → Map → Led → Prop} {rest : List Stmt} {a l : Addr} {vs : List Value}
/-- append of what builds -/
theorem St.appendT {P1 : Value → Map → Led → Prop} {apos : Pos} {pl : Sem Bool} (h1 : Ev c m led e1 (.ref a)) (hl0 : ∃ (vs : List Value) (n : Nat), (a, listOf vs.toArray n) ∈ led) (h2 : Tr c m led (eval e2 c.env) P1)
    (hn : ∀ u m' led', P1 u m' led' → ∃ (vs : List Value) (n : Nat), (a, listOf vs.toArray n) ∈ led' ∧ vs.length ≤ 20000 ∧ TrS c m' (put led' a (listOf (vs ++ [u]).toArray (n + 1))) rest P)
    (hs : eval ((e1.Attribute (Str.ofString "append") apos).Call [e2] [] pos) c.env = (do
          let ov ← eval e1 c.env
          standAt apos.atName
          let __x ← holding [ov] (getMethod ov (Str.ofString "append") pl)
          match __x with
            | (f, first) => callWith pos f first (backTo pos (starEach [e2] c.env)) []) := by rfl)
    (he : starEach [e2] c.env = (false, eval e2 c.env) :: starEach [] c.env := by rfl) (hp : (backTo pos (starEach [] c.env)).any (·.1) = false := by rfl)
    (hi : interactive c.env = false := by rfl) {p2 : Pos} (hw : swapsWith ((e1.Attribute (Str.ofString "append") apos).Call [e2] [] pos) none p2.line c.env = (Pure.pure false : Sem Bool) := by rfl) :
    TrS c m led (.Expr (.Call (.Attribute e1 (Str.ofString "append") apos) [e2] [] pos) p2 :: rest) P := by
  refine St.expr (fun s F N => MethodCall_ (pl := pl) (h1.use F N fun v h' tk i F' N' => ?_) hs) hi hw
  cases i
  obtain ⟨vs0, n0, hl0⟩ := hl0
  refine kf_method N' hl0 slot_list_append type_list_append ?_
  refine callWith_method1 (spliced_more (h2.use F' N' fun v2 m3 led3 h3 tk3 i2 F3 N3 => spliced_none ?_) he) he hp
  obtain ⟨vs, n, hl, hz, ht⟩ := hn v2 m3 led3 i2
  obtain ⟨N4, U, _⟩ := put_upd (o' := listOf (vs.toArray.push v2) (n + 1)) N3 hl
  refine append_K F3 N4 U (fun h4 F5 N5 => ?_) (by rw [List.size_toArray, sizeLine_eq]; omega)
  refine .mk ht F5 ?_
  rw [List.push_toArray] at N5
  exact N5
theorem Ev.last {v : Value} (h1 : Ev c m led e1 (.ref l)) (h2 : Ev c m led e2 (.int (-1))) (hl : (l, listOf vs.toArray n) ∈ led) (hz : vs.length ≤ 1000) (hv : vs.getLast? = some v) (hd : d.Is v)
    (hs : ∀ t, subscripted e2 false (.ref l) (.int (-1) t) = operate [.ref l, .int (-1) t] (getItem (.ref l) (.int (-1) t)) := by intro _; with_unfolding_all rfl) : Ev c m led (.Subscript e1 e2 pos) d := fun s F N =>
  Subscript_ (h1.use F N fun o h' tk i F' N' => h2.use F' N' fun o2 h3 tk3 i2 F3 N3 => by
    cases i
    obtain ⟨t, rfl⟩ := i2
    exact last_led (s := ⟨h3, s.gens, s.drawn, tk3, s.os⟩) N3 hl hz hv (.mk ⟨hd, rfl, rfl⟩ F3 N3) (hs t))
theorem Ev.sub {x y : Int} (h1 : Ev c m led e1 (.int x)) (h2 : Ev c m led e2 (.int y)) : Ev c m led (.BinOp e1 .Sub e2 pos) (.int (x - y)) := fun s F N =>
  wpAny_BinOp (h1.use F N fun v h' tk ⟨t, i⟩ F' N' => h2.use F' N' fun v2 h3 tk3 ⟨t2, i2⟩ F3 N3 => by
    subst i; subst i2
    exact sub_int (.mk ⟨⟨_, rfl⟩, rfl, rfl⟩ F3 N3))
theorem nsStr (P : Params) : nsIn (KH P) mainGlobals (Str.ofString "str") = some none := by kernel_rfl
theorem Ev.strOf {x : Int} (O : c.Ok k) (hk : c.env.kindOf (Str.ofString "str") = some .globalImplicit) (h : Ev c m led e (.int x)) (hx : x.natAbs.log2 < 1920)
    (hs : eval ((Expr.Name (Str.ofString "str") p1).Call [e] [] pos) c.env = (do let f ← eval (.Name (Str.ofString "str") p1) c.env; callWith pos f [] (backTo pos (starEach [e] c.env)) (backToKw pos (keywordEach [] c.env))) := by rfl)
    (he : backTo pos (starEach [e] c.env) = [(false, eval e c.env)] := by rfl) : Ev c m led (.Call (.Name (Str.ofString "str") p1) [e] [] pos) (.str (Str.ofString (toString x))) := by
  intro s F N
  obtain ⟨p, loose, mean, mg, mb, T⟩ := O.T
  refine Call_ (Name_function_global O.kind hk (loadGlobal_builtin (by rw [O.glob]; exact (topRead_of T).g.keeps F.keep) (mg_none_of O.X (topRead_of T).g (nsStr _)) (by rw [O.blt]; exact (topRead_of T).b.keeps F.keep) (((topRead_of T).builtins (Str.ofString "str") (by decide)).trans PyProof.Rows.boot_str) ?_) (by decide)) hs
  rw [he]
  refine PySem.callWith_type rfl (Calls.evalArgs_plain (Calls.spliced_cons (h.use F N fun v h' tk ⟨t, hv⟩ F' N' => Calls.spliced_nil ?_)))
  subst hv
  exact PySem.P.str_of_int hx (.mk ⟨⟨_, rfl⟩, rfl, rfl⟩ F' N')
end
noncomputable def spotN (rs : List Row) (j : Nat) : Nat := (rs[j]?.getD noRow).spot
noncomputable def memI (rs : List Row) (ls : List Nat) (i : Nat) : List Nat := ls.filter fun j => spotN rs j == i
noncomputable def memA (rs : List Row) (das : List Addr) (ls : List Nat) (i : Nat) : List Addr := (memI rs ls i).map fun j => das.getD j 0
/-- a contract that is built: its members' list and its name -/
noncomputable def ConAt (per : Led) (a dx L : Addr) : Prop := ∃ f kk nm t, OwnF 59 per a dx f kk ∧ kk ≤ 60 ∧ f (Str.ofString "members") = some (.ref L) ∧ f (Str.ofString "name") = some (.str nm t) ∧ nm.length ≤ 200
theorem ConAt.mono {per per' : Led} {a dx L : Addr} (h : ConAt per a dx L) (hs : ∀ p ∈ per, p ∈ per') : ConAt per' a dx L := let ⟨f, kk, nm, t, h1, h2⟩ := h; ⟨f, kk, nm, t, h1.mono hs, h2⟩
/-- what has been built: contracts bs with their members' lists lm, rows ras, declarations das, the numbers -/
structure BI (w : World) (bs ras das : List Addr) (rs : List Row) (ls lo : List Nat) (lm per : Led) (dxs : List Addr) (pr : Led) (t : Nat) : Prop where
  rlen : ras.length = rs.length
  dlen : das.length = rs.length
  rows : ∀ (j : Nat) (r : Row), rs[j]? = some r → ∃ a, ras[j]? = some a ∧ RowAt w pr a r
  decls : ∀ (j : Nat) (r : Row), rs[j]? = some r → ∃ d, das[j]? = some d ∧ DeclAt pr d r ∧ AttrD pr d (Str.ofString "owner") (ownD (if j ∈ lo then none else bs[r.spot]?))
  spot : ∀ r ∈ rs, r.spot < bs.length ∧ RowOk r
  dnd : das.Nodup
  lob : ∀ j ∈ lo, j < rs.length
  lsb : ∀ j ∈ ls, j < rs.length
  lss : ls.Pairwise (· < ·)
  dis : ∀ j ∈ lo, j ∉ ls
  clen : lm.length = bs.length
  con : ∀ (i : Nat) (a : Addr), bs[i]? = some a → ∃ L n dx, lm[i]? = some (L, listOf (refsOf (memA rs das ls i)).toArray n) ∧ dxs[i]? = some dx ∧ ConAt per a dx L
  bnd : bs.Nodup
  few : ∀ i, i + 1 < bs.length → (memI rs ls i).length ≤ 3
  cur : (memI rs ls (bs.length - 1)).length ≤ t
  rl : rs.length ≤ 3 * (bs.length - 1) + t
  lol : lo.length ≤ rs.length
  lsl : ls.length ≤ rs.length
  dxl : dxs.length = bs.length
  dxn : dxs.Nodup
  prp : ∀ p ∈ pr, p ∈ per ∧ p.1 ∉ dxs
section
variable {w : World} {bs ras das : List Addr} {rs : List Row} {ls lo : List Nat} {lm per per' pr pr' : Led} {dxs : List Addr} {t : Nat}
theorem BI.mono (h : BI w bs ras das rs ls lo lm per dxs pr t) (hs : ∀ p ∈ per, p ∈ per') : BI w bs ras das rs ls lo lm per' dxs pr t where
  rlen := h.rlen
  dlen := h.dlen
  rows := h.rows
  decls := h.decls
  spot := h.spot
  dnd := h.dnd
  lob := h.lob
  lsb := h.lsb
  lss := h.lss
  dis := h.dis
  clen := h.clen
  con := fun i a ha => let ⟨L, n, dx, h1, h2, h3⟩ := h.con i a ha; ⟨L, n, dx, h1, h2, h3.mono hs⟩
  bnd := h.bnd
  few := h.few
  cur := h.cur
  rl := h.rl
  lol := h.lol
  lsl := h.lsl
  dxl := h.dxl
  dxn := h.dxn
  prp := fun p hp => ⟨hs p (h.prp p hp).1, (h.prp p hp).2⟩
theorem spotN_old {r : Row} {j : Nat} (hj : j < rs.length) : spotN (rs ++ [r]) j = spotN rs j := by unfold spotN; rw [List.getElem?_append_left hj]
theorem spotN_new {r : Row} : spotN (rs ++ [r]) rs.length = r.spot := by unfold spotN; rw [List.getElem?_append_right (Nat.le_refl _), Nat.sub_self]; rfl
theorem memI_old {r : Row} (hb : ∀ j ∈ ls, j < rs.length) (i : Nat) : memI (rs ++ [r]) ls i = memI rs ls i := List.filter_congr fun j hj => by rw [spotN_old (hb j hj)]
theorem getD_old {d : Addr} {j : Nat} (hj : j < das.length) : (das ++ [d]).getD j 0 = das.getD j 0 := by rw [List.getD_eq_getElem?_getD, List.getD_eq_getElem?_getD, List.getElem?_append_left hj]
theorem memA_old {r : Row} {d : Addr} (hd : das.length = rs.length) (hb : ∀ j ∈ ls, j < rs.length) (i : Nat) : memA (rs ++ [r]) (das ++ [d]) ls i = memA rs das ls i := by
  unfold memA
  rw [memI_old hb]
  exact List.map_congr_left fun j hj => getD_old (hd ▸ hb j (List.mem_filter.mp hj).1)
theorem memI_new {r : Row} (hb : ∀ j ∈ ls, j < rs.length) (i : Nat) : memI (rs ++ [r]) (ls ++ [rs.length]) i = memI rs ls i ++ (if r.spot = i then [rs.length] else []) := by
  rw [← memI_old (r := r) hb]
  unfold memI
  rw [List.filter_append]
  congr 1
  show List.filter _ [rs.length] = _
  rw [List.filter_cons, spotN_new]
  by_cases h : r.spot = i <;> simp [h]
theorem memA_new {r : Row} {d : Addr} (hd : das.length = rs.length) (hb : ∀ j ∈ ls, j < rs.length) (i : Nat) : memA (rs ++ [r]) (das ++ [d]) (ls ++ [rs.length]) i = memA rs das ls i ++ (if r.spot = i then [d] else []) := by
  unfold memA
  rw [memI_new hb, List.map_append]
  congr 1
  · exact List.map_congr_left fun j hj => getD_old (hd ▸ hb j (List.mem_filter.mp hj).1)
  · by_cases h : r.spot = i
    · rw [if_pos h, if_pos h]
      show [(das ++ [d]).getD rs.length 0] = [d]
      rw [List.getD_eq_getElem?_getD, ← hd, List.getElem?_append_right (Nat.le_refl _), Nat.sub_self]
      rfl
    · rw [if_neg h, if_neg h]; rfl
/-- one more row and declaration -/
theorem BI.add (h : BI w bs ras das rs ls lo lm per dxs pr t) (hs : ∀ p ∈ per, p ∈ per') (hs2 : ∀ p ∈ pr, p ∈ pr') (hp : ∀ p ∈ pr', p ∈ per' ∧ p.1 ∉ dxs) {ra d : Addr} {r : Row} {bl bo : Bool} {lm' : Led} (hr : RowAt w pr' ra r) (hk : RowOk r) (hsp : r.spot + 1 = bs.length) (hd : DeclAt pr' d r) (ho : AttrD pr' d (Str.ofString "owner") (ownD (if bo then none else bs[r.spot]?)))
    (hn : d ∉ das) (hbb : (bl && bo) = false) (hlm : lm'.length = lm.length) (hl1 : ∀ i, i ≠ r.spot → lm'[i]? = lm[i]?) (hl2 : ∀ L n, lm[r.spot]? = some (L, listOf (refsOf (memA rs das ls r.spot)).toArray n) → ∃ n', lm'[r.spot]? = some (L, listOf (refsOf (memA rs das ls r.spot ++ (if bl then [d] else []))).toArray n')) :
    BI w bs (ras ++ [ra]) (das ++ [d]) (rs ++ [r]) (ls ++ (if bl then [rs.length] else [])) (lo ++ (if bo then [rs.length] else [])) lm' per' dxs pr' (t + 1) := by
  have hlen : (rs ++ [r]).length = rs.length + 1 := by rw [List.length_append]; rfl
  have get : ∀ {j : Nat} {x : Row}, (rs ++ [r])[j]? = some x → (j < rs.length ∧ rs[j]? = some x) ∨ (j = rs.length ∧ x = r) := fun {j x} hx => by
    rcases Nat.lt_trichotomy j rs.length with hj | hj | hj
    · rw [List.getElem?_append_left hj] at hx; exact .inl ⟨hj, hx⟩
    · subst hj
      rw [List.getElem?_append_right (Nat.le_refl _), Nat.sub_self] at hx
      exact .inr ⟨rfl, (Option.some.inj hx).symm⟩
    · rw [List.getElem?_eq_none (by rw [hlen]; omega)] at hx; exact nomatch hx
  have mI : ∀ i, memI (rs ++ [r]) (ls ++ (if bl then [rs.length] else [])) i = memI rs ls i ++ (if r.spot = i then (if bl then [rs.length] else []) else []) := fun i => by
    cases bl with
    | true => exact memI_new h.lsb i
    | false =>
      show memI (rs ++ [r]) (ls ++ []) i = _
      rw [List.append_nil, memI_old h.lsb]
      by_cases hi : r.spot = i <;> simp [hi]
  have mA : ∀ i, memA (rs ++ [r]) (das ++ [d]) (ls ++ (if bl then [rs.length] else [])) i = memA rs das ls i ++ (if r.spot = i then (if bl then [d] else []) else []) := fun i => by
    cases bl with
    | true => exact memA_new h.dlen h.lsb i
    | false =>
      show memA (rs ++ [r]) (das ++ [d]) (ls ++ []) i = _
      rw [List.append_nil, memA_old h.dlen h.lsb]
      by_cases hi : r.spot = i <;> simp [hi]
  refine ⟨?_, ?_, fun j x hx => ?_, fun j x hx => ?_, fun x hx => ?_, ?_, fun j hj => ?_, fun j hj => ?_, ?_, fun j hj hm => ?_, hlm.trans h.clen, fun i a ha => ?_, h.bnd, fun i hi => ?_, ?_, ?_, ?_, ?_, h.dxl, h.dxn, hp⟩
  · rw [List.length_append, List.length_append, h.rlen]; rfl
  · rw [List.length_append, List.length_append, h.dlen]; rfl
  · rcases get hx with ⟨hj, hx⟩ | ⟨rfl, rfl⟩
    · obtain ⟨a, h1, h2⟩ := h.rows j x hx
      exact ⟨a, by rw [List.getElem?_append_left (h.rlen ▸ hj)]; exact h1, h2.mono hs2⟩
    · exact ⟨ra, by rw [← h.rlen, List.getElem?_append_right (Nat.le_refl _), Nat.sub_self]; rfl, hr⟩
  · rcases get hx with ⟨hj, hx⟩ | ⟨rfl, rfl⟩
    · obtain ⟨a, h1, h2, h3⟩ := h.decls j x hx
      have e : (j ∈ lo ++ (if bo then [rs.length] else [])) ↔ j ∈ lo := by
        rw [List.mem_append]
        refine ⟨fun h => h.elim id fun h => ?_, .inl⟩
        cases bo with
        | true => exact absurd (List.mem_singleton.mp h) (Nat.ne_of_lt hj)
        | false => exact nomatch h
      refine ⟨a, by rw [List.getElem?_append_left (h.dlen ▸ hj)]; exact h1, h2.mono hs2, ?_⟩
      simp only [e]
      exact h3.mono hs2
    · refine ⟨d, by rw [← h.dlen, List.getElem?_append_right (Nat.le_refl _), Nat.sub_self]; rfl, hd, ?_⟩
      have e : (rs.length ∈ lo ++ (if bo then [rs.length] else [])) ↔ bo = true := by
        rw [List.mem_append]
        cases bo with
        | true => exact ⟨fun _ => rfl, fun _ => .inr (.head _)⟩
        | false => exact ⟨fun h' => h'.elim (fun h2 => absurd (h.lob _ h2) (Nat.lt_irrefl _)) (fun h2 => nomatch h2), (fun h2 => nomatch h2)⟩
      simp only [e]
      exact ho
  · rcases List.mem_append.mp hx with hx | hx
    · exact h.spot x hx
    · rw [List.mem_singleton.mp hx]; exact ⟨by omega, hk⟩
  · rw [List.nodup_append]
    refine ⟨h.dnd, List.pairwise_singleton _ _, fun a ha b hb e => ?_⟩
    rw [List.mem_singleton] at hb; subst hb; subst e; exact hn ha
  · rw [hlen]
    rcases List.mem_append.mp hj with hj | hj
    · exact Nat.lt_succ_of_lt (h.lob j hj)
    · cases bo with
      | true => rw [List.mem_singleton.mp hj]; exact Nat.lt_succ_self _
      | false => exact nomatch hj
  · rw [hlen]
    rcases List.mem_append.mp hj with hj | hj
    · exact Nat.lt_succ_of_lt (h.lsb j hj)
    · cases bl with
      | true => rw [List.mem_singleton.mp hj]; exact Nat.lt_succ_self _
      | false => exact nomatch hj
  · cases bl with
    | true =>
      show (ls ++ [rs.length]).Pairwise _
      rw [List.pairwise_append]
      exact ⟨h.lss, List.pairwise_singleton _ _, fun a ha b hb => by rw [List.mem_singleton.mp hb]; exact h.lsb a ha⟩
    | false => show (ls ++ []).Pairwise _; rw [List.append_nil]; exact h.lss
  · rcases List.mem_append.mp hj with hj | hj
    · rcases List.mem_append.mp hm with hm | hm
      · exact h.dis j hj hm
      · cases bl with
        | true => rw [List.mem_singleton.mp hm] at hj; exact absurd (h.lob _ hj) (Nat.lt_irrefl _)
        | false => exact nomatch hm
    · cases bo with
      | false => exact nomatch hj
      | true =>
        rw [List.mem_singleton.mp hj] at hm
        rcases List.mem_append.mp hm with hm | hm
        · exact absurd (h.lsb _ hm) (Nat.lt_irrefl _)
        · cases bl with
          | true => exact nomatch hbb
          | false => exact nomatch hm
  · obtain ⟨L, n, dx, h1, hdx, h2⟩ := h.con i a ha
    rw [mA]
    by_cases hi : r.spot = i
    · subst hi
      obtain ⟨n', h3⟩ := hl2 L n h1
      rw [if_pos rfl]
      exact ⟨L, n', dx, h3, hdx, h2.mono hs⟩
    · rw [if_neg hi, List.append_nil, hl1 i (Ne.symm hi)]
      exact ⟨L, n, dx, h1, hdx, h2.mono hs⟩
  · rw [mI, if_neg (by omega), List.append_nil]
    exact h.few i hi
  · rw [mI, List.length_append]
    have : (if r.spot = bs.length - 1 then (if bl then [rs.length] else []) else []).length ≤ 1 := by split <;> (try split) <;> simp
    have := h.cur
    omega
  · have := h.rl
    rw [hlen]
    omega
  · have := h.lol
    rw [hlen, List.length_append]
    have : (if bo then [rs.length] else []).length ≤ 1 := by split <;> simp
    omega
  · have := h.lsl
    rw [hlen, List.length_append]
    have : (if bl then [rs.length] else []).length ≤ 1 := by split <;> simp
    omega
end
noncomputable def sFor : Stmt → List Stmt
  | .For _ _ body _ _ => body
  | _ => []
noncomputable def lawB : List Stmt := fBody (topAt 28)
noncomputable def outB : List Stmt := sFor (lawB.getD 2 (.Pass default))
noncomputable def inB : List Stmt := sFor (outB.getD 1 (.Pass default))
/-- the lists of the law -/
structure FX where
  W : Addr
  lW : Addr
  B : Addr
  Rw : Addr
  Dl : Addr
  Ls : Addr
  Lo : Addr
/-- what is written while the law builds -/
noncomputable def muL (C : Addr) (fx : FX) (xc wo oB oR oD oL oO : Obj) (lm : Led) : Led := (C, xc) :: (fx.W, wo) :: (fx.B, oB) :: (fx.Rw, oR) :: (fx.Dl, oD) :: (fx.Ls, oL) :: (fx.Lo, oO) :: lm
noncomputable abbrev refL (as : List Addr) (n : Nat) : Obj := listOf (refsOf as).toArray n
inductive RS (C : Addr) (fx : FX) (bs ras das : List Addr) (ls lo : List Nat) (lm itl per led : Led) : Prop
  | mk (xc wo : Obj) (v0 : Option Value) (nB nR nD nL nO : Nat) (lsv lov : List Value) (hM : MU (muL C fx xc wo (refL bs nB) (refL ras nR) (refL das nD) (listOf lsv.toArray nL) (listOf lov.toArray nO) lm) itl per led)
    (hc : xc.data = .cell v0) (hw : WellOk fx.lW wo) (sc : ∃ ivs ns n2, Script ivs ns ∧ (fx.lW, listOf ivs.toArray n2) ∈ per) (hl : IntsAre lsv (natZ ls)) (ho : IntsAre lov (natZ lo)) : RS C fx bs ras das ls lo lm itl per led
/-- the names of the law -/
structure MN (fx : FX) (m : Map) : Prop where
  well : m (Str.ofString "well") = some (.ref fx.W)
  rows : m (Str.ofString "rows") = some (.ref fx.Rw)
  listed : m (Str.ofString "listed") = some (.ref fx.Ls)
  lone : m (Str.ofString "lone") = some (.ref fx.Lo)
theorem MN.upd {fx : FX} {m : Map} {x : Str} {v : Value} (h : MN fx m) (hx : [(Str.ofString "well"), (Str.ofString "rows"), (Str.ofString "listed"), (Str.ofString "lone")].contains x = false) : MN fx (upd m x v) := by
  have ne : ∀ y ∈ [(Str.ofString "well"), (Str.ofString "rows"), (Str.ofString "listed"), (Str.ofString "lone")], y ≠ x := fun y hy e => by subst e; rw [List.contains_iff_mem.mpr hy] at hx; cases hx
  exact ⟨upd_ne h.1 (ne _ (.head _)), upd_ne h.2 (ne _ (.tail _ (.head _))), upd_ne h.3 (ne _ (.tail _ (.tail _ (.head _)))), upd_ne h.4 (ne _ (.tail _ (.tail _ (.tail _ (.head _)))))⟩
/-- inside a contract, behind t turns -/
inductive TS (w : World) (C : Addr) (fx : FX) (bs : List Addr) (itl base : Led) (sp : Nat) (ts : Tok) (t : Nat) (m : Map) (led : Led) : Prop
  | mk (ras das : List Addr) (rs : List Row) (ls lo : List Nat) (lm per : Led) (dxs : List Addr) (pr : Led) (hR : RS C fx bs ras das ls lo lm itl per led) (hB : BI w bs ras das rs ls lo lm per dxs pr t) (hb : ∀ p ∈ base, p ∈ per) (hn : MN fx m) (hs : m (Str.ofString "spot") = some (.int (sp : Nat) ts)) : TS w C fx bs itl base sp ts t m led
theorem refsOf_snoc {as : List Addr} {a : Addr} : refsOf as ++ [Value.ref a] = refsOf (as ++ [a]) := by unfold refsOf; rw [List.map_append]; rfl
theorem refsOf_last {as : List Addr} {a : Addr} : (refsOf (as ++ [a])).getLast? = some (.ref a) := by rw [← refsOf_snoc, List.getLast?_append]; rfl
theorem refsOf_at {as : List Addr} {a : Addr} {i : Nat} (h : as[i]? = some a) : (refsOf as)[i]? = some (.ref a) := by rw [refsOf_get, h]; rfl
theorem ConAt.out {per led : Led} {a dx L : Addr} (h : ConAt per a dx L) (hs : ∀ p ∈ per, p ∈ led) : (∃ nm, AttrD led a (Str.ofString "name") (.str nm) ∧ nm.length ≤ 200) ∧ AttrD led a (Str.ofString "members") (.ref L) :=
  let ⟨_, _, nm, t, h1, _, h3, h4, h5⟩ := h; ⟨⟨nm, ⟨_, ⟨t, rfl⟩, (h1.attr h4).mono hs⟩, h5⟩, ⟨_, rfl, (h1.attr h3).mono hs⟩⟩
theorem MU.well {C lW : Addr} {fx : FX} {xc wo oB oR oD oL oO : Obj} {lm itl per led : Led} (hM : MU (muL C fx xc wo oB oR oD oL oO lm) itl per led) (hw : WellOk fx.lW wo) (sc : ∃ ivs ns n2, Script ivs ns ∧ (fx.lW, listOf ivs.toArray n2) ∈ per) : WellAt led fx.W fx.lW :=
  let ⟨ivs, ns, n2, h1, h2⟩ := sc; ⟨ivs, ns, n2, ⟨wo, hM.inMu _ (.tail _ (.head _)), hw⟩, h1, (hM.inPer _ h2).1, (hM.inPer _ h2).2 _ (.tail _ (.head _))⟩
/-- behind a draw -/
theorem MU.drawn {C : Addr} {fx : FX} {xc wo oB oR oD oL oO : Obj} {lm itl per led led' : Led} (hM : MU (muL C fx xc wo oB oR oD oL oO lm) itl per led) (hW : WellAt led' fx.W fx.lW) (hK : Keep fx.W led led') : ∃ wo', WellOk fx.lW wo' ∧ MU (muL C fx xc wo' oB oR oD oL oO lm) itl per led' :=
  let ⟨_, _, _, ⟨wo', h1, h2⟩, _⟩ := hW; ⟨wo', h2, hM.set (mu1 := [(C, xc)]) h1 hK⟩
theorem MU.setAt {mu0 lm mu2 itl per led : Led} {i : Nat} {L : Addr} {o : Obj} (h : MU (mu0 ++ (lm ++ mu2)) itl per led) (hi : lm[i]? = some (L, o)) (o' : Obj) : MU (mu0 ++ (lm.set i (L, o') ++ mu2)) itl per (Mine.put led L o') := by
  obtain ⟨hl, e⟩ := List.getElem?_eq_some_iff.mp hi
  have e1 : lm = lm.take i ++ (L, o) :: lm.drop (i + 1) := by rw [← e, ← List.drop_eq_getElem_cons hl, List.take_append_drop]
  have e2 : lm.set i (L, o') = lm.take i ++ (L, o') :: lm.drop (i + 1) := List.set_eq_take_append_cons_drop.trans (if_pos hl)
  rw [e2]
  rw [e1] at h
  have := MU.put (mu1 := mu0 ++ lm.take i) (mu2 := lm.drop (i + 1) ++ mu2) (X := L) (o := o) (by simpa using h) o'
  simpa using this
theorem keep160 (P : Params) : keepIn (KH P) (.ref 160) = true := by kernel_rfl
theorem glob160 (P : Params) : nsIn (KH P) mainGlobals (Str.ofString "_law_row") = some (some (.ref 160)) := by kernel_rfl
set_option maxHeartbeats 1000000 in
theorem turn_walk {c : Cx} {fa : Addr} {cdv : Value} {fx : FX} {bs : List Addr} {itl base led : Led} {sp t : Nat} {ts : Tok} {m : Map} {x1 x2 : Obj} (O : c.Ok 5) (he : c.env = envOfC (Str.ofString "law") (fScope (topAt 28)) c.L fa cdv) (hsp : sp + 1 = bs.length) (ht : t < 3) (hbz : bs.length ≤ 4)
    (h1 : (c.L + 1, x1) ∈ base) (hx1 : x1.data = .cell (some (.ref fx.B))) (h2 : (c.L + 1 + 1, x2) ∈ base) (hx2 : x2.data = .cell (some (.ref fx.Dl))) (hT : TS c.w (c.L + 1 + 1 + 1) fx bs itl base sp ts t m led) :
    TrS c m led inB (fun f m' led' => f = .next ∧ TS c.w (c.L + 1 + 1 + 1) fx bs itl base sp ts (t + 1) m' led') := by
  obtain ⟨ras, das, rs, ls, lo, lm, per, dxs, pr, ⟨xc, wo, v0, cB, cR, cD, cL, cO, lsv, lov, hM, hc, hw, sc, hl, ho⟩, hB, hb, hn, hs⟩ := hT
  have kW : c.env.kindOf (Str.ofString "well") = some .local := by rw [he]; rfl
  have kR : c.env.kindOf (Str.ofString "rows") = some .local := by rw [he]; rfl
  have kL : c.env.kindOf (Str.ofString "listed") = some .local := by rw [he]; rfl
  have kO : c.env.kindOf (Str.ofString "lone") = some .local := by rw [he]; rfl
  have kS : c.env.kindOf (Str.ofString "spot") = some .local := by rw [he]; rfl
  have kY : c.env.kindOf (Str.ofString "way") = some .local := by rw [he]; rfl
  have kB : c.env.kindOf (Str.ofString "built") = some .cell := by rw [he]; rfl
  have kD : c.env.kindOf (Str.ofString "decls") = some .cell := by rw [he]; rfl
  have xB : c.env.cells.lookup (Str.ofString "built") = some (c.L + 1) := by rw [he]; rfl
  have xD : c.env.cells.lookup (Str.ofString "decls") = some (c.L + 1 + 1) := by rw [he]; rfl
  have g1 : c.env.kindOf (Str.ofString "_law_row") = some .globalImplicit := by rw [he]; rfl
  have g2 : c.env.kindOf (Str.ofString "_law_decl") = some .globalImplicit := by rw [he]; rfl
  have g3 : c.env.kindOf (Str.ofString "_law_draw") = some .globalImplicit := by rw [he]; rfl
  have g4 : c.env.kindOf (Str.ofString "len") = some .globalImplicit := by rw [he]; rfl
  have nW {m led p} (h : MN fx m) : Ev c m led (.Name (Str.ofString "well") p) (.ref fx.W) := .loc O kW h.well rfl
  have nR {m led p} (h : MN fx m) : Ev c m led (.Name (Str.ofString "rows") p) (.ref fx.Rw) := .loc O kR h.rows rfl
  have nL {m led p} (h : MN fx m) : Ev c m led (.Name (Str.ofString "listed") p) (.ref fx.Ls) := .loc O kL h.listed rfl
  have nO {m led p} (h : MN fx m) : Ev c m led (.Name (Str.ofString "lone") p) (.ref fx.Lo) := .loc O kO h.lone rfl
  have nS {m led p} (h : m (Str.ofString "spot") = some (.int (sp : Nat) ts)) : Ev c m led (.Name (Str.ofString "spot") p) (.int (sp : Nat)) := .loc O kS h ⟨ts, rfl⟩
  have nB {m led p} (h : ∀ p ∈ base, p ∈ led) : Ev c m led (.Name (Str.ofString "built") p) (.ref fx.B) := .cell O kB xB (h _ h1) hx1 rfl
  have nD {m led p} (h : ∀ p ∈ base, p ∈ led) : Ev c m led (.Name (Str.ofString "decls") p) (.ref fx.Dl) := .cell O kD xD (h _ h2) hx2 rfl
  have hrl : rs.length ≤ 11 := by have := hB.rl; omega
  have hspl : sp < bs.length := by omega
  obtain ⟨a, ha⟩ : ∃ a, bs[sp]? = some a := ⟨_, List.getElem?_eq_getElem hspl⟩
  obtain ⟨L, cM, dx0, hlm, hdx0, hca⟩ := hB.con sp a ha
  have hlr : ras.length ≤ 11 := by rw [hB.rlen]; exact hrl
  have hld : das.length ≤ 11 := by rw [hB.dlen]; exact hrl
  -- rows.append(_law_row(well, spot))
  refine St.appendT (nR hn) ⟨_, _, hM.inMu _ (.tail _ (.tail _ (.tail _ (.head _))))⟩ (Tr.call (O.less (by decide)) (glob_ O g1 (glob160 _)) (keep160 _) (.cons (nW hn) (.cons (nS hs) .nil)) (k := 2)
    (post := fun led' v => ∃ a r, v = .ref a ∧ RowAt c.w led' a r ∧ (∀ p ∈ led, p.1 ≠ a) ∧ r.spot = sp ∧ RowOk r ∧ WellAt led' fx.W fx.lW ∧ Keep fx.W led led') fun vs q => ?q1) ?s1 (hi := by rw [he]; rfl)
  case q1 => cases q with | cons a1 q => cases q with | cons a2 q => cases q; cases a1; obtain ⟨t2, rfl⟩ := a2; exact row_fn c.w (hM.well (lW := fx.lW) hw sc)
  rintro u m1 led1 ⟨rfl, ra, r, rfl, hra, hfr, hrs, hrk, hW1, hK1⟩
  obtain ⟨wo1, hw1, M1⟩ := hM.drawn hW1 hK1
  obtain ⟨o, kvs, hro, hrd⟩ := hra.out
  have F1 := hM.fresh hfr
  have M2 := M1.keep (p := (ra, o)) hro F1.1 F1.2.1
  refine ⟨refsOf ras, cR, M1.inMu _ (.tail _ (.tail _ (.tail _ (.head _)))), by rw [refsOf_len]; omega, ?_⟩
  rw [refsOf_snoc]
  have M3 : MU (muL (c.L + 1 + 1 + 1) fx xc wo1 (refL bs cB) (refL (ras ++ [ra]) (cR + 1)) (refL das cD) (listOf lsv.toArray cL) (listOf lov.toArray cO) lm) itl ((ra, o) :: per) (put led1 fx.Rw (refL (ras ++ [ra]) (cR + 1))) := M2.put (mu1 := [_, _, _]) _
  generalize put led1 fx.Rw (refL (ras ++ [ra]) (cR + 1)) = led2 at M3 ⊢
  clear M1 M2 hM hra
  have p2 : ∀ p ∈ (ra, o) :: per, p ∈ led2 := fun p hp => (M3.inPer p hp).1
  have b2 : ∀ p ∈ base, p ∈ led2 := fun p hp => p2 p (.tail _ (hb p hp))
  have hra2 : RowAt c.w ((ra, o) :: per) ra r := ⟨⟨o, kvs, .head _, hrd⟩⟩
  have hra3 : RowAt c.w ((ra, o) :: pr) ra r := ⟨⟨o, kvs, .head _, hrd⟩⟩
  obtain ⟨⟨nm, hnm, hnl⟩, _⟩ := hca.out (led := led2) fun p hp => p2 p (.tail _ hp)
  -- decls.append(_law_decl(rows[-1], built[spot], len(decls)))
  refine St.appendT (nD b2) ⟨_, _, M3.inMu _ (.tail _ (.tail _ (.tail _ (.tail _ (.head _)))))⟩ (Tr.callI (O.less (by decide)) (k := 4) (Q := fun v m' led' => m1 = m' ∧ ∃ d dx f kk, v = .ref d ∧ OwnF 59 led' d dx f kk ∧ kk ≤ 100 ∧ MemF f r (.ref a) ∧ ∀ p ∈ led2, p ∈ led' ∧ p.1 ≠ d ∧ p.1 ≠ dx) (glob_ O g2 (glob167 _)) (keep167 _)
    (Its.ev (.last (d := .ref ra) (nR hn) .neg1 (M3.inMu _ (.tail _ (.tail _ (.tail _ (.head _))))) (by rw [refsOf_len, List.length_append]; show ras.length + 1 ≤ 1000; omega) refsOf_last rfl) fun v1 hv1 =>
     Its.ev (.item (d := .ref a) (nB b2) (nS hs) (M3.inMu _ (.tail _ (.tail _ (.head _)))) (Int.natCast_nonneg _) (by omega) (by rw [Int.toNat_natCast]; exact refsOf_at ha) rfl) fun v2 hv2 =>
     Its.ev (.len O g4 (nD b2) (M3.inMu _ (.tail _ (.tail _ (.tail _ (.tail _ (.head _)))))) (by rw [refsOf_len]; omega)) fun v3 hv3 => Its.nil ?q2)) ?s2 (hi := by rw [he]; rfl)
  case q2 =>
    cases hv1; cases hv2; obtain ⟨t3, rfl⟩ := hv3
    exact Tr.mono (decl_fn c.w (hra2.mono p2) hrk.short hnm hnl c _ rfl (O.less (by decide))) fun v m' led' ⟨e1, e2⟩ => ⟨e1.symm, e2⟩
  rintro u _ led3 ⟨rfl, d, dx, f, kk, rfl, ⟨es, ne, hi, hdx, hne, hes, hel, hef⟩, hkk, hmf, hfr2⟩
  have M4 := M3.sub fun p hp => (hfr2 p hp).1
  have Fd := M3.fresh fun p hp => (hfr2 p hp).2.1
  have Fx := M3.fresh fun p hp => (hfr2 p hp).2.2
  have M5 := M4.keep (p := (d, instObj 59 dx)) hi Fd.1 Fd.2.1
  have M6 := M5.own (p := (dx, dictOf es ne)) hdx Fx.1 Fx.2.1 fun q hq => by
    rcases List.mem_cons.mp hq with rfl | hq
    · exact hne
    · exact Fx.2.2 q hq
  refine ⟨refsOf das, cD, M6.inMu _ (.tail _ (.tail _ (.tail _ (.tail _ (.head _))))), by rw [refsOf_len]; omega, ?_⟩
  rw [refsOf_snoc]
  have M7 : MU (muL (c.L + 1 + 1 + 1) fx xc wo1 (refL bs cB) (refL (ras ++ [ra]) (cR + 1)) (refL (das ++ [d]) (cD + 1)) (listOf lsv.toArray cL) (listOf lov.toArray cO) (lm ++ [(dx, dictOf es ne)])) itl ((d, instObj 59 dx) :: (ra, o) :: per) (put led3 fx.Dl (refL (das ++ [d]) (cD + 1))) := M6.put (mu1 := [_, _, _, _]) _
  generalize put led3 fx.Dl (refL (das ++ [d]) (cD + 1)) = led4 at M7 ⊢
  clear M3 M4 M5 M6 p2 b2 hnm
  have hdas : d ∉ das := fun hm => by
    obtain ⟨j, hj⟩ := List.getElem?_of_mem hm
    have hjl := (List.getElem?_eq_some_iff.mp hj).1
    rw [hB.dlen] at hjl
    obtain ⟨d', h3, h4, _⟩ := hB.decls j _ (List.getElem?_eq_getElem hjl)
    rw [hj] at h3
    cases h3
    obtain ⟨t5, dx5, es5, n5, h5, _⟩ := h4.kind
    exact Fd.2.2 _ (.tail _ (hB.prp _ h5).1) rfl
  have hdxs : ∀ x, (∀ p ∈ per, p.1 ≠ x) → x ∉ dxs := fun x hx hm => by
    obtain ⟨i, hi⟩ := List.getElem?_of_mem hm
    have hil := (List.getElem?_eq_some_iff.mp hi).1
    rw [hB.dxl] at hil
    obtain ⟨_, _, dx', _, h4, ⟨_, _, _, _, ⟨_, _, _, h5, _⟩, _⟩⟩ := hB.con i _ (List.getElem?_eq_getElem hil)
    rw [hi] at h4
    cases h4
    exact hx _ h5 rfl
  -- way = _law_draw(well, 9)
  refine St.setT O kY (Tr.draw (k := 4) O g3 (M7.well (lW := fx.lW) hw1 (let ⟨a, b, c, h1, h2⟩ := sc; ⟨a, b, c, h1, .tail _ (.tail _ h2)⟩)) (nW hn) .int_ (by decide)) ?_
  rintro v m3 led5 ⟨em, ⟨wy, w0, w9, tw, rfl⟩, hW5, hK5⟩
  obtain ⟨wo2, hw2, M8⟩ := M7.drawn hW5 hK5
  rw [em]
  clear M7 em m3
  have hn2 := hn.upd (x := (Str.ofString "way")) (v := .int wy tw) (by decide +kernel)
  have hs2 := upd_ne (x := (Str.ofString "way")) (v := .int wy tw) hs (by decide)
  have hy2 := upd_at (m := m1) (x := (Str.ofString "way")) (v := .int wy tw)
  generalize upd m1 (Str.ofString "way") (.int wy tw) = m2 at hn2 hs2 hy2 ⊢
  have hlast : (((refsOf (das ++ [d])).length : Nat) : Int) - 1 = (rs.length : Nat) := by rw [refsOf_len, List.length_append, hB.dlen]; simp
  have nLast {led' p1 p2 p3 p4 p5 n} (hb' : ∀ p ∈ base, p ∈ led') (hm : (fx.Dl, refL (das ++ [d]) (cD + 1)) ∈ led') : Ev c m2 led' (.BinOp (.Call (.Name (Str.ofString "len") p1) [.Name (Str.ofString "decls") p2] [] p3) .Sub (.Constant (.int 1) n p4) p5) (.int (rs.length : Nat)) :=
    hlast ▸ .sub (.len O g4 (nD hb') hm (by rw [refsOf_len, List.length_append]; show das.length + 1 ≤ 1000; omega)) .int_
  have nDl {led' p1 p2 p3 p4 n} (hb' : ∀ p ∈ base, p ∈ led') (hm : (fx.Dl, refL (das ++ [d]) (cD + 1)) ∈ led') : Ev c m2 led' (.Subscript (.Name (Str.ofString "decls") p1) (.UnaryOp .USub (.Constant (.int 1) n p2) p3) p4) (.ref d) :=
    .last (d := .ref d) (nD hb') .neg1 hm (by rw [refsOf_len, List.length_append]; show das.length + 1 ≤ 1000; omega) refsOf_last rfl
  -- if way == 8
  refine St.ifJ (b := wy == 8) (fun m' led' => m2 = m' ∧ ∃ es' ne' f' lov' cO', MU (muL (c.L + 1 + 1 + 1) fx xc wo2 (refL bs cB) (refL (ras ++ [ra]) (cR + 1)) (refL (das ++ [d]) (cD + 1)) (listOf lsv.toArray cL) (listOf lov'.toArray cO') (lm ++ [(dx, dictOf es' ne')])) itl ((d, instObj 59 dx) :: (ra, o) :: per) led' ∧
    IntsAre lov' (natZ (lo ++ if (wy == 8) = true then [rs.length] else [])) ∧ (StrEs es' ∧ es'.length ≤ 200 ∧ ∀ y, (es'.find? (·.key.isStr y)).map (·.val) = f' y) ∧ MemF f' r (if (wy == 8) = true then .none else .ref a)) (.cmp (.loc (d := .int wy) O kY hy2 ⟨tw, rfl⟩) .int_ .eqInt) (fun hb8 => ?on8) (fun hb8 => ⟨rfl, es, ne, f, lov, cO, M8, ?off8, ⟨hes, by omega, hef⟩, ?mf8⟩) ?rest
  case off8 => rw [hb8, if_neg Bool.false_ne_true, List.append_nil]; exact ho
  case mf8 => rw [hb8, if_neg Bool.false_ne_true]; exact hmf
  case on8 =>
    refine St.setAttr (a := d) (dx := dx) (f := f) (kk := kk) O (plain59 (by decide +kernel)) (Tr.mono Ev.none_ ?_)
    rintro v m' led' ⟨e1, rfl, rfl⟩
    cases e1
    have b5 : ∀ p ∈ base, p ∈ led' := fun p hp => (M8.inPer p (.tail _ (.tail _ (hb p hp)))).1
    refine ⟨nDl b5 (M8.inMu _ (.tail _ (.tail _ (.tail _ (.tail _ (.head _)))))), ⟨es, ne, (M8.inPer _ (.head _)).1, M8.inMu _ (.tail _ (.tail _ (.tail _ (.tail _ (.tail _ (.tail _ (.tail _ (List.mem_append_right _ (.head _))))))))), hne, hes, hel, hef⟩, by omega, fun led6 h6 ⟨es6, ne6, _, hdx6, _, hes6, hel6, hef6⟩ => ?_⟩
    have M9 : MU (muL (c.L + 1 + 1 + 1) fx xc wo2 (refL bs cB) (refL (ras ++ [ra]) (cR + 1)) (refL (das ++ [d]) (cD + 1)) (listOf lsv.toArray cL) (listOf lov.toArray cO) (lm ++ [(dx, dictOf es6 ne6)])) itl ((d, instObj 59 dx) :: (ra, o) :: per) led6 := M8.set (mu1 := [_, _, _, _, _, _, _] ++ lm) (mu2 := []) hdx6 h6
    have b6 : ∀ p ∈ base, p ∈ led6 := fun p hp => (M9.inPer p (.tail _ (.tail _ (hb p hp)))).1
    refine St.append (nO hn2) (nLast b6 (M9.inMu _ (.tail _ (.tail _ (.tail _ (.tail _ (.head _))))))) (M9.inMu _ (.tail _ (.tail _ (.tail _ (.tail _ (.tail _ (.tail _ (.head _)))))))) ?lz (fun u hu => ?_) (hi := by rw [he]; rfl)
    case lz =>
      have := ho.length
      rw [List.length_map] at this
      have := hB.lol
      omega
    obtain ⟨tu, rfl⟩ := hu
    refine St.nil ⟨rfl, rfl, es6, ne6, _, _, _, M9.put (mu1 := [_, _, _, _, _, _]) _, ?_, ⟨hes6, by omega, hef6⟩, ?_⟩
    · rw [hb8, if_pos rfl]
      unfold natZ
      rw [List.map_append]
      exact ho.append (.cons _ _ .nil)
    · rw [hb8, if_pos rfl]
      obtain ⟨⟨t1, e1⟩, ⟨t2, e2⟩, ⟨t3, e3⟩, ⟨t4, e4⟩, ⟨t5, e5⟩, e6, e7⟩ := hmf
      refine ⟨⟨t1, upd_ne e1 (by decide)⟩, ⟨t2, upd_ne e2 (by decide)⟩, ⟨t3, upd_ne e3 (by decide)⟩, ⟨t4, upd_ne e4 (by decide)⟩, ⟨t5, upd_ne e5 (by decide)⟩, ?_, upd_at⟩
      split at e6
      · rename_i hf; rw [if_pos hf]; obtain ⟨b, e6⟩ := e6; exact ⟨b, upd_ne e6 (by decide)⟩
      · rename_i hf; rw [if_neg hf]; exact upd_ne e6 (by decide)
  case rest =>
    rintro _ led6 ⟨rfl, es', ne', f', lov', cO', M9, hlo', ⟨hes', hel', hef'⟩, hmf'⟩
    have b6 : ∀ p ∈ base, p ∈ led6 := fun p hp => (M9.inPer p (.tail _ (.tail _ (hb p hp)))).1
    have hsr : r.spot = sp := hrs
    have ha' : bs[r.spot]? = some a := by rw [hsr]; exact ha
    have fin : ∀ (led' : Led) (lm' : Led) (lsv' : List Value) (cL' : Nat), MU (muL (c.L + 1 + 1 + 1) fx xc wo2 (refL bs cB) (refL (ras ++ [ra]) (cR + 1)) (refL (das ++ [d]) (cD + 1)) (listOf lsv'.toArray cL') (listOf lov'.toArray cO') (lm' ++ [(dx, dictOf es' ne')])) itl ((d, instObj 59 dx) :: (ra, o) :: per) led' →
        IntsAre lsv' (natZ (ls ++ if decide (wy < 7) = true then [rs.length] else [])) → lm'.length = lm.length → (∀ i, i ≠ r.spot → lm'[i]? = lm[i]?) → (∃ n', lm'[sp]? = some (L, refL (memA rs das ls sp ++ (if decide (wy < 7) = true then [d] else [])) n')) →
        TS c.w (c.L + 1 + 1 + 1) fx bs itl base sp ts (t + 1) m2 led' := fun led' lm' lsv' cL' M hls hl1 hl2 hl3 => by
      have M' := MU.free (mu := muL (c.L + 1 + 1 + 1) fx xc wo2 (refL bs cB) (refL (ras ++ [ra]) (cR + 1)) (refL (das ++ [d]) (cD + 1)) (listOf lsv'.toArray cL') (listOf lov'.toArray cO') lm') M
      have hown : OwnF 59 ((dx, dictOf es' ne') :: (d, instObj 59 dx) :: (ra, o) :: pr) d dx f' 200 := ⟨es', ne', .tail _ (.head _), .head _, hne, hes', hel', hef'⟩
      obtain ⟨⟨t1, e1⟩, ⟨t2, e2⟩, ⟨t3, e3⟩, ⟨t4, e4⟩, ⟨t5, e5⟩, e6, e7⟩ := hmf'
      refine ⟨ras ++ [ra], das ++ [d], rs ++ [r], _, _, lm', _, dxs, _, ⟨xc, wo2, v0, _, _, _, _, _, lsv', lov', M', hc, hw2, ?_, hls, hlo'⟩,
        BI.add (bl := decide (wy < 7)) (bo := wy == 8) hB (pr' := (dx, dictOf es' ne') :: (d, instObj 59 dx) :: (ra, o) :: pr) (fun p hp => .tail _ (.tail _ (.tail _ hp))) (fun p hp => .tail _ (.tail _ (.tail _ hp))) ?prs (hra3.mono fun p hp => .tail _ (.tail _ hp)) hrk (by omega) ⟨⟨t1, hown.attr e1⟩, ⟨t2, hown.attr e2⟩, ⟨t3, hown.attr e3⟩, ⟨t4, hown.attr e4⟩, ⟨t5, hown.attr e5⟩, ?_⟩ ?_ hdas ?_ hl1 hl2 ?_,
        fun p hp => .tail _ (.tail _ (.tail _ (hb p hp))), hn2, hs2⟩
      case prs =>
        intro p hp
        rcases List.mem_cons.mp hp with rfl | hp
        · exact ⟨.head _, hdxs _ fun p hp => Fx.2.2 p (.tail _ hp)⟩
        rcases List.mem_cons.mp hp with rfl | hp
        · exact ⟨.tail _ (.head _), hdxs _ fun p hp => Fd.2.2 p (.tail _ hp)⟩
        rcases List.mem_cons.mp hp with rfl | hp
        · exact ⟨.tail _ (.tail _ (.head _)), hdxs _ F1.2.2⟩
        · exact ⟨.tail _ (.tail _ (.tail _ (hB.prp p hp).1)), (hB.prp p hp).2⟩
      · obtain ⟨a, b, c, h1, h2⟩ := sc; exact ⟨a, b, c, h1, .tail _ (.tail _ (.tail _ h2))⟩
      · split at e6
        · rename_i hf; rw [if_pos hf]; obtain ⟨b, e6⟩ := e6; exact ⟨b, hown.attr e6⟩
        · rename_i hf; rw [if_neg hf]; exact hown.attr e6
      · rw [ha']
        cases hb8 : (wy == 8) with
        | true => rw [hb8, if_pos rfl] at e7; exact ⟨.none, rfl, hown.attr e7⟩
        | false => rw [hb8, if_neg Bool.false_ne_true] at e7; exact ⟨.ref a, rfl, hown.attr e7⟩
      · cases hb8 : (wy == 8) with
        | false => rw [Bool.and_false]
        | true =>
          have : wy = 8 := eq_of_beq hb8
          rw [decide_eq_false (by omega)]
          rfl
      · intro L' n' e
        rw [hsr, hlm] at e
        cases e
        rw [hsr]
        exact hl3
    refine St.if0 (b := decide (wy < 7)) (.cmp (.loc (d := .int wy) O kY hy2 ⟨tw, rfl⟩) .int_ .ltInt) (fun hb7 => ?_) fun hb7 => ?_
    · have hLm : (L, refL (memA rs das ls sp) cM) ∈ lm := List.mem_of_getElem? hlm
      obtain ⟨_, hmem⟩ := hca.out (led := led6) fun p hp => (M9.inPer p (.tail _ (.tail _ hp))).1
      have hcur : (memA rs das ls sp).length ≤ 3 := by
        have := hB.cur
        unfold memA
        rw [List.length_map, show sp = bs.length - 1 by omega]
        omega
      refine St.append (.attr O (.item (d := .ref a) (nB b6) (nS hs2) (M9.inMu _ (.tail _ (.tail _ (.head _)))) (Int.natCast_nonneg _) (by omega) (by rw [Int.toNat_natCast]; exact refsOf_at ha) rfl) hmem (.tail _ (.tail _ (.tail _ (.tail _ (.tail _ (.tail _ (.tail _ (.head _))))))))) (nDl b6 (M9.inMu _ (.tail _ (.tail _ (.tail _ (.tail _ (.head _)))))))
        (M9.inMu _ (.tail _ (.tail _ (.tail _ (.tail _ (.tail _ (.tail _ (.tail _ (List.mem_append_left _ hLm))))))))) (by rw [refsOf_len]; omega) (fun u hu => ?_) (hi := by rw [he]; rfl)
      cases hu
      rw [refsOf_snoc]
      have M10 : MU (muL (c.L + 1 + 1 + 1) fx xc wo2 (refL bs cB) (refL (ras ++ [ra]) (cR + 1)) (refL (das ++ [d]) (cD + 1)) (listOf lsv.toArray cL) (listOf lov'.toArray cO') (lm.set sp (L, refL (memA rs das ls sp ++ [d]) (cM + 1)) ++ [(dx, dictOf es' ne')])) itl ((d, instObj 59 dx) :: (ra, o) :: per) (put led6 L (refL (memA rs das ls sp ++ [d]) (cM + 1))) :=
        MU.setAt (mu0 := [_, _, _, _, _, _, _]) (mu2 := [_]) M9 hlm _
      generalize put led6 L (refL (memA rs das ls sp ++ [d]) (cM + 1)) = led7 at M10 ⊢
      have b7 : ∀ p ∈ base, p ∈ led7 := fun p hp => (M10.inPer p (.tail _ (.tail _ (hb p hp)))).1
      refine St.append (nL hn2) (nLast b7 (M10.inMu _ (.tail _ (.tail _ (.tail _ (.tail _ (.head _))))))) (M10.inMu _ (.tail _ (.tail _ (.tail _ (.tail _ (.tail _ (.head _))))))) ?lz2 (fun u hu => ?_) (hi := by rw [he]; rfl)
      case lz2 =>
        have := hl.length
        rw [List.length_map] at this
        have := hB.lsl
        omega
      obtain ⟨tu, rfl⟩ := hu
      refine St.nil (P := Then c [] _) (St.nil ⟨rfl, fin _ _ _ _ (M10.put (mu1 := [_, _, _, _, _]) _) ?_ (List.length_set ..) (fun i hi => List.getElem?_set_ne (by rw [hsr] at hi; exact hi.symm)) ?_⟩)
      · rw [hb7, if_pos rfl]
        unfold natZ
        rw [List.map_append]
        exact hl.append (.cons _ _ .nil)
      · rw [hb7, if_pos rfl]
        exact ⟨_, List.getElem?_set_self (List.getElem?_eq_some_iff.mp hlm).1⟩
    · refine St.nil ⟨rfl, fin led6 lm lsv cL M9 ?_ rfl (fun _ _ => rfl) ?_⟩
      · rw [hb7, if_neg Bool.false_ne_true, List.append_nil]; exact hl
      · rw [hb7, if_neg Bool.false_ne_true, List.append_nil]; exact ⟨cM, hlm⟩
section
variable {w : World} {bs ras das : List Addr} {rs : List Row} {ls lo : List Nat} {lm per per' pr : Led} {dxs : List Addr} {t t' : Nat}
theorem BI.more (h : BI w bs ras das rs ls lo lm per dxs pr t) (ht : t ≤ t') : BI w bs ras das rs ls lo lm per dxs pr t' := { h with cur := Nat.le_trans h.cur ht, rl := Nat.le_trans h.rl (by omega) }
theorem BI.spotN (h : BI w bs ras das rs ls lo lm per dxs pr t) {j : Nat} (hj : j < rs.length) : spotN rs j < bs.length := by
  unfold Mine.spotN
  rw [List.getElem?_eq_getElem hj]
  exact (h.spot _ (List.getElem_mem hj)).1
theorem BI.newCon (h : BI w bs ras das rs ls lo lm per dxs pr 3) (hs : ∀ p ∈ per, p ∈ per') {a dx L : Addr} {n : Nat} (hc : ConAt per' a dx L) (hn : a ∉ bs) (hx : dx ∉ dxs) (hy : ∀ p ∈ per, p.1 ≠ dx) : BI w (bs ++ [a]) ras das rs ls lo (lm ++ [(L, refL [] n)]) per' (dxs ++ [dx]) pr 0 := by
  have hm := h.mono hs
  have hlen : (bs ++ [a]).length = bs.length + 1 := by rw [List.length_append]; rfl
  have hnil : memI rs ls bs.length = [] := List.filter_eq_nil_iff.mpr fun j hj => by
    have := h.spotN (h.lsb j hj)
    simp only [beq_iff_eq]
    omega
  refine { hm with decls := fun j r hr => ?_, spot := fun r hr => ⟨by rw [hlen]; exact Nat.lt_succ_of_lt (h.spot r hr).1, (h.spot r hr).2⟩, clen := by rw [hlen, List.length_append, h.clen]; rfl, con := fun i b hb => ?_, bnd := ?_, few := fun i hi => ?_, cur := ?_, rl := ?_, dxl := by rw [hlen, List.length_append, h.dxl]; rfl, dxn := ?_, prp := fun p hp => ⟨hs p (h.prp p hp).1, fun hm => ?_⟩ }
  · obtain ⟨d, h1, h2, h3⟩ := hm.decls j r hr
    refine ⟨d, h1, h2, ?_⟩
    rw [List.getElem?_append_left (h.spot r (List.mem_of_getElem? hr)).1]
    exact h3
  · rcases Nat.lt_trichotomy i bs.length with hi | hi | hi
    · rw [List.getElem?_append_left hi] at hb
      obtain ⟨L', n', dx', h1, h2, h3⟩ := hm.con i b hb
      exact ⟨L', n', dx', by rw [List.getElem?_append_left (h.clen ▸ hi)]; exact h1, by rw [List.getElem?_append_left (h.dxl ▸ hi)]; exact h2, h3⟩
    · subst hi
      rw [List.getElem?_append_right (Nat.le_refl _), Nat.sub_self] at hb
      cases hb
      refine ⟨L, n, dx, ?_, by rw [← h.dxl, List.getElem?_append_right (Nat.le_refl _), Nat.sub_self]; rfl, hc⟩
      rw [← h.clen, List.getElem?_append_right (Nat.le_refl _), Nat.sub_self, h.clen]
      unfold memA
      rw [hnil]
      rfl
    · rw [List.getElem?_eq_none (by rw [hlen]; omega)] at hb; exact nomatch hb
  · rw [List.nodup_append]
    refine ⟨h.bnd, List.pairwise_singleton _ _, fun x hx y hy e => ?_⟩
    rw [List.mem_singleton] at hy; subst hy; subst e; exact hn hx
  · rw [hlen] at hi
    rcases Nat.lt_or_ge (i + 1) bs.length with h1 | h1
    · exact h.few i h1
    · rw [show i = bs.length - 1 by omega]; exact h.cur
  · rw [hlen, Nat.add_sub_cancel, hnil]; exact Nat.le_refl _
  · rw [hlen, Nat.add_sub_cancel]
    have := h.rl
    cases hb : bs.length with
    | zero =>
      have : rs = [] := List.eq_nil_iff_forall_not_mem.mpr fun r hr => by
        have := (h.spot r hr).1
        omega
      rw [this]; exact Nat.zero_le _
    | succ k => rw [hb] at this; omega
  · rw [List.nodup_append]
    refine ⟨h.dxn, List.pairwise_singleton _ _, fun x hx' y hy' e => ?_⟩
    rw [List.mem_singleton] at hy'; subst hy'; subst e; exact hx hx'
  · rcases List.mem_append.mp hm with hm | hm
    · exact (h.prp p hp).2 hm
    · exact hy p (h.prp p hp).1 (List.mem_singleton.mp hm)
end
section
variable {w : World} {C I : Addr} {fx : FX} {bs ras das : List Addr} {ls lo : List Nat} {lm itl per base led : Led} {oI : Obj} {sp t i : Nat} {ts : Tok} {m : Map}
theorem RS.push (h : RS C fx bs ras das ls lo lm itl per led) (ha : Apart led [I]) : RS C fx bs ras das ls lo lm ((I, oI) :: itl) per ((I, oI) :: led) :=
  let ⟨xc, wo, v0, a, b, c, d, e, f, g, hM, h1, h2, h3, h4, h5⟩ := h; ⟨xc, wo, v0, a, b, c, d, e, f, g, hM.push ha, h1, h2, h3, h4, h5⟩
theorem RS.pop (h : RS C fx bs ras das ls lo lm ((I, oI) :: itl) per led) (ha : ∀ q ∈ itl, q.1 ≠ I) : ∃ led2, (∀ p ∈ (I, oI) :: led2, p ∈ led) ∧ Apart led2 [I] ∧ RS C fx bs ras das ls lo lm itl per led2 :=
  let ⟨xc, wo, v0, a, b, c, d, e, f, g, hM, h1, h2, h3, h4, h5⟩ := h; let ⟨led2, q1, q2, q3⟩ := hM.pop ha; ⟨led2, q1, q2, xc, wo, v0, a, b, c, d, e, f, g, q3, h1, h2, h3, h4, h5⟩
theorem RS.its (h : RS C fx bs ras das ls lo lm itl per led) : ∀ q ∈ itl, q ∈ led := let ⟨_, _, _, _, _, _, _, _, _, _, hM, _, _, _, _, _⟩ := h; fun q hq => (hM.inIts q hq).1
theorem TS.push (h : TS w C fx bs itl base sp ts t m led) (ha : Apart led [I]) {x : Str} {v : Value} (hx : [(Str.ofString "well"), (Str.ofString "rows"), (Str.ofString "listed"), (Str.ofString "lone"), (Str.ofString "spot")].contains x = false) : TS w C fx bs ((I, oI) :: itl) base sp ts t (upd m x v) ((I, oI) :: led) := by
  obtain ⟨ras, das, rs, ls, lo, lm, per, dxs, pr, hR, hB, hb, hn, hs⟩ := h
  have hx' : [(Str.ofString "well"), (Str.ofString "rows"), (Str.ofString "listed"), (Str.ofString "lone")].contains x = false := by
    rw [Bool.eq_false_iff, ne_eq, List.contains_iff_mem] at hx ⊢
    exact fun h => hx (List.mem_append_left [(Str.ofString "spot")] h)
  have hxs : (Str.ofString "spot") ≠ x := fun e => by subst e; exact absurd hx (by decide +kernel)
  exact ⟨ras, das, rs, ls, lo, lm, per, dxs, pr, hR.push ha, hB, hb, hn.upd hx', upd_ne hs hxs⟩
theorem TS.pop (h : TS w C fx bs ((I, oI) :: itl) base sp ts t m led) (ha : ∀ q ∈ itl, q.1 ≠ I) : ∃ led2, (∀ p ∈ (I, oI) :: led2, p ∈ led) ∧ Apart led2 [I] ∧ TS w C fx bs itl base sp ts t m led2 := by
  obtain ⟨ras, das, rs, ls, lo, lm, per, dxs, pr, hR, hB, hb, hn, hs⟩ := h
  obtain ⟨led2, q1, q2, q3⟩ := hR.pop ha
  exact ⟨led2, q1, q2, ras, das, rs, ls, lo, lm, per, dxs, pr, q3, hB, hb, hn, hs⟩
theorem TS.its (h : TS w C fx bs itl base sp ts t m led) : ∀ q ∈ itl, q ∈ led := let ⟨_, _, _, _, _, _, _, _, _, hR, _, _, _, _⟩ := h; hR.its
/-- behind i contracts -/
inductive OS (w : World) (C : Addr) (fx : FX) (itl base : Led) (i : Nat) (m : Map) (led : Led) : Prop
  | mk (bs ras das : List Addr) (rs : List Row) (ls lo : List Nat) (lm per : Led) (dxs : List Addr) (pr : Led) (hi : bs.length = i) (hR : RS C fx bs ras das ls lo lm itl per led) (hB : BI w bs ras das rs ls lo lm per dxs pr 3) (hb : ∀ p ∈ base, p ∈ per) (hn : MN fx m) : OS w C fx itl base i m led
theorem OS.its (h : OS w C fx itl base i m led) : ∀ q ∈ itl, q ∈ led := let ⟨_, _, _, _, _, _, _, _, _, _, _, hR, _, _, _⟩ := h; hR.its
end
theorem keep146 (P : Params) : keepIn (KH P) (.ref 146) = true := by kernel_rfl
theorem glob146 (P : Params) : nsIn (KH P) mainGlobals (Str.ofString "_law_well") = some (some (.ref 146)) := by kernel_rfl
theorem name_len {i : Nat} (hi : i ≤ 100) : ((Str.ofString "C") ++ Str.ofString (toString (i : Int))).length ≤ 200 := by
  have h := PyProof.Rows.len_str_of_int (i : Int)
  show ((Str.ofString "C").cps ++ (Str.ofString (toString (i : Int))).cps).size ≤ 200
  rw [Array.size_append]
  have h1 : (Str.ofString "C").cps.size = 1 := by rfl
  have h2 : (Str.ofString (toString (i : Int))).cps.size = (Str.ofString (toString (i : Int))).length := rfl
  omega

set_option maxHeartbeats 1000000 in
theorem out_walk {c : Cx} {fa : Addr} {cdv : Value} {fx : FX} {itl base led : Led} {i : Nat} {tv : Tok} {m : Map} {x1 x2 : Obj} (O : c.Ok 5) (he : c.env = envOfC (Str.ofString "law") (fScope (topAt 28)) c.L fa cdv) (hi4 : i < 4)
    (h1 : (c.L + 1, x1) ∈ base) (hx1 : x1.data = .cell (some (.ref fx.B))) (h2 : (c.L + 1 + 1, x2) ∈ base) (hx2 : x2.data = .cell (some (.ref fx.Dl))) (hT : OS c.w (c.L + 1 + 1 + 1) fx itl base i m led) (hms : m (Str.ofString "spot") = some (.int (i : Nat) tv)) :
    TrS c m led outB (fun f m' led' => f = .next ∧ OS c.w (c.L + 1 + 1 + 1) fx itl base (i + 1) m' led') := by
  obtain ⟨bs, ras, das, rs, ls, lo, lm, per, dxs, pr, hbi, ⟨xc, wo, v0, cB, cR, cD, cL, cO, lsv, lov, hM, hc, hw, sc, hl, ho⟩, hB, hb, hn⟩ := hT
  have kW : c.env.kindOf (Str.ofString "well") = some .local := by rw [he]; rfl
  have kS : c.env.kindOf (Str.ofString "spot") = some .local := by rw [he]; rfl
  have kT : c.env.kindOf (Str.ofString "turn") = some .local := by rw [he]; rfl
  have kB : c.env.kindOf (Str.ofString "built") = some .cell := by rw [he]; rfl
  have xB : c.env.cells.lookup (Str.ofString "built") = some (c.L + 1) := by rw [he]; rfl
  have g1 : c.env.kindOf (Str.ofString "Decl") = some .globalImplicit := by rw [he]; rfl
  have g2 : c.env.kindOf (Str.ofString "str") = some .globalImplicit := by rw [he]; rfl
  have g3 : c.env.kindOf (Str.ofString "_law_draw") = some .globalImplicit := by rw [he]; rfl
  have g4 : c.env.kindOf (Str.ofString "range") = some .globalImplicit := by rw [he]; rfl
  have nS {led p} : Ev c m led (.Name (Str.ofString "spot") p) (.int (i : Nat)) := .loc O kS hms ⟨tv, rfl⟩
  have b0 : ∀ p ∈ base, p ∈ led := fun p hp => (hM.inPer p (hb p hp)).1
  -- built.append(Decl('contract', 'C' + str(spot), 1 + spot))
  refine St.appendT (.cell (d := .ref fx.B) O kB xB (b0 _ h1) hx1 rfl) ⟨_, _, hM.inMu _ (.tail _ (.tail _ (.head _)))⟩ (Tr.callI O (Q := fun v m' led' => m = m' ∧ ∃ a dx L ll f, v = .ref a ∧ FreshD led led' a dx L ll f (Str.ofString "contract") ((Str.ofString "C") ++ Str.ofString (toString (i : Int)))) (glob_ O g1 (glob59 _)) (keep59 _)
    (Its.ev .str_ fun v1 hv1 => Its.ev (.addStr .str_ (.strOf O g2 nS ?lg) ?ln) fun v2 hv2 => Its.ev (.add .int_ nS) fun v3 hv3 => Its.nil ?q1)) ?s1 (hi := by rw [he]; rfl)
  case lg => exact Nat.lt_of_le_of_lt (Nat.log2_le_self _) (by omega)
  case ln =>
    have := name_len (i := i) (by omega)
    have h5 : ((Str.ofString "C").cps ++ (Str.ofString (toString (i : Int))).cps).size ≤ 200 := this
    rw [Array.size_append] at h5
    show (Str.ofString "C").cps.size + (Str.ofString (toString (i : Int))).cps.size ≤ 1000
    omega
  case q1 =>
    obtain ⟨t1, rfl⟩ := hv1; obtain ⟨t2, rfl⟩ := hv2; obtain ⟨t3, rfl⟩ := hv3
    exact Tr.mono (Tr.newDecl (k := 3) O) fun v m' led' ⟨e1, e2⟩ => ⟨e1.symm, e2⟩
  rintro u _ led1 ⟨rfl, a, dx, L, ll, f, rfl, ⟨⟨es, ne, hi, hdx, hne, hes, hel, hef⟩, ⟨_, ⟨v5, hf5, t5, rfl⟩, _, _, hfm, _⟩, hL, _, ⟨_, n2, _, n4, _, _⟩, hold⟩⟩
  have M1 := hM.sub fun p hp => (hold p hp).1
  have Fa := hM.fresh fun p hp => (hold p hp).2.2.2.1
  have Fx := hM.fresh fun p hp => (hold p hp).2.2.2.2
  have Fl := hM.fresh fun p hp => (hold p hp).2.1
  have M2 := (M1.keep (p := (dx, dictOf es ne)) hdx Fx.1 Fx.2.1).keep (p := (a, instObj 59 dx)) hi Fa.1 Fa.2.1
  have M3 := M2.own (p := (L, refL [] 0)) hL Fl.1 Fl.2.1 fun q hq => by
    rcases List.mem_cons.mp hq with rfl | hq
    · exact n4.symm
    rcases List.mem_cons.mp hq with rfl | hq
    · exact n2.symm
    · exact Fl.2.2 q hq
  refine ⟨refsOf bs, cB, M3.inMu _ (.tail _ (.tail _ (.head _))), by rw [refsOf_len]; omega, ?_⟩
  rw [refsOf_snoc]
  have M4 : MU (muL (c.L + 1 + 1 + 1) fx xc wo (refL (bs ++ [a]) (cB + 1)) (refL ras cR) (refL das cD) (listOf lsv.toArray cL) (listOf lov.toArray cO) (lm ++ [(L, refL [] 0)])) itl ((a, instObj 59 dx) :: (dx, dictOf es ne) :: per) (put led1 fx.B (refL (bs ++ [a]) (cB + 1))) := M3.put (mu1 := [_, _]) _
  generalize put led1 fx.B (refL (bs ++ [a]) (cB + 1)) = led2 at M4 ⊢
  have hca : ConAt ((a, instObj 59 dx) :: (dx, dictOf es ne) :: per) a dx L := ⟨f, 30, _, t5, ⟨es, ne, .head _, .tail _ (.head _), hne, hes, hel, hef⟩, by decide, hfm, hf5, name_len (by omega)⟩
  have hab : a ∉ bs := fun hm => by
    obtain ⟨j, hj⟩ := List.getElem?_of_mem hm
    obtain ⟨_, _, _, _, _, ⟨_, _, _, _, ⟨_, _, h5, _⟩, _⟩⟩ := hB.con j a hj
    exact Fa.2.2 _ h5 rfl
  have hxd : dx ∉ dxs := fun hm => by
    obtain ⟨j, hj⟩ := List.getElem?_of_mem hm
    have hjl := (List.getElem?_eq_some_iff.mp hj).1
    rw [hB.dxl] at hjl
    obtain ⟨_, _, dx', _, h4, ⟨_, _, _, _, ⟨_, _, _, h5, _⟩, _⟩⟩ := hB.con j _ (List.getElem?_eq_getElem hjl)
    rw [hj] at h4
    cases h4
    exact Fx.2.2 _ h5 rfl
  have hB2 := hB.newCon (fun p hp => .tail _ (.tail _ hp)) hca hab hxd Fx.2.2 (n := 0)
  have hT0 : TS c.w (c.L + 1 + 1 + 1) fx (bs ++ [a]) itl base i tv 0 m led2 := ⟨ras, das, rs, ls, lo, _, _, _, _, ⟨xc, wo, v0, _, _, _, _, _, lsv, lov, M4, hc, hw, let ⟨a, b, c, h1, h2⟩ := sc; ⟨a, b, c, h1, .tail _ (.tail _ h2)⟩, hl, ho⟩, hB2, fun p hp => .tail _ (.tail _ (hb p hp)), hn, hms⟩
  have hW2 : WellAt led2 fx.W fx.lW := M4.well (lW := fx.lW) hw (let ⟨a, b, c, h1, h2⟩ := sc; ⟨a, b, c, h1, .tail _ (.tail _ h2)⟩)
  clear M1 M2 M3 hM hold
  have hbl : (bs ++ [a]).length = i + 1 := by rw [List.length_append, hbi]; rfl
  -- for turn in range(_law_draw(well, 4))
  refine St.forRange O kT (Tr.range O g4 (Tr.mono (Tr.draw (k := 4) O g3 hW2 (.loc (d := .ref fx.W) O kW hn.well rfl) .int_ (by decide)) ?_))
  rintro v m' led' ⟨em, ⟨n, n0, n4, tn, rfl⟩, hW3, hK3⟩
  subst em
  obtain ⟨wo3, hw3, M5⟩ := M4.drawn hW3 hK3
  refine ⟨n.toNat, ⟨tn, by rw [Int.toNat_of_nonneg n0]⟩, fun r tr ur wr hr => ⟨r, n.toNat, tr, ur, wr, TS c.w (c.L + 1 + 1 + 1) fx (bs ++ [a]) itl base i tv, rfl, .head _, by omega,
    ⟨ras, das, rs, ls, lo, _, _, _, _, ⟨xc, wo3, v0, _, _, _, _, _, lsv, lov, M5.sub fun p hp => .tail _ hp, hc, hw3, let ⟨a, b, c, h1, h2⟩ := sc; ⟨a, b, c, h1, .tail _ (.tail _ h2)⟩, hl, ho⟩, hB2, fun p hp => .tail _ (.tail _ (hb p hp)), hn, hms⟩, ?turn, ?done⟩⟩
  case turn =>
    intro t tt m2 led3 I oI ht hJ ha
    refine Tr.mono (turn_walk O he (by rw [hbl]) (by omega) (by rw [hbl]; omega) h1 hx1 h2 hx2 (hJ.push ha (by decide +kernel))) ?_
    rintro fl m4 led4 ⟨rfl, hJ4⟩
    exact hJ4.pop fun q hq => ha q (hJ.its q hq) I (.head _)
  case done =>
    rintro m2 led3 ⟨ras, das, rs, ls, lo, lm, per, dxs, pr, hR, hB, hb, hn, hs⟩
    exact St.nil ⟨rfl, bs ++ [a], ras, das, rs, ls, lo, lm, per, dxs, pr, hbl, hR, hB.more (by omega), hb, hn⟩
theorem cells3 {C : Nat} : C + 1 ≠ C + 1 + 1 ∧ C + 1 ≠ C + 1 + 1 + 1 ∧ C + 1 + 1 ≠ C + 1 + 1 + 1 := by omega
theorem nd7 {c W B R D L O : Nat} (h0 : c ≠ W) (hc : c < B) (h1 : W < B) (h2 : B < R) (h3 : R < D) (h4 : D < L) (h5 : L < O) : [c, W, B, R, D, L, O].Nodup := by
  simp only [List.nodup_cons, List.mem_cons, List.not_mem_nil, not_or, or_false, List.nodup_nil, not_false_eq_true, and_true]
  omega
theorem ap7 {x c W B R D L O : Nat} (h2 : B < R) (h3 : R < D) (h4 : D < L) (h5 : L < O) (hx : x < B) (hw : x ≠ W) (hc : x ≠ c) : ∀ y ∈ [c, W, B, R, D, L, O], x ≠ y := by
  intro y hy
  simp only [List.mem_cons, List.not_mem_nil, or_false] at hy
  omega
theorem OS.push {w : World} {C I : Addr} {fx : FX} {itl base led : Led} {oI : Obj} {i : Nat} {m : Map} (h : OS w C fx itl base i m led) (ha : Apart led [I]) {x : Str} {v : Value} (hx : [(Str.ofString "well"), (Str.ofString "rows"), (Str.ofString "listed"), (Str.ofString "lone")].contains x = false) : OS w C fx ((I, oI) :: itl) base i (upd m x v) ((I, oI) :: led) := by
  obtain ⟨bs, ras, das, rs, ls, lo, lm, per, dxs, pr, hi, hR, hB, hb, hn⟩ := h
  exact ⟨bs, ras, das, rs, ls, lo, lm, per, dxs, pr, hi, hR.push ha, hB, hb, hn.upd hx⟩
theorem OS.pop {w : World} {C I : Addr} {fx : FX} {itl base led : Led} {oI : Obj} {i : Nat} {m : Map} (h : OS w C fx ((I, oI) :: itl) base i m led) (ha : ∀ q ∈ itl, q.1 ≠ I) : ∃ led2, (∀ p ∈ (I, oI) :: led2, p ∈ led) ∧ Apart led2 [I] ∧ OS w C fx itl base i m led2 := by
  obtain ⟨bs, ras, das, rs, ls, lo, lm, per, dxs, pr, hi, hR, hB, hb, hn⟩ := h
  obtain ⟨led2, q1, q2, q3⟩ := hR.pop ha
  exact ⟨led2, q1, q2, bs, ras, das, rs, ls, lo, lm, per, dxs, pr, hi, q3, hB, hb, hn⟩
set_option maxHeartbeats 2000000 in
theorem law_build {c : Cx} {fa : Addr} {cdv : Value} {m0 : Map} {Sa : Addr} {svs : List Value} {xs : List Int} {x1 x2 x3 : Obj} {v1 v2 v3 : Option Value} {P : Flow → Map → Led → Prop} (O : c.Ok 6) (he : c.env = envOfC (Str.ofString "law") (fScope (topAt 28)) c.L fa cdv)
    (hS : c.g.IsList Sa svs.toArray) (hSi : IntsAre svs xs) (hz : xs.length ≤ 63) (hm : m0 (Str.ofString "script") = some (.ref Sa)) (hx1 : x1.data = .cell v1) (hx2 : x2.data = .cell v2) (hx3 : x3.data = .cell v3)
    (h : ∀ (fx : FX) (n : Nat) (y1 y2 : Obj) (m : Map) (led : Led), 0 < n → n ≤ 4 → y1.data = .cell (some (.ref fx.B)) → y2.data = .cell (some (.ref fx.Dl)) → OS c.w (c.L + 1 + 1 + 1) fx [] [(c.L + 1, y1), (c.L + 1 + 1, y2)] n m led → TrS c m led (lawB.drop 3) P) :
    TrS c m0 [(c.L + 1 + 1 + 1, x3), (c.L + 1 + 1, x2), (c.L + 1, x1)] lawB P := by
  have O5 := O.less (show 5 ≤ 6 by decide)
  have kW : c.env.kindOf (Str.ofString "well") = some .local := by rw [he]; rfl
  have kC : c.env.kindOf (Str.ofString "script") = some .local := by rw [he]; rfl
  have kR : c.env.kindOf (Str.ofString "rows") = some .local := by rw [he]; rfl
  have kL : c.env.kindOf (Str.ofString "listed") = some .local := by rw [he]; rfl
  have kO : c.env.kindOf (Str.ofString "lone") = some .local := by rw [he]; rfl
  have kS : c.env.kindOf (Str.ofString "spot") = some .local := by rw [he]; rfl
  have kB : c.env.kindOf (Str.ofString "built") = some .cell := by rw [he]; rfl
  have kD : c.env.kindOf (Str.ofString "decls") = some .cell := by rw [he]; rfl
  have xB : c.env.cells.lookup (Str.ofString "built") = some (c.L + 1) := by rw [he]; rfl
  have xD : c.env.cells.lookup (Str.ofString "decls") = some (c.L + 1 + 1) := by rw [he]; rfl
  have g1 : c.env.kindOf (Str.ofString "_law_well") = some .globalImplicit := by rw [he]; rfl
  have g3 : c.env.kindOf (Str.ofString "_law_draw") = some .globalImplicit := by rw [he]; rfl
  have g4 : c.env.kindOf (Str.ofString "range") = some .globalImplicit := by rw [he]; rfl
  -- well = _law_well(script)
  refine St.setT (P1 := fun v m' led' => m' = m0 ∧ ∃ W l ivs ns n2, v = .ref W ∧ WellIn led' W l ∧ Script ivs ns ∧ (l, listOf ivs.toArray n2) ∈ led' ∧ l ≠ W ∧ (∀ p ∈ [(c.L + 1 + 1 + 1, x3), (c.L + 1 + 1, x2), (c.L + 1, x1)], p.1 ≠ W) ∧ ∀ p ∈ [(c.L + 1 + 1 + 1, x3), (c.L + 1 + 1, x2), (c.L + 1, x1)], p ∈ led' ∧ p.1 ≠ l) O kW (Tr.callI O (glob_ O g1 (glob146 _)) (keep146 _) (Its.ev (.loc (d := .ref Sa) O kC hm rfl) fun v hv => Its.nil ?q1)) ?s1
  case q1 => cases hv; exact well_fn c.w hSi hz c _ rfl (O.less (by decide)) hS
  rintro v m1 led1 ⟨em, W, lW, ivs, ns, n2, rfl, ⟨wo, hwo, hwk⟩, hsc, hlW, hne, hWc, hk⟩
  rw [em]
  have hw1 : upd m0 (Str.ofString "well") (.ref W) (Str.ofString "well") = some (.ref W) := upd_at
  generalize upd m0 (Str.ofString "well") (.ref W) = m2 at hw1 ⊢
  clear em m1
  obtain ⟨e1, w1⟩ := hk _ (.tail _ (.tail _ (.head _)))
  obtain ⟨e2, w2⟩ := hk _ (.tail _ (.head _))
  obtain ⟨e3, w3⟩ := hk _ (.head _)
  have u1 := hWc _ (.tail _ (.tail _ (.head _)))
  have u2 := hWc _ (.tail _ (.head _))
  have u3 := hWc _ (.head _)
  have f1 := cells3 (C := c.L)
  -- built, rows, decls, listed, lone = ([], [], [], [], [])
  have nil {m led} {es : List Expr} {p : Pos} {P : List Value → Map → Led → Prop} (hs : starEach (.List [] p :: es) c.env = (false, eval (.List [] p) c.env) :: starEach es c.env) (hn : ∀ l, (∀ q ∈ led, q.1 < l) → Its c m ((l, listOf [].toArray 0) :: led) es fun vs => P (.ref l :: vs)) : Its c m led (.List [] p :: es) P :=
    Its.cons (P1 := fun v m' led' => m = m' ∧ ∃ l, v = .ref l ∧ led' = (l, listOf [].toArray 0) :: led ∧ ∀ q ∈ led, q.1 < l) (Tr.list (Its.nil ⟨Nat.zero_le _, fun l hl => ⟨rfl, l, rfl, rfl, hl⟩⟩)) (by rintro _ _ _ ⟨rfl, l, rfl, rfl, hl⟩; exact hn l hl) hs
  refine St.tup ?a ?b ?c ?d
  case b => rw [he]; kernel_rfl
  case c => rw [he]; kernel_rfl
  case d => rw [he]; kernel_rfl
  refine Tr.tuple (nil rfl fun B hB => nil rfl fun Rw hR => nil rfl fun Dl hD => nil rfl fun Ls hL => nil rfl fun Lo hO => Its.nil ⟨show 5 ≤ 1000 by decide, fun t ht => ⟨t, [.ref B, .ref Rw, .ref Dl, .ref Ls, .ref Lo], rfl, .head _, ?len, ?asg⟩⟩)
  case len => rw [he]; kernel_rfl
  have tl {q : Addr × Obj} (h : q ∈ led1) : q ∈ (t, tupOf [Value.ref B, .ref Rw, .ref Dl, .ref Ls, .ref Lo]) :: (Lo, listOf [].toArray 0) :: (Ls, listOf [].toArray 0) :: (Dl, listOf [].toArray 0) :: (Rw, listOf [].toArray 0) :: (B, listOf [].toArray 0) :: led1 := .tail _ (.tail _ (.tail _ (.tail _ (.tail _ (.tail _ h)))))
  refine Asg.cell O kB xB (tl e1) hx1 fun y1 hy1 => Asg.name O kR (Asg.cell (o := x2) O kD xD (put_ne (tl e2) f1.1.symm) hx2 fun y2 hy2 => Asg.name O kL (Asg.name O kO (Asg.nil ?_)))
  have n1 {q : Addr × Obj} (h : q ∈ (Lo, listOf [].toArray 0) :: (Ls, listOf [].toArray 0) :: (Dl, listOf [].toArray 0) :: (Rw, listOf [].toArray 0) :: (B, listOf [].toArray 0) :: led1) (h1 : q.1 ≠ c.L + 1) (h2 : q.1 ≠ c.L + 1 + 1) :
      q ∈ put (put ((t, tupOf [Value.ref B, .ref Rw, .ref Dl, .ref Ls, .ref Lo]) :: (Lo, listOf [].toArray 0) :: (Ls, listOf [].toArray 0) :: (Dl, listOf [].toArray 0) :: (Rw, listOf [].toArray 0) :: (B, listOf [].toArray 0) :: led1) (c.L + 1) y1) (c.L + 1 + 1) y2 := put_ne (put_ne (.tail _ h) h1) h2
  have n2' : (c.L + 1, y1) ∈ put (put ((t, tupOf [Value.ref B, .ref Rw, .ref Dl, .ref Ls, .ref Lo]) :: (Lo, listOf [].toArray 0) :: (Ls, listOf [].toArray 0) :: (Dl, listOf [].toArray 0) :: (Rw, listOf [].toArray 0) :: (B, listOf [].toArray 0) :: led1) (c.L + 1) y1) (c.L + 1 + 1) y2 := put_ne (.head _) f1.1
  have n3' : (c.L + 1 + 1, y2) ∈ put (put ((t, tupOf [Value.ref B, .ref Rw, .ref Dl, .ref Ls, .ref Lo]) :: (Lo, listOf [].toArray 0) :: (Ls, listOf [].toArray 0) :: (Dl, listOf [].toArray 0) :: (Rw, listOf [].toArray 0) :: (B, listOf [].toArray 0) :: led1) (c.L + 1) y1) (c.L + 1 + 1) y2 := .head _
  generalize put (put ((t, tupOf [Value.ref B, .ref Rw, .ref Dl, .ref Ls, .ref Lo]) :: (Lo, listOf [].toArray 0) :: (Ls, listOf [].toArray 0) :: (Dl, listOf [].toArray 0) :: (Rw, listOf [].toArray 0) :: (B, listOf [].toArray 0) :: led1) (c.L + 1) y1) (c.L + 1 + 1) y2 = led2 at n1 n2' n3' ⊢
  have l1 : c.L + 1 < B := hB _ e1
  have l2 : c.L + 1 + 1 < B := hB _ e2
  have l3 : c.L + 1 + 1 + 1 < B := hB _ e3
  have lw : W < B := hB _ hwo
  have ll : lW < B := hB _ hlW
  have o1 : B < Rw := hR _ (.head _)
  have o2 : Rw < Dl := hD _ (.head _)
  have o3 : Dl < Ls := hL _ (.head _)
  have o4 : Ls < Lo := hO _ (.head _)
  clear hB hR hD hL hO ht tl nil
  have hM : MU (muL (c.L + 1 + 1 + 1) ⟨W, lW, B, Rw, Dl, Ls, Lo⟩ x3 wo (refL [] 0) (refL [] 0) (refL [] 0) (listOf [].toArray 0) (listOf [].toArray 0) []) [] [(c.L + 1, y1), (c.L + 1 + 1, y2), (lW, listOf ivs.toArray n2)] led2 := by
    have big {x : Addr} (h : B ≤ x) : x ≠ c.L + 1 ∧ x ≠ c.L + 1 + 1 := ⟨Nat.ne_of_gt (Nat.lt_of_lt_of_le l1 h), Nat.ne_of_gt (Nat.lt_of_lt_of_le l2 h)⟩
    have g1 := big (Nat.le_refl _)
    have g2 := big (Nat.le_of_lt o1)
    have g3 := big (Nat.le_of_lt (Nat.lt_trans o1 o2))
    have g4 := big (Nat.le_of_lt (Nat.lt_trans (Nat.lt_trans o1 o2) o3))
    have g5 := big (Nat.le_of_lt (Nat.lt_trans (Nat.lt_trans (Nat.lt_trans o1 o2) o3) o4))
    refine ⟨nd7 u3 l3 lw o1 o2 o3 o4, fun p hp => ?_, fun p hp => ?_, fun p hp => nomatch hp⟩
    · rcases List.mem_cons.mp hp with rfl | hp
      · exact n1 (.tail _ (.tail _ (.tail _ (.tail _ (.tail _ e3))))) f1.2.1.symm f1.2.2.symm
      rcases List.mem_cons.mp hp with rfl | hp
      · exact n1 (.tail _ (.tail _ (.tail _ (.tail _ (.tail _ hwo))))) u1.symm u2.symm
      rcases List.mem_cons.mp hp with rfl | hp
      · exact n1 (.tail _ (.tail _ (.tail _ (.tail _ (.head _))))) g1.1 g1.2
      rcases List.mem_cons.mp hp with rfl | hp
      · exact n1 (.tail _ (.tail _ (.tail _ (.head _)))) g2.1 g2.2
      rcases List.mem_cons.mp hp with rfl | hp
      · exact n1 (.tail _ (.tail _ (.head _))) g3.1 g3.2
      rcases List.mem_cons.mp hp with rfl | hp
      · exact n1 (.tail _ (.head _)) g4.1 g4.2
      rcases List.mem_cons.mp hp with rfl | hp
      · exact n1 (.head _) g5.1 g5.2
      · exact nomatch hp
    · have conv {x : Addr} (h : ∀ y ∈ [c.L + 1 + 1 + 1, W, B, Rw, Dl, Ls, Lo], x ≠ y) : ∀ q ∈ muL (c.L + 1 + 1 + 1) ⟨W, lW, B, Rw, Dl, Ls, Lo⟩ x3 wo (refL [] 0) (refL [] 0) (refL [] 0) (listOf [].toArray 0) (listOf [].toArray 0) [], x ≠ q.1 := fun q hq => h _ (List.mem_map_of_mem (f := fun p : Addr × Obj => p.1) hq)
      rcases List.mem_cons.mp hp with rfl | hp
      · exact ⟨n2', conv (ap7 o1 o2 o3 o4 l1 u1 f1.2.1)⟩
      rcases List.mem_cons.mp hp with rfl | hp
      · exact ⟨n3', conv (ap7 o1 o2 o3 o4 l2 u2 f1.2.2)⟩
      rcases List.mem_cons.mp hp with rfl | hp
      · exact ⟨n1 (.tail _ (.tail _ (.tail _ (.tail _ (.tail _ hlW))))) w1.symm w2.symm, conv (ap7 o1 o2 o3 o4 ll hne w3.symm)⟩
      · exact nomatch hp
  have hN : MN ⟨W, lW, B, Rw, Dl, Ls, Lo⟩ (upd (upd (upd m2 (Str.ofString "rows") (.ref Rw)) (Str.ofString "listed") (.ref Ls)) (Str.ofString "lone") (.ref Lo)) := ⟨upd_ne (upd_ne (upd_ne hw1 (by decide)) (by decide)) (by decide), upd_ne (upd_ne upd_at (by decide)) (by decide), upd_ne upd_at (by decide), upd_at⟩
  generalize upd (upd (upd m2 (Str.ofString "rows") (.ref Rw)) (Str.ofString "listed") (.ref Ls)) (Str.ofString "lone") (.ref Lo) = m3 at hN ⊢
  generalize hfx : (⟨W, lW, B, Rw, Dl, Ls, Lo⟩ : FX) = fx at hM hN
  have hB0 : BI c.w [] [] [] [] [] [] [] [(c.L + 1, y1), (c.L + 1 + 1, y2), (lW, listOf ivs.toArray n2)] [] [] 3 := ⟨rfl, rfl, (fun _ _ h => nomatch h), (fun _ _ h => nomatch h), (fun _ h => nomatch h), List.nodup_nil, (fun _ h => nomatch h), (fun _ h => nomatch h), .nil, (fun _ h => nomatch h), rfl, (fun _ _ h => nomatch h), List.nodup_nil, (fun _ _ => Nat.zero_le _), Nat.zero_le _, Nat.zero_le _, Nat.le_refl _, Nat.le_refl _, rfl, List.nodup_nil, (fun _ h => nomatch h)⟩
  have hfB : fx.B = B := by subst hfx; rfl
  have hfD : fx.Dl = Dl := by subst hfx; rfl
  have hfW : fx.W = W := by subst hfx; rfl
  have hfl : fx.lW = lW := by subst hfx; rfl
  rw [← hfB] at hy1
  rw [← hfD] at hy2
  have hwk' : WellOk fx.lW wo := by rw [hfl]; exact hwk
  have hsc' : ∃ ivs' ns' n2', Script ivs' ns' ∧ (fx.lW, listOf ivs'.toArray n2') ∈ [(c.L + 1, y1), (c.L + 1 + 1, y2), (lW, listOf ivs.toArray n2)] := ⟨ivs, ns, n2, hsc, by rw [hfl]; exact .tail _ (.tail _ (.head _))⟩
  clear hfx hfB hfD hfl
  -- for spot in range(1 + _law_draw(well, 4))
  refine St.forRange O kS (Tr.range O g4 (Tr.addT .int_ (Tr.draw (k := 5) O g3 (hM.well (lW := fx.lW) hwk' hsc') (.loc (d := .ref fx.W) O kW hN.well rfl) .int_ (by decide)) ?_))
  rintro v m' led' ⟨em, ⟨n, n0, n4, tn, rfl⟩, hW3, hK3⟩
  obtain ⟨wo3, hw3, M5⟩ := hM.drawn hW3 hK3
  subst em
  refine ⟨n, ⟨tn, rfl⟩, fun tq => ⟨1 + n.toNat, ⟨tq, by rw [show (1 + n : Int) = ((1 + n.toNat : Nat) : Int) by omega]⟩, fun r tr ur wr hr => ⟨r, 1 + n.toNat, tr, ur, wr, OS c.w (c.L + 1 + 1 + 1) fx [] [(c.L + 1, y1), (c.L + 1 + 1, y2)], rfl, .head _, by omega,
    ⟨[], [], [], [], [], [], [], _, [], [], rfl, ⟨x3, wo3, v3, _, _, _, _, _, _, _, M5.sub fun p hp => .tail _ hp, hx3, hw3, hsc', .nil, .nil⟩, hB0, fun p hp => List.mem_append_left [(lW, listOf ivs.toArray n2)] hp, hN⟩, ?turn, ?done⟩⟩⟩
  case turn =>
    intro i ti m4 led3 I oI hi hJ ha
    refine Tr.mono (out_walk O5 he (by omega) (.head _) hy1 (.tail _ (.head _)) hy2 (hJ.push ha (by decide +kernel)) upd_at) ?_
    rintro fl m5 led4 ⟨rfl, hJ4⟩
    exact hJ4.pop fun q hq => nomatch hq
  case done =>
    intro m4 led3 hJ
    exact h fx _ y1 y2 m4 led3 (by omega) (by omega) hy1 hy2 hJ
theorem Tr.func {α : Type} {c : Cx} {m : Map} {led : Led} {t : Sem α} {P : α → Map → Led → Prop} (h : (∀ p ∈ led, ∀ q ∈ led, p.1 = q.1 → p = q) → Tr c m led t P) : Tr c m led t P := fun s F N =>
  h (fun p hp q hq e => Prod.ext e (by have h1 := (N p hp).1; have h2 := (N q hq).1; rw [e, h2] at h1; exact (Option.some.inj h1).symm)) s F N
/-- a contract's members with their rows -/
noncomputable def memP (bs das : List Addr) (rs : List Row) (ls : List Nat) (b : Addr) : List (Addr × Row) := (memI rs ls (bs.idxOf b)).map fun j => (das.getD j 0, rs[j]?.getD noRow)
noncomputable def bsAt (bs : List Addr) (i : Nat) : Addr := bs.getD i 0
/-- what is so of the numbers -/
structure PD (bs das : List Addr) (rs : List Row) (ls lo ord : List Nat) : Prop where
  dlen : das.length = rs.length
  spot : ∀ r ∈ rs, r.spot < bs.length ∧ RowOk r
  dnd : das.Nodup
  bnd : bs.Nodup
  lob : ∀ j ∈ lo, j < rs.length
  lsb : ∀ j ∈ ls, j < rs.length
  lss : ls.Pairwise (· < ·)
  dis : ∀ j ∈ lo, j ∉ ls
  few : ∀ i, i < bs.length → (memI rs ls i).length ≤ 3
  rl : rs.length ≤ 12
  bl : 0 < bs.length ∧ bs.length ≤ 4
  ord : OrdOk bs.length ord
/-- what stands from now on -/
structure GS (w : World) (C : Addr) (fx : FX) (Oa a0 : Addr) (bs das : List Addr) (rs : List Row) (ls lo ord : List Nat) (per : Led) : Prop where
  law : LawIn w per fx.Rw fx.Ls Oa rs ls (natZ ord)
  lin : LinAt per a0 (ord.map (bsAt bs)) (memP bs das rs ls)
  dl : ∃ n, (fx.Dl, refL das n) ∈ per
  bl : ∃ n, (fx.B, refL bs n) ∈ per
  lone : ∃ lov n, (fx.Lo, listOf lov.toArray n) ∈ per ∧ IntsAre lov (natZ lo)
  decls : ∀ (j : Nat) (r : Row), rs[j]? = some r → ∃ d, das[j]? = some d ∧ DeclAt per d r ∧ AttrD per d (Str.ofString "owner") (ownD (if j ∈ lo then none else bs[r.spot]?))
  insts : ∀ b ∈ bs, IsInst per b
  cb : ∃ x, (C + 1, x) ∈ per ∧ x.data = .cell (some (.ref fx.B))
  cd : ∃ x, (C + 1 + 1, x) ∈ per ∧ x.data = .cell (some (.ref fx.Dl))
theorem keep174 (P : Params) : keepIn (KH P) (.ref 174) = true := by kernel_rfl
theorem glob174 (P : Params) : nsIn (KH P) mainGlobals (Str.ofString "_law_order") = some (some (.ref 174)) := by kernel_rfl
theorem bsAt_eq {bs : List Addr} {i : Nat} {b : Addr} (h : bs[i]? = some b) : bsAt bs i = b := by unfold bsAt; rw [List.getD_eq_getElem?_getD, h]; rfl
theorem idxOf_at {bs : List Addr} (hn : bs.Nodup) {i : Nat} {b : Addr} (h : bs[i]? = some b) : bs.idxOf b = i := by
  obtain ⟨hi, e⟩ := List.getElem?_eq_some_iff.mp h
  subst e
  exact List.Nodup.idxOf_getElem hn i hi
set_option maxHeartbeats 1000000 in
theorem law_mid {c : Cx} {fa : Addr} {cdv : Value} {fx : FX} {n : Nat} {y1 y2 : Obj} {m : Map} {led : Led} {P : Flow → Map → Led → Prop} (O : c.Ok 6) (he : c.env = envOfC (Str.ofString "law") (fScope (topAt 28)) c.L fa cdv) (hn0 : 0 < n) (hn4 : n ≤ 4)
    (hy1 : y1.data = .cell (some (.ref fx.B))) (hy2 : y2.data = .cell (some (.ref fx.Dl))) (hT : OS c.w (c.L + 1 + 1 + 1) fx [] [(c.L + 1, y1), (c.L + 1 + 1, y2)] n m led)
    (h : ∀ (Oa a0 : Addr) (bs das : List Addr) (rs : List Row) (ls lo ord : List Nat) (o : Nat) (m : Map) (per led : Led), PD bs das rs ls lo ord → ord[0]? = some o → bs[o]? = some a0 → GS c.w c.L fx Oa a0 bs das rs ls lo ord per → (∀ p ∈ per, p ∈ led ∧ p.1 ≠ c.L + 1 + 1 + 1) → (∃ x v, (c.L + 1 + 1 + 1, x) ∈ led ∧ x.data = .cell v) →
      MN fx m → m (Str.ofString "order") = some (.ref Oa) → m (Str.ofString "asked") = some (.ref a0) → TrS c m led (lawB.drop 6) P) : TrS c m led (lawB.drop 3) P := by
  obtain ⟨bs, ras, das, rs, ls, lo, lm, per, dxs, pr, hbi, ⟨xc, wo, v0, cB, cR, cD, cL, cO, lsv, lov, hM, hc, hw, sc, hl, ho⟩, hB, hb, hn⟩ := hT
  have kW : c.env.kindOf (Str.ofString "well") = some .local := by rw [he]; rfl
  have kO : c.env.kindOf (Str.ofString "order") = some .local := by rw [he]; rfl
  have kA : c.env.kindOf (Str.ofString "asked") = some .local := by rw [he]; rfl
  have kB : c.env.kindOf (Str.ofString "built") = some .cell := by rw [he]; rfl
  have xB : c.env.cells.lookup (Str.ofString "built") = some (c.L + 1) := by rw [he]; rfl
  have g1 : c.env.kindOf (Str.ofString "_law_order") = some .globalImplicit := by rw [he]; rfl
  have g4 : c.env.kindOf (Str.ofString "len") = some .globalImplicit := by rw [he]; rfl
  have i1 : ∀ p ∈ per, p ∈ led := fun p hp => (hM.inPer p hp).1
  have nB {m led p} (h : ∀ p ∈ per, p ∈ led) : Ev c m led (.Name (Str.ofString "built") p) (.ref fx.B) := .cell O kB xB (h _ (hb _ (.head _))) hy1 rfl
  have hbz : bs.length ≤ 4 := by omega
  -- order = _law_order(well, len(built))
  refine St.setT (P1 := fun v m' led' => m = m' ∧ ∃ Oa vs n ord, v = .ref Oa ∧ (Oa, listOf vs.toArray n) ∈ led' ∧ IntsAre vs (natZ ord) ∧ OrdOk bs.length ord ∧ WellAt led' fx.W fx.lW ∧ Keep fx.W led led' ∧ ∀ p ∈ led, p.1 ≠ Oa) O kO (Tr.callI O (glob_ O g1 (glob174 _)) (keep174 _)
    (Its.ev (.loc (d := .ref fx.W) O kW hn.well rfl) fun v1 hv1 => Its.ev (.len O g4 (nB i1) (hM.inMu _ (.tail _ (.tail _ (.head _)))) (by rw [refsOf_len]; omega)) fun v2 hv2 => Its.nil ?q1)) ?s1
  case q1 =>
    cases hv1; obtain ⟨t2, rfl⟩ := hv2
    refine Tr.mono (order_fn c.w (hM.well (lW := fx.lW) hw sc) (by rw [refsOf_len]; omega) (by rw [refsOf_len]; omega) c _ rfl (O.less (by decide))) ?_
    rintro v m' led' ⟨e1, e2⟩
    rw [refsOf_len] at e2
    exact ⟨e1.symm, e2⟩
  rintro v _ led1 ⟨rfl, Oa, vs, cV, ord, rfl, hOa, hOi, hOk, hW1, hK1, hfr⟩
  obtain ⟨wo1, hw1, M1⟩ := hM.drawn hW1 hK1
  have FO := hM.fresh hfr
  have M2 := M1.keep (p := (Oa, listOf vs.toArray cV)) hOa FO.1 FO.2.1
  clear M1 hM hW1 hK1
  have hnO := hn.upd (x := (Str.ofString "order")) (v := .ref Oa) (by decide +kernel)
  have qO : upd m (Str.ofString "order") (.ref Oa) (Str.ofString "order") = some (.ref Oa) := upd_at
  generalize upd m (Str.ofString "order") (.ref Oa) = m1 at hnO qO ⊢
  obtain ⟨o, ords, rfl⟩ : ∃ o ords, ord = o :: ords := by
    cases ord with
    | nil => exact absurd rfl hOk.ne
    | cons o r => exact ⟨o, r, rfl⟩
  have hob : o < bs.length := hOk.lt o (.head _)
  obtain ⟨a0, ha0⟩ : ∃ a, bs[o]? = some a := ⟨_, List.getElem?_eq_getElem hob⟩
  have i2 : ∀ p ∈ per, p ∈ led1 := fun p hp => (M2.inPer p (.tail _ hp)).1
  have hOl : (Oa, listOf vs.toArray cV) ∈ led1 := (M2.inPer _ (.head _)).1
  obtain ⟨tO, hO0⟩ := hOi.get 0 (o : Nat) rfl
  have hvl : vs.length = (o :: ords).length := by rw [hOi.length, List.length_map]
  have hol : (o :: ords).length ≤ 4 := Nat.le_trans (nodup_len (o :: ords) (List.range bs.length) hOk.nodup fun k hk => List.mem_range.mpr (hOk.lt k hk)) (by rw [List.length_range]; exact hbz)
  -- asked = built[order[0]]
  refine St.set O kA (d := .ref a0) (.item (d := .ref a0) (nB i2) (.item (d := .int (o : Nat)) (.loc (d := .ref Oa) O kO qO rfl) .int_ hOl (by decide) (by decide) (show vs[Int.toNat 0]? = _ from hO0) ⟨tO, rfl⟩) (M2.inMu _ (.tail _ (.tail _ (.head _)))) (Int.natCast_nonneg _) (by omega) (by rw [Int.toNat_natCast]; exact refsOf_at ha0) rfl) fun v hv => ?_
  cases hv
  have hnA := hnO.upd (x := (Str.ofString "asked")) (v := .ref a0) (by decide +kernel)
  have qO2 := upd_ne (x := (Str.ofString "asked")) (v := .ref a0) qO (by decide)
  have qA2 : upd m1 (Str.ofString "asked") (.ref a0) (Str.ofString "asked") = some (.ref a0) := upd_at
  generalize upd m1 (Str.ofString "asked") (.ref a0) = m2 at hnA qO2 qA2 ⊢
  obtain ⟨L0, n0, dx0, hlm0, hdx0, f, kk, nm, tn, ⟨es, ne, hi0, hd0, hne0, hes, hel, hef⟩, hkk, hfm, hfn⟩ := hB.con o a0 ha0
  refine Tr.func fun fun1 => ?_
  -- asked.linear = [built[spot] for spot in order]
  refine St.setAttr (a := a0) (dx := dx0) (f := f) (kk := kk) O (plain59 (by decide +kernel)) (Tr.mono (Tr.comp false (k := 6) (cl := [((Str.ofString "built"), c.L + 1)]) (P := fun D nD outs ledJ => outs = refsOf ((o :: ords).map (bsAt bs)) ∧ (∀ p ∈ led1, p ∈ ledJ) ∧ ∀ p ∈ led1, p.1 ≠ D)
    O (by rw [he]; rfl) ⟨fun _ _ => rfl, fun _ => rfl⟩ rfl (by decide +kernel) (fun C => by rw [he]; rfl)
    (Tr.mono (Ev.loc (d := .ref Oa) O kO qO2 rfl) fun v m' led' ⟨h1, h2, h3⟩ => ⟨h2, Oa, false, vs, cV, fun i outs led3 => outs = refsOf (((o :: ords).take i).map (bsAt bs)) ∧ ∀ p ∈ led1, p ∈ led3, h1, by omega, ⟨rfl, fun p hp => h3 ▸ hp⟩, fun _ _ _ hb => hb.2 _ hOl, ?turn, ?done⟩)) ?aft)
  case done =>
    rintro D nD outs ledJ ⟨e, hb⟩ hne _
    rw [hvl, List.take_length] at e
    exact ⟨e, hb, fun p hp => hne p (hb p hp)⟩
  case turn =>
    rintro c' m4 i u outs ledJ D I oI oc nD hw' O' he' hu ⟨rfl, hb1⟩ ha ho _
    obtain ⟨j, t, rfl, hj⟩ := natAt hOi hu
    have hjb : j < bs.length := hOk.lt j (List.mem_of_getElem? hj)
    obtain ⟨b, hbj⟩ : ∃ a, bs[j]? = some a := ⟨_, List.getElem?_eq_getElem hjb⟩
    refine .plain rfl true .nil nofun fun _ => Tr.mono (Ev.item (d := .ref b) (.cell (d := .ref fx.B) O' (by rw [he', he]; rfl) (by rw [he']; rfl) (.tail _ (.tail _ (hb1 _ (i2 _ (hb _ (.head _)))))) hy1 rfl) (.loc (d := .int (j : Nat)) O' (by rw [he', he]; rfl) upd_at ⟨t, rfl⟩) (.tail _ (.tail _ (hb1 _ (M2.inMu _ (.tail _ (.tail _ (.head _))))))) (Int.natCast_nonneg _) (by omega) (by rw [Int.toNat_natCast]; exact refsOf_at hbj) rfl) ?_
    rintro r m5 led5 ⟨h1, _, rfl⟩
    cases h1
    refine ⟨ledJ, fun p hp => hp, ha, ?_, hb1⟩
    rw [refsOf_snoc, List.take_add_one, hj, List.map_append]
    show _ = refsOf (_ ++ [bsAt bs j])
    rw [bsAt_eq hbj]
  rintro v m' led' ⟨rfl, D, nD, outs, ledJ, rfl, rfl, rfl, hbJ, hDf⟩
  have hs2 : ∀ p ∈ led1, p ∈ (D, refL ((o :: ords).map (bsAt bs)) nD) :: ledJ := fun p hp => .tail _ (hbJ p hp)
  refine ⟨.loc (d := .ref a0) O kA qA2 rfl, ⟨es, ne, hs2 _ (i2 _ hi0), hs2 _ (i2 _ hd0), hne0, hes, hel, hef⟩, by omega, fun led3 h3 ho3 => ?_⟩
  have k0 : ∀ p ∈ led1, p.1 ≠ dx0 → p ∈ led3 := fun p hp hn => h3 p (hs2 p hp) hn
  have hd1 := i2 _ hd0
  have muN : ∀ q ∈ muL (c.L + 1 + 1 + 1) fx xc wo1 (refL bs cB) (refL ras cR) (refL das cD) (listOf lsv.toArray cL) (listOf lov.toArray cO) lm, dx0 ≠ q.1 := (M2.inPer _ (.tail _ hd0)).2
  have mu3 : ∀ q ∈ (fx.W, wo1) :: (fx.B, refL bs cB) :: (fx.Rw, refL ras cR) :: (fx.Dl, refL das cD) :: (fx.Ls, listOf lsv.toArray cL) :: (fx.Lo, listOf lov.toArray cO) :: lm, q ∈ led3 ∧ q.1 ≠ c.L + 1 + 1 + 1 := fun q hq => by
    refine ⟨k0 q (M2.inMu q (.tail _ hq)) (muN q (.tail _ hq)).symm, fun e => ?_⟩
    have nd := M2.nd
    have : (c.L + 1 + 1 + 1) ∈ (((fx.W, wo1) :: (fx.B, refL bs cB) :: (fx.Rw, refL ras cR) :: (fx.Dl, refL das cD) :: (fx.Ls, listOf lsv.toArray cL) :: (fx.Lo, listOf lov.toArray cO) :: lm : Led).map (·.1)) := e ▸ List.mem_map_of_mem hq
    exact (List.nodup_cons.mp nd).1 this
  have pr3 : ∀ p ∈ (Oa, listOf vs.toArray cV) :: per, p.1 ≠ dx0 → p ∈ led3 ∧ p.1 ≠ c.L + 1 + 1 + 1 := fun p hp hn => ⟨k0 p (M2.inPer p hp).1 hn, (M2.inPer p hp).2 _ (.head _)⟩
  have kp : ∀ p : Addr × Obj, p ∈ led3 ∧ p.1 ≠ c.L + 1 + 1 + 1 → p ∈ led3.filter fun p => p.1 != c.L + 1 + 1 + 1 := fun p hp => List.mem_filter.mpr ⟨hp.1, by simpa using hp.2⟩
  have hdxm : dx0 ∈ dxs := List.mem_of_getElem? hdx0
  have prN : ∀ p ∈ pr, p.1 ≠ dx0 := fun p hp e => (hB.prp p hp).2 (e ▸ hdxm)
  have kpr : ∀ p ∈ pr, p ∈ led3.filter fun p => p.1 != c.L + 1 + 1 + 1 := fun p hp => kp p (pr3 p (.tail _ (hB.prp p hp).1) (prN p hp))
  have notD : ∀ (q : Addr) (ob : Obj), (q, ob) ∈ led1 → ob ≠ dictOf es ne → q ≠ dx0 := fun q ob hq hob e => by
    subst e
    exact hob (congrArg Prod.snd (fun1 _ hq _ hd1 rfl))
  have hD3 : (D, refL ((o :: ords).map (bsAt bs)) nD) ∈ led3 := h3 _ (.head _) (fun e => hDf _ hd1 e.symm)
  have hDc : D ≠ c.L + 1 + 1 + 1 := fun e => hDf _ (M2.inMu _ (.head _)) e.symm
  have hOne : Oa ≠ dx0 := fun e => hfr _ (by have := (hB.con o a0 ha0); exact (i1 _ hd0)) e.symm
  have inst : ∀ b ∈ bs, IsInst (led3.filter fun p => p.1 != c.L + 1 + 1 + 1) b := fun b hb => by
    obtain ⟨i, hi⟩ := List.getElem?_of_mem hb
    obtain ⟨_, _, dx', _, _, _, _, _, _, ⟨_, _, h5, _⟩, _⟩ := hB.con i b hi
    exact ⟨dx', kp _ (pr3 _ (.tail _ h5) (notD _ _ (i2 _ h5) (fun e => nomatch e)))⟩
  have own0 : OwnF 59 (led3.filter fun p => p.1 != c.L + 1 + 1 + 1) a0 dx0 (upd f (Str.ofString "linear") (.ref D)) (kk + 1) := by
    obtain ⟨es3, ne3, q1, q2, q3⟩ := ho3
    refine ⟨es3, ne3, kp _ ⟨q1, (M2.inPer _ (.tail _ hi0)).2 _ (.head _)⟩, kp _ ⟨q2, (M2.inPer _ (.tail _ hd0)).2 _ (.head _)⟩, q3⟩
  have PDx : PD bs das rs ls lo (o :: ords) := ⟨hB.dlen, hB.spot, hB.dnd, hB.bnd, hB.lob, hB.lsb, hB.lss, hB.dis, fun i hi => by
    rcases Nat.lt_or_ge (i + 1) bs.length with h1 | h1
    · exact hB.few i h1
    · rw [show i = bs.length - 1 by omega]; exact hB.cur, by have := hB.rl; omega, ⟨by omega, hbz⟩, hOk⟩
  refine h Oa a0 bs das rs ls lo (o :: ords) o m' (led3.filter fun p => p.1 != c.L + 1 + 1 + 1) led3 PDx rfl ha0 ?gs (fun p hp => let ⟨h1, h2⟩ := List.mem_filter.mp hp; ⟨h1, by simpa using h2⟩) ⟨xc, v0, k0 _ (M2.inMu _ (.head _)) (muN _ (.head _)).symm, hc⟩ hnA qO2 qA2
  have hOi' : (Oa, listOf vs.toArray cV) ∈ led3.filter fun p => p.1 != c.L + 1 + 1 + 1 := kp _ (pr3 _ (.head _) hOne)
  refine ⟨⟨⟨⟨ras, cR, kp _ (mu3 _ (.tail _ (.tail _ (.head _)))), hB.rlen, fun i r hr => ?_⟩, ?_⟩, ⟨lsv, cL, kp _ (mu3 _ (.tail _ (.tail _ (.tail _ (.tail _ (.head _)))))), hl⟩, ⟨vs, cV, hOi', hOi⟩, hB.lsb, ?_, ?_⟩, ⟨⟨D, nD, ⟨.ref D, rfl, own0.attr upd_at⟩, kp _ ⟨hD3, hDc⟩⟩, fun b hb => ?_, fun b hb q hq => ?_, ?_, fun b hb => ?_⟩,
    ⟨cD, kp _ (mu3 _ (.tail _ (.tail _ (.tail _ (.head _)))))⟩, ⟨cB, kp _ (mu3 _ (.tail _ (.head _)))⟩, ⟨lov, cO, kp _ (mu3 _ (.tail _ (.tail _ (.tail _ (.tail _ (.tail _ (.head _))))))), ho⟩, fun j r hr => ?_, inst, ⟨y1, ?_, hy1⟩, ⟨y2, ?_, hy2⟩⟩
  · obtain ⟨a, h1, h2⟩ := hB.rows i r hr; exact ⟨a, h1, h2.mono kpr⟩
  · have := PDx.rl; omega
  · have := hB.lsl; have := PDx.rl; omega
  · rw [List.length_map]; omega
  · obtain ⟨i, hi, rfl⟩ := List.mem_map.mp hb
    obtain ⟨b, hbi⟩ : ∃ a, bs[i]? = some a := ⟨_, List.getElem?_eq_getElem (hOk.lt i hi)⟩
    rw [bsAt_eq hbi]
    obtain ⟨L, nL, dx', hlm, hdx, f', kk', nm', t', ⟨es', ne', h5, h6, h7⟩, hkk', hfm', hfn'⟩ := hB.con i b hbi
    have hLm : (L, refL (memA rs das ls i) nL) ∈ lm := List.mem_of_getElem? hlm
    have em : (memP bs das rs ls b).map (·.1) = memA rs das ls i := by unfold memP memA; rw [idxOf_at hB.bnd hbi, List.map_map]; rfl
    refine ⟨L, nL, ⟨.ref L, rfl, ?_⟩, by rw [em]; exact kp _ (mu3 _ (.tail _ (.tail _ (.tail _ (.tail _ (.tail _ (.tail _ hLm)))))))⟩
    by_cases hio : i = o
    · subst hio
      rw [ha0] at hbi
      cases hbi
      rw [hlm0] at hlm
      cases hlm
      exact own0.attr (upd_ne hfm (by decide))
    · have hdn : dx' ≠ dx0 := fun e => hio (by
        subst e
        have hil := (List.getElem?_eq_some_iff.mp hdx).1
        exact (List.getElem?_inj hil hB.dxn).mp (hdx.trans hdx0.symm))
      have own1 : OwnF 59 (led3.filter fun p => p.1 != c.L + 1 + 1 + 1) b dx' f' kk' := ⟨es', ne', kp _ (pr3 _ (.tail _ h5) (notD _ _ (i2 _ h5) (fun e => nomatch e))), kp _ (pr3 _ (.tail _ h6) hdn), h7⟩
      exact own1.attr hfm'
  · obtain ⟨j, hj, rfl⟩ := List.mem_map.mp hq
    have hjl := hB.lsb j (List.mem_filter.mp hj).1
    obtain ⟨d, h1, h2, _⟩ := hB.decls j _ (List.getElem?_eq_getElem hjl)
    show DeclAt _ (das.getD j 0) (rs[j]?.getD noRow)
    rw [List.getD_eq_getElem?_getD, h1, List.getElem?_eq_getElem hjl]
    exact h2.mono kpr
  · rw [List.length_map]; omega
  · unfold memP
    rw [List.length_map]
    exact Nat.le_trans (List.length_filter_le _ _) (by have := hB.lsl; have := PDx.rl; omega)
  · obtain ⟨d, h1, h2, h4⟩ := hB.decls j r hr
    exact ⟨d, h1, h2.mono kpr, h4.mono kpr⟩
  · have h5 := hb _ (.head _)
    refine kp _ (pr3 _ (.tail _ h5) (notD _ _ (i2 _ h5) fun e => ?_))
    rw [e] at hy1; exact nomatch hy1
  · have h5 := hb _ (.tail _ (.head _))
    refine kp _ (pr3 _ (.tail _ h5) (notD _ _ (i2 _ h5) fun e => ?_))
    rw [e] at hy2; exact nomatch hy2
noncomputable def rowJ (rs : List Row) (j : Nat) : Row := rs[j]?.getD noRow
noncomputable def prJ (das : List Addr) (rs : List Row) (j : Nat) : Addr × Row := (das.getD j 0, rowJ rs j)
/-- the listed numbers along the order, from a place on -/
noncomputable def seqJ (rs : List Row) (ls ord : List Nat) (k : Nat) : List Nat := (ord.drop k).flatMap (memI rs ls)
/-- ranked before -/
noncomputable def before (rs : List Row) (ord : List Nat) (a b : Nat) : Prop := lexB (rankZ rs (natZ ord) a).1 (rankZ rs (natZ ord) a).2 (rankZ rs (natZ ord) b).1 (rankZ rs (natZ ord) b).2 = true
theorem natZ_idxOf (ord : List Nat) (x : Nat) : (natZ ord).idxOf (x : Int) = ord.idxOf x := by
  induction ord with
  | nil => rfl
  | cons y r ih =>
    show (((y : Nat) : Int) :: natZ r).idxOf _ = _
    rw [List.idxOf_cons, List.idxOf_cons, ih]
    have : ((y : Int) == (x : Int)) = (y == x) := by rw [Bool.eq_iff_iff, beq_iff_eq, beq_iff_eq]; omega
    rw [this]
theorem natZ_any (ord : List Nat) (x : Nat) : (natZ ord).any (· == (x : Int)) = decide (x ∈ ord) := by
  rw [Bool.eq_iff_iff, List.any_eq_true, decide_eq_true_iff]
  constructor
  · rintro ⟨y, hy, e⟩
    obtain ⟨z, hz, rfl⟩ := List.mem_map.mp hy
    have := eq_of_beq e
    rw [show x = z by omega]
    exact hz
  · exact fun h => ⟨_, List.mem_map_of_mem h, beq_self_eq_true _⟩
theorem rank_at (rs : List Row) (ord : List Nat) (j : Nat) : rankZ rs (natZ ord) j = (((ord.idxOf (spotN rs j) : Nat) : Int), (j : Int)) := by
  unfold rankZ spotZ
  rw [natZ_idxOf]
  rfl
theorem inOrd_at (rs : List Row) (ord : List Nat) (j : Nat) : inOrd rs (natZ ord) j = decide (spotN rs j ∈ ord) := natZ_any ord _
theorem before_iff {rs : List Row} {ord : List Nat} {a b : Nat} : before rs ord a b ↔ ord.idxOf (spotN rs a) < ord.idxOf (spotN rs b) ∨ (ord.idxOf (spotN rs a) = ord.idxOf (spotN rs b) ∧ a < b) := by
  unfold before
  rw [lexB_iff, rank_at, rank_at]
  simp only
  omega
theorem not_before {rs : List Row} {ord : List Nat} {a b : Nat} (h : before rs ord a b) : lexB (rankZ rs (natZ ord) b).1 (rankZ rs (natZ ord) b).2 (rankZ rs (natZ ord) a).1 (rankZ rs (natZ ord) a).2 = false := by
  rw [Bool.eq_false_iff]
  intro h2
  have h2 : before rs ord b a := h2
  rw [before_iff] at h h2
  omega
theorem same_rank {rs : List Row} {ord : List Nat} {a b : Nat} (h1 : lexB (rankZ rs (natZ ord) b).1 (rankZ rs (natZ ord) b).2 (rankZ rs (natZ ord) a).1 (rankZ rs (natZ ord) a).2 = false) (h2 : lexB (rankZ rs (natZ ord) a).1 (rankZ rs (natZ ord) a).2 (rankZ rs (natZ ord) b).1 (rankZ rs (natZ ord) b).2 = false) : a = b := by
  have g1 : ¬before rs ord b a := by unfold before; rw [h1]; exact Bool.false_ne_true
  have g2 : ¬before rs ord a b := by unfold before; rw [h2]; exact Bool.false_ne_true
  rw [before_iff] at g1 g2
  omega
section
variable {bs das : List Addr} {rs : List Row} {ls lo ord : List Nat}
theorem mem_memI {i j : Nat} : j ∈ memI rs ls i ↔ j ∈ ls ∧ spotN rs j = i := by
  unfold memI
  rw [List.mem_filter, beq_iff_eq]
theorem mem_seq {k j : Nat} : j ∈ seqJ rs ls ord k ↔ j ∈ ls ∧ spotN rs j ∈ ord.drop k := by
  unfold seqJ
  rw [List.mem_flatMap]
  constructor
  · rintro ⟨i, hi, hj⟩
    rw [mem_memI] at hj
    exact ⟨hj.1, hj.2 ▸ hi⟩
  · exact fun ⟨h1, h2⟩ => ⟨_, h2, mem_memI.mpr ⟨h1, rfl⟩⟩
theorem idx_lt {ord : List Nat} (h : ord.Nodup) : ord.Pairwise fun a b => ord.idxOf a < ord.idxOf b := by
  rw [List.pairwise_iff_getElem]
  intro i j hi hj hij
  rw [List.Nodup.idxOf_getElem h i hi, List.Nodup.idxOf_getElem h j hj]
  exact hij
theorem seq_sorted (hls : ls.Pairwise (· < ·)) (hord : ord.Nodup) (k : Nat) : (seqJ rs ls ord k).Pairwise (before rs ord) := by
  unfold seqJ
  rw [List.pairwise_flatMap]
  refine ⟨fun i _ => ?_, ?_⟩
  · refine List.Pairwise.imp_of_mem (fun {a b} ha hb hab => ?_) (hls.sublist (List.filter_sublist (p := fun j => spotN rs j == i)))
    have ha := (mem_memI.mp ha).2
    have hb := (mem_memI.mp hb).2
    rw [before_iff, ha, hb]
    exact .inr ⟨rfl, hab⟩
  · refine ((idx_lt hord).sublist (List.drop_sublist k ord)).imp fun {a b} hab x hx y hy => ?_
    rw [before_iff, (mem_memI.mp hx).2, (mem_memI.mp hy).2]
    exact .inl hab
/-- the least is the first -/
theorem least_find (hls : ls.Pairwise (· < ·)) (hord : ord.Nodup) {k : Nat} {p : Nat → Bool} {ws : List Nat} {z : Int} (hw : ∀ j, (j ∈ ws ∧ inOrd rs (natZ ord) j = true) ↔ (j ∈ seqJ rs ls ord k ∧ p j = true)) (h : Least rs (natZ ord) ws z) :
    z = match (seqJ rs ls ord k).find? p with | some i => (i : Int) | none => -1 := by
  rcases h with ⟨rfl, h⟩ | ⟨j, h1, h2, rfl, h4⟩
  · have : (seqJ rs ls ord k).find? p = none := List.find?_eq_none.mpr fun j hj hp => by
      obtain ⟨h1, h2⟩ := (hw j).mpr ⟨hj, hp⟩
      rw [h j h1] at h2
      exact nomatch h2
    rw [this]
  · obtain ⟨g1, g2⟩ := (hw j).mp ⟨h1, h2⟩
    cases e : (seqJ rs ls ord k).find? p with
    | none => exact absurd g2 (List.find?_eq_none.mp e j g1)
    | some i =>
      obtain ⟨hp, as, cs, hs, has⟩ := List.find?_eq_some_iff_append.mp e
      have hi : i ∈ seqJ rs ls ord k := by rw [hs]; exact List.mem_append_right _ (.head _)
      obtain ⟨w1, w2⟩ := (hw i).mpr ⟨hi, hp⟩
      have hle := h4 i w1 w2
      have sorted := seq_sorted (rs := rs) hls hord k
      rw [hs] at sorted g1
      rcases List.mem_append.mp g1 with hj | hj
      · have := has j hj
        rw [g2] at this
        exact nomatch this
      rcases List.mem_cons.mp hj with rfl | hj
      · rfl
      · have hb := (List.pairwise_cons.mp (List.pairwise_append.mp sorted).2.1).1 j hj
        unfold before at hb
        rw [hle] at hb
        exact nomatch hb
theorem memP_at (hb : bs.Nodup) {i : Nat} (hi : i < bs.length) : memP bs das rs ls (bsAt bs i) = (memI rs ls i).map (prJ das rs) := by
  unfold memP
  have := List.getElem?_eq_getElem hi
  rw [bsAt_eq this, idxOf_at hb this]
  rfl
theorem lin_flat (hb : bs.Nodup) (ho : ∀ i ∈ ord, i < bs.length) (k : Nat) : ((ord.map (bsAt bs)).drop k).flatMap (memP bs das rs ls) = (seqJ rs ls ord k).map (prJ das rs) := by
  unfold seqJ
  rw [← List.map_drop, List.flatMap_map, List.map_flatMap]
  rw [List.flatMap_def, List.flatMap_def]
  exact congrArg List.flatten (List.map_congr_left fun i hi => memP_at hb (ho i (List.mem_of_mem_drop hi)))
theorem find_pr {α : Type} (l : List Nat) (g : Nat → α) (p : α → Bool) : (l.map g).find? p = (l.find? fun j => p (g j)).map g := List.find?_map ..
theorem bsAt_inj (hb : bs.Nodup) {i j : Nat} (hi : i < bs.length) (hj : j < bs.length) (e : bsAt bs i = bsAt bs j) : i = j := by
  have h1 := List.getElem?_eq_getElem hi
  have h2 := List.getElem?_eq_getElem hj
  rw [bsAt_eq h1, bsAt_eq h2] at e
  exact (List.getElem?_inj hi hb).mp (by rw [h1, h2, e])
theorem mem_lin (hb : bs.Nodup) (ho : ∀ i ∈ ord, i < bs.length) {i : Nat} (hi : i < bs.length) : bsAt bs i ∈ ord.map (bsAt bs) ↔ i ∈ ord := by
  rw [List.mem_map]
  exact ⟨fun ⟨j, hj, e⟩ => bsAt_inj hb (ho j hj) hi e ▸ hj, fun h => ⟨i, h, rfl⟩⟩
theorem idx_lin (hb : bs.Nodup) {i : Nat} (hi : i < bs.length) : ∀ (ord : List Nat), (∀ j ∈ ord, j < bs.length) → (ord.map (bsAt bs)).idxOf (bsAt bs i) = ord.idxOf i
  | [], _ => rfl
  | j :: r, ho => by
    rw [List.map_cons, List.idxOf_cons, List.idxOf_cons, idx_lin hb hi r fun j hj => ho j (.tail _ hj)]
    have : (bsAt bs j == bsAt bs i) = (j == i) := by
      rw [Bool.eq_iff_iff, beq_iff_eq, beq_iff_eq]
      exact ⟨bsAt_inj hb (ho j (.head _)) hi, fun e => by rw [e]⟩
    rw [this]
end
section
variable {bs das : List Addr} {rs : List Row} {ls lo ord : List Nat}
theorem idxOf_das (H : PD bs das rs ls lo ord) {j : Nat} (hj : j < rs.length) : das.idxOf (das.getD j 0) = j := by
  have hj' : j < das.length := by rw [H.dlen]; exact hj
  rw [List.getD_eq_getElem?_getD, List.getElem?_eq_getElem hj']
  exact List.Nodup.idxOf_getElem H.dnd j hj'
theorem spot_lt (H : PD bs das rs ls lo ord) {j : Nat} (hj : j < rs.length) : spotN rs j < bs.length := by
  unfold spotN
  rw [List.getElem?_eq_getElem hj]
  exact (H.spot _ (List.getElem_mem hj)).1
theorem seq_lt (H : PD bs das rs ls lo ord) {k j : Nat} (h : j ∈ seqJ rs ls ord k) : j < rs.length := H.lsb j (mem_seq.mp h).1
noncomputable def numJ : Option Nat → Int
  | some i => (i : Int)
  | none => -1
theorem numO_map (H : PD bs das rs ls lo ord) {x : Option Nat} (hx : ∀ i, x = some i → i < rs.length) : numO das (x.map fun i => das.getD i 0) = numJ x := by
  cases x with
  | none => rfl
  | some i => show ((das.idxOf (das.getD i 0) : Nat) : Int) = _; rw [idxOf_das H (hx i rfl)]; rfl
/-- what super means, in numbers -/
noncomputable def supJ (rs : List Row) (ls ord : List Nat) (j k : Nat) : Option Nat := if k ∈ ord then (seqJ rs ls ord (ord.idxOf k + 1)).find? (fun i => likeB (rowJ rs i) (rowJ rs j) && innerB (rowJ rs i)) else none
theorem sup_eq (H : PD bs das rs ls lo ord) (j : Nat) {k : Nat} (hk : k < bs.length) : (if bsAt bs k ∈ ord.map (bsAt bs) then (((ord.map (bsAt bs)).drop ((ord.map (bsAt bs)).idxOf (bsAt bs k) + 1)).flatMap (memP bs das rs ls)).find? (fun q => likeB q.2 (rowJ rs j) && innerB q.2) else none) = (supJ rs ls ord j k).map (prJ das rs) := by
  have ho := H.ord.lt
  unfold supJ
  by_cases h : k ∈ ord
  · rw [if_pos h, if_pos ((mem_lin H.bnd ho hk).mpr h), idx_lin H.bnd hk ord ho, lin_flat H.bnd ho, find_pr]
    rfl
  · rw [if_neg h, if_neg fun h' => h ((mem_lin H.bnd ho hk).mp h')]
    rfl
theorem sup_lt (H : PD bs das rs ls lo ord) {j k i : Nat} (h : supJ rs ls ord j k = some i) : i < rs.length := by
  unfold supJ at h
  split at h
  · exact seq_lt H (List.mem_of_find?_eq_some h)
  · exact nomatch h
theorem sup_law (H : PD bs das rs ls lo ord) {j k : Nat} {z : Int} (h : Least rs (natZ ord) (nextL rs ls (natZ ord) (k : Nat) j) z) : numJ (supJ rs ls ord j k) = z := by
  unfold supJ
  by_cases hk : k ∈ ord
  · rw [if_pos hk]
    refine (least_find (ls := ls) H.lss H.ord.nodup (k := ord.idxOf k + 1) (p := fun i => likeB (rowJ rs i) (rowJ rs j) && innerB (rowJ rs i)) (fun i => ?_) h).symm
    have e : inOrd rs (laterZ (natZ ord) (k : Nat)) i = decide (spotN rs i ∈ ord.drop (ord.idxOf k + 1)) := by
      unfold laterZ
      rw [natZ_any, if_pos (decide_eq_true hk), natZ_idxOf]
      rw [show (natZ ord).drop (ord.idxOf k + 1) = natZ (ord.drop (ord.idxOf k + 1)) from (List.map_drop ..).symm]
      exact inOrd_at rs _ i
    unfold nextL laterB
    rw [List.mem_filter, List.mem_filter, List.mem_filter, e, inOrd_at, mem_seq]
    unfold likeR pubR innerB rowJ
    simp only [Bool.and_eq_true, decide_eq_true_iff]
    constructor
    · rintro ⟨⟨⟨⟨h1, h2⟩, h3, h4⟩, h5⟩, h6⟩; exact ⟨⟨h1, h3⟩, h2, h5, h4⟩
    · rintro ⟨⟨h1, h3⟩, h2, h5, h4⟩; exact ⟨⟨⟨⟨h1, h2⟩, h3, h4⟩, h5⟩, List.mem_of_mem_drop h3⟩
  · rw [if_neg hk]
    rcases h with ⟨rfl, _⟩ | ⟨i, h1, _⟩
    · rfl
    · unfold nextL laterB laterZ at h1
      rw [natZ_any, if_neg (by rw [decide_eq_false hk]; exact Bool.false_ne_true)] at h1
      have := (List.mem_filter.mp (List.mem_filter.mp h1).1).2
      exact nomatch this
/-- where virtual leads, in numbers -/
noncomputable def outJ (rs : List Row) (lo ord : List Nat) (j : Nat) : Bool := decide (j ∈ lo) || (privB (rowJ rs j) || !decide (spotN rs j ∈ ord))
noncomputable def virJ (rs : List Row) (ls lo ord : List Nat) (j : Nat) : Nat := if outJ rs lo ord j = true then j else ((seqJ rs ls ord 0).find? fun i => likeB (rowJ rs i) (rowJ rs j) && npB (rowJ rs i)).getD j
theorem own_at (H : PD bs das rs ls lo ord) {j : Nat} (hj : j < rs.length) : bs[(rowJ rs j).spot]? = some (bsAt bs (spotN rs j)) := by
  have := List.getElem?_eq_getElem (spot_lt H hj)
  show bs[spotN rs j]? = _
  rw [this, bsAt_eq this]
theorem vir_eq (H : PD bs das rs ls lo ord) {j : Nat} (hj : j < rs.length) : virtR (ord.map (bsAt bs)) (memP bs das rs ls) (das.getD j 0) (rowJ rs j) (if j ∈ lo then none else bs[(rowJ rs j).spot]?) = das.getD (virJ rs ls lo ord j) 0 := by
  have ho := H.ord.lt
  have e : (privB (rowJ rs j) || ownOut (ord.map (bsAt bs)) (if j ∈ lo then none else bs[(rowJ rs j).spot]?)) = outJ rs lo ord j := by
    unfold outJ
    by_cases hl : j ∈ lo
    · rw [if_pos hl, decide_eq_true hl]
      show (_ || true) = _
      rw [Bool.or_true, Bool.true_or]
    · rw [if_neg hl, own_at H hj, decide_eq_false hl, Bool.false_or]
      show (_ || !decide (_ ∈ _)) = _
      rw [decide_eq_decide.mpr (mem_lin H.bnd ho (spot_lt H hj))]
  unfold virtR virJ
  rw [e]
  by_cases hb : outJ rs lo ord j = true
  · rw [if_pos hb, if_pos hb]
  · rw [if_neg hb, if_neg hb]
    have := lin_flat (das := das) (rs := rs) (ls := ls) H.bnd ho 0
    rw [List.drop_zero] at this
    rw [this, find_pr, Option.map_map]
    show (Option.map _ (List.find? (fun i => likeB (rowJ rs i) (rowJ rs j) && npB (rowJ rs i)) (seqJ rs ls ord 0))).getD _ = _
    cases List.find? (fun i => likeB (rowJ rs i) (rowJ rs j) && npB (rowJ rs i)) (seqJ rs ls ord 0) <;> rfl
theorem vir_lt (H : PD bs das rs ls lo ord) {j : Nat} (hj : j < rs.length) : virJ rs ls lo ord j < rs.length := by
  unfold virJ
  split
  · exact hj
  · cases e : List.find? (fun i => likeB (rowJ rs i) (rowJ rs j) && npB (rowJ rs i)) (seqJ rs ls ord 0) with
    | none => exact hj
    | some i => exact seq_lt H (List.mem_of_find?_eq_some e)
theorem vir_law (H : PD bs das rs ls lo ord) {j : Nat} {z : Int} (h : NearZ rs ls (natZ ord) j (decide (j ∈ lo)) z) : ((virJ rs ls lo ord j : Nat) : Int) = z := by
  have e : (decide (j ∈ lo) || (!npR rs j || !inOrd rs (natZ ord) j)) = outJ rs lo ord j := by
    unfold outJ
    rw [inOrd_at]
    have : (!npR rs j) = privB (rowJ rs j) := by unfold npR npB privB rowJ; rw [bne, Bool.not_not]
    rw [this]
  unfold NearZ at h
  rw [e] at h
  unfold virJ
  by_cases hb : outJ rs lo ord j = true
  · rw [if_pos hb] at h ⊢; exact h.symm
  · rw [if_neg hb] at h ⊢
    obtain ⟨z0, hl, rfl⟩ := h
    have := least_find (ls := ls) H.lss H.ord.nodup (k := 0) (p := fun i => likeB (rowJ rs i) (rowJ rs j) && npB (rowJ rs i)) (fun i => ?_) hl
    · cases e2 : (seqJ rs ls ord 0).find? fun i => likeB (rowJ rs i) (rowJ rs j) && npB (rowJ rs i) with
      | none => rw [e2] at this; subst this; rfl
      | some i => rw [e2] at this; subst this; exact (if_pos (Int.natCast_nonneg i)).symm
    · rw [List.mem_filter, List.mem_filter, inOrd_at, mem_seq, List.drop_zero]
      unfold likeR npR rowJ
      simp only [Bool.and_eq_true, decide_eq_true_iff]
      constructor
      · rintro ⟨⟨⟨h1, h2⟩, h3⟩, h4⟩; exact ⟨⟨h1, h4⟩, h2, h3⟩
      · rintro ⟨⟨h1, h4⟩, h2, h3⟩; exact ⟨⟨⟨h1, h2⟩, h3⟩, h4⟩
end
/-- what functions_in lets through, the keys apart -/
noncomputable def visP (rs : List Row) (call : Str) (st o j : Nat) : Bool :=
  ((rowJ rs j).sort == (Str.ofString "function")) && (((rowJ rs j).duty == (Str.ofString "function")) && (((rowJ rs j).call == call) && (!((rowJ rs j).seen == (Str.ofString "private") && !(spotN rs j == o)) && !(decide (0 < st) && (!(rowJ rs j).full || (rowJ rs j).seen == (Str.ofString "external"))))))
noncomputable def addF (rs : List Row) (p : Nat → Bool) (acc : List Nat) (j : Nat) : List Nat := bif p j && !(acc.map (keyR rs)).any (· == keyR rs j) then acc ++ [j] else acc
noncomputable def firsts (rs : List Row) (p : Nat → Bool) (l : List Nat) : List Nat := l.foldl (addF rs p) []
section
variable {bs das : List Addr} {rs : List Row} {ls lo ord : List Nat}
theorem bool_step {a b c d e f g : Bool} : (((!a) || ((!b) || ((!c) || d))) || (e || (f && g))) = !((a && (b && (c && (!e && !(f && g))))) && !d) := by
  cases a <;> cases b <;> cases c <;> cases d <;> cases e <;> cases f <;> cases g <;> rfl
theorem stepF_pr {call : Str} {st o j : Nat} {acc : List Nat} : stepF (st : Nat) (spotN rs j == o) call (acc.map (prJ das rs)) (prJ das rs j) = (addF rs (visP rs call st o) acc j).map (prJ das rs) := by
  have ek : (acc.map (prJ das rs)).map (fun q => q.2.key) = acc.map (keyR rs) := by rw [List.map_map]; rfl
  have e : (skip1 call ((acc.map (prJ das rs)).map (·.2.key)) (prJ das rs j).2 || (skip2 (spotN rs j == o) (prJ das rs j).2 || skip3 (st : Nat) (prJ das rs j).2)) = !(visP rs call st o j && !(acc.map (keyR rs)).any (· == keyR rs j)) := by
    rw [ek]
    unfold skip1 skip2 skip3 visP
    have hs : decide ((0 : Int) < ((st : Nat) : Int)) = decide (0 < st) := by rw [decide_eq_decide]; omega
    rw [hs]
    exact bool_step
  unfold stepF addF
  rw [e]
  cases h : visP rs call st o j && !(acc.map (keyR rs)).any (· == keyR rs j) with
  | true => rw [if_neg (by rw [Bool.not_true]; exact Bool.false_ne_true), cond_true, List.map_append]; rfl
  | false => rw [if_pos (by rfl), cond_false]
theorem foldl_pr {call : Str} {st o : Nat} {home : Bool} : ∀ (js acc : List Nat), (∀ j ∈ js, (spotN rs j == o) = home) → (js.map (prJ das rs)).foldl (stepF (st : Nat) home call) (acc.map (prJ das rs)) = (js.foldl (addF rs (visP rs call st o)) acc).map (prJ das rs)
  | [], _, _ => rfl
  | j :: js, acc, h => by
    rw [List.map_cons, List.foldl_cons, List.foldl_cons, ← h j (.head _), stepF_pr, h j (.head _)]
    exact foldl_pr js _ fun j hj => h j (.tail _ hj)
theorem foldF_pr (H : PD bs das rs ls lo ord) {call : Str} {st o : Nat} {a0 : Addr} (ha : bs[o]? = some a0) : ∀ (is acc : List Nat), (∀ i ∈ is, i < bs.length) →
    (is.map (bsAt bs)).foldl (fun acc b => (memP bs das rs ls b).foldl (stepF (st : Nat) (b == a0) call) acc) (acc.map (prJ das rs)) = ((is.flatMap (memI rs ls)).foldl (addF rs (visP rs call st o)) acc).map (prJ das rs)
  | [], _, _ => rfl
  | i :: is, acc, hi => by
    have hib := hi i (.head _)
    have ho := (List.getElem?_eq_some_iff.mp ha).1
    rw [List.map_cons, List.foldl_cons, List.flatMap_cons, List.foldl_append, memP_at H.bnd hib, foldl_pr (o := o) (home := bsAt bs i == a0) _ _ (fun j hj => ?_)]
    · exact foldF_pr H ha is _ fun j hj => hi j (.tail _ hj)
    · rw [(mem_memI.mp hj).2, ← bsAt_eq ha, Bool.eq_iff_iff, beq_iff_eq, beq_iff_eq]
      exact ⟨fun e => by rw [e], bsAt_inj H.bnd hib ho⟩
theorem functions_eq (H : PD bs das rs ls lo ord) {call : Str} {st o : Nat} {a0 : Addr} (ha : bs[o]? = some a0) : foldF (st : Nat) a0 call (memP bs das rs ls) ((ord.map (bsAt bs)).drop st) = (firsts rs (visP rs call st o) (seqJ rs ls ord st)).map (prJ das rs) := by
  unfold foldF firsts seqJ
  rw [← List.map_drop]
  exact foldF_pr H ha (ord.drop st) [] fun i hi => H.ord.lt i (List.mem_of_mem_drop hi)
/-- the firsts so far -/
structure FirstOk (rs : List Row) (R : Nat → Nat → Prop) (p : Nat → Bool) (l r : List Nat) : Prop where
  mem : ∀ j ∈ r, j ∈ l ∧ p j = true ∧ ∀ i ∈ l, p i = true → keyR rs i = keyR rs j → i = j ∨ R j i
  all : ∀ i ∈ l, p i = true → ∃ j ∈ r, keyR rs j = keyR rs i
  keys : (r.map (keyR rs)).Nodup
  row : r.Pairwise R
theorem FirstOk.step {R : Nat → Nat → Prop} {p : Nat → Bool} {l r : List Nat} {x : Nat} (h : FirstOk rs R p l r) (hx : ∀ a ∈ l, R a x) : FirstOk rs R p (l ++ [x]) (addF rs p r x) := by
  unfold addF
  have me : ∀ {i}, i ∈ l ++ [x] ↔ i ∈ l ∨ i = x := fun {i} => by rw [List.mem_append, List.mem_singleton]
  have any_iff : (r.map (keyR rs)).any (· == keyR rs x) = true ↔ ∃ j ∈ r, keyR rs j = keyR rs x := by
    rw [List.any_eq_true]
    constructor
    · rintro ⟨k, hk, e⟩; obtain ⟨j, hj, rfl⟩ := List.mem_map.mp hk; exact ⟨j, hj, eq_of_beq e⟩
    · rintro ⟨j, hj, e⟩; exact ⟨_, List.mem_map_of_mem hj, beq_iff_eq.mpr e⟩
  cases hp : p x && !(r.map (keyR rs)).any (· == keyR rs x) with
  | true =>
    rw [cond_true]
    rw [Bool.and_eq_true, Bool.not_eq_true', Bool.eq_false_iff, ne_eq, any_iff] at hp
    obtain ⟨hp, hn⟩ := hp
    refine ⟨fun j hj => ?_, fun i hi hpi => ?_, ?_, ?_⟩
    · rcases (me (i := j)).mp (by
        rcases List.mem_append.mp hj with hj | hj
        · exact List.mem_append_left _ (h.mem j hj).1
        · exact List.mem_append_right _ hj) with hjl | rfl
      · rcases List.mem_append.mp hj with hj' | hj'
        · obtain ⟨h1, h2, h3⟩ := h.mem j hj'
          refine ⟨me.mpr (.inl h1), h2, fun i hi hpi e => ?_⟩
          rcases me.mp hi with hi | rfl
          · exact h3 i hi hpi e
          · exact .inr (hx j h1)
        · rw [List.mem_singleton] at hj'
          subst hj'
          obtain ⟨j', h1, h2⟩ := h.all j hjl hp
          exact absurd ⟨j', h1, h2⟩ hn
      · refine ⟨me.mpr (.inr rfl), hp, fun i hi hpi e => ?_⟩
        rcases me.mp hi with hi | rfl
        · obtain ⟨j', h1, h2⟩ := h.all i hi hpi
          exact absurd ⟨j', h1, h2.trans e⟩ hn
        · exact .inl rfl
    · rcases me.mp hi with hi | rfl
      · obtain ⟨j, h1, h2⟩ := h.all i hi hpi
        exact ⟨j, List.mem_append_left _ h1, h2⟩
      · exact ⟨i, List.mem_append_right _ (.head _), rfl⟩
    · rw [List.map_append, List.nodup_append]
      refine ⟨h.keys, List.pairwise_singleton _ _, fun a ha b hb e => ?_⟩
      obtain ⟨j, hj, rfl⟩ := List.mem_map.mp ha
      rw [show [x].map (keyR rs) = [keyR rs x] from rfl, List.mem_singleton] at hb
      exact hn ⟨j, hj, e.trans hb⟩
    · rw [List.pairwise_append]
      exact ⟨h.row, List.pairwise_singleton _ _, fun a ha b hb => by rw [List.mem_singleton.mp hb]; exact hx a (h.mem a ha).1⟩
  | false =>
    rw [cond_false]
    refine ⟨fun j hj => ?_, fun i hi hpi => ?_, h.keys, h.row⟩
    · obtain ⟨h1, h2, h3⟩ := h.mem j hj
      refine ⟨me.mpr (.inl h1), h2, fun i hi hpi e => ?_⟩
      rcases me.mp hi with hi | rfl
      · exact h3 i hi hpi e
      · exact .inr (hx j h1)
    · rcases me.mp hi with hi | rfl
      · exact h.all i hi hpi
      · rw [hpi, Bool.true_and, Bool.not_eq_false', any_iff] at hp
        exact hp
theorem firsts_ok {R : Nat → Nat → Prop} {p : Nat → Bool} : ∀ (l pre r : List Nat), (pre ++ l).Pairwise R → FirstOk rs R p pre r → FirstOk rs R p (pre ++ l) (l.foldl (addF rs p) r)
  | [], pre, r, _, h => by rw [List.append_nil]; exact h
  | x :: l, pre, r, hs, h => by
    have e : pre ++ x :: l = (pre ++ [x]) ++ l := by simp
    rw [e] at hs ⊢
    exact firsts_ok l (pre ++ [x]) _ hs (h.step fun a ha => (List.pairwise_append.mp (List.pairwise_append.mp hs).1).2.2 a ha x (.head _))
theorem VisOk.uniq {fs ns fs' ns' : List Nat} (h : VisOk rs (natZ ord) fs ns) (h' : VisOk rs (natZ ord) fs' ns') (he : ∀ j, j ∈ fs ↔ j ∈ fs') : ns = ns' := by
  have half : ∀ {fs ns fs' ns' : List Nat}, VisOk rs (natZ ord) fs ns → VisOk rs (natZ ord) fs' ns' → (∀ j, j ∈ fs ↔ j ∈ fs') → ∀ j ∈ ns, j ∈ ns' := fun {fs ns fs' ns'} h h' he j hj => by
    obtain ⟨h1, h2⟩ := h.mem j hj
    obtain ⟨i, hi, e⟩ := h'.all j ((he j).mp h1)
    obtain ⟨g1, g2⟩ := h'.mem i hi
    have := same_rank (h2 i ((he i).mpr g1) e) (g2 j ((he j).mp h1) e.symm)
    exact this ▸ hi
  have nd : ∀ {fs ns : List Nat}, VisOk rs (natZ ord) fs ns → ns.Nodup := fun {fs ns} h => (List.pairwise_map.mp h.keys).imp fun hne e => hne (by rw [e])
  have hp : ns.Perm ns' := (List.perm_ext_iff_of_nodup (nd h) (nd h')).mpr fun j => ⟨half h h' he j, half h' h (fun j => (he j).symm) j⟩
  exact hp.eq_of_pairwise (fun a b _ _ h1 h2 => same_rank h1 h2) h.row h'.row
theorem firsts_vis (H : PD bs das rs ls lo ord) {call : Str} {st o : Nat} : VisOk rs (natZ ord) ((seqJ rs ls ord st).filter (visP rs call st o)) (firsts rs (visP rs call st o) (seqJ rs ls ord st)) := by
  have h := firsts_ok (rs := rs) (p := visP rs call st o) (seqJ rs ls ord st) [] [] (seq_sorted H.lss H.ord.nodup st) ⟨(fun _ h => nomatch h), (fun _ h => nomatch h), List.nodup_nil, .nil⟩
  refine ⟨fun j hj => ?_, fun x hx => ?_, h.keys, h.row.imp fun hab => not_before hab⟩
  · obtain ⟨h1, h2, h3⟩ := h.mem j hj
    refine ⟨List.mem_filter.mpr ⟨h1, h2⟩, fun x hx e => ?_⟩
    obtain ⟨x1, x2⟩ := List.mem_filter.mp hx
    rcases h3 x x1 x2 e with rfl | hr
    · rw [Bool.eq_false_iff, ne_eq, lexB_iff]; omega
    · exact not_before hr
  · obtain ⟨x1, x2⟩ := List.mem_filter.mp hx
    exact h.all x x1 x2
theorem bool_vis {a b c d e f g h : Bool} : ((a && (b && c)) && ((!d || e) && ((f || (g && !h)) && i))) = (a && (b && (c && (i && (!(d && !e) && !(!f && (!g || h))))))) := by
  cases a <;> cases b <;> cases c <;> cases d <;> cases e <;> cases f <;> cases g <;> cases h <;> cases i <;> rfl
theorem vis_mem (H : PD bs das rs ls lo ord) {call : Str} {st o : Nat} (j : Nat) : j ∈ ls.filter (visR rs (o : Nat) call st (natZ ord)) ↔ j ∈ (seqJ rs ls ord st).filter (visP rs call st o) := by
  rw [List.mem_filter, List.mem_filter, mem_seq]
  have e : visR rs (o : Nat) call st (natZ ord) j = (decide (spotN rs j ∈ ord.drop st) && visP rs call st o j) := by
    have e1 : ((natZ ord).drop st).any (· == ((rowJ rs j).spot : Nat)) = decide (spotN rs j ∈ ord.drop st) := by
      rw [show (natZ ord).drop st = natZ (ord.drop st) from (List.map_drop ..).symm]
      exact natZ_any _ _
    have e2 : ((((rowJ rs j).spot : Nat) : Int) == ((o : Nat) : Int)) = (spotN rs j == o) := by
      rw [Bool.eq_iff_iff, beq_iff_eq, beq_iff_eq]; show (((rowJ rs j).spot : Nat) : Int) = _ ↔ (rowJ rs j).spot = o; omega
    have e3 : (((st : Nat) : Int) == 0) = !decide (0 < st) := by
      rw [Bool.eq_iff_iff, beq_iff_eq, Bool.not_eq_true', decide_eq_false_iff_not]; omega
    show visB (o : Nat) call st (natZ ord) (rowJ rs j) = _
    unfold visB visP
    rw [e1, e2, e3, bne, bne, bool_vis, Bool.not_not]
  rw [e, Bool.and_eq_true, decide_eq_true_iff]
  exact ⟨fun ⟨h1, h2, h3⟩ => ⟨⟨h1, h2⟩, h3⟩, fun ⟨⟨h1, h2⟩, h3⟩ => ⟨h1, h2, h3⟩⟩
theorem functions_law (H : PD bs das rs ls lo ord) {call : Str} {st o : Nat} {ns : List Nat} (h : VisOk rs (natZ ord) (ls.filter (visR rs (o : Nat) call st (natZ ord))) ns) : firsts rs (visP rs call st o) (seqJ rs ls ord st) = ns :=
  (firsts_vis H).uniq h fun j => (vis_mem H j).symm
/-- of one key: the first -/
theorem firsts_key {p : Nat → Bool} {k : Str} : ∀ (l acc : List Nat), (l.foldl (addF rs p) acc).filter (fun j => keyR rs j == k) = if (acc.map (keyR rs)).any (· == k) = true then acc.filter (fun j => keyR rs j == k) else acc.filter (fun j => keyR rs j == k) ++ (l.find? fun j => p j && (keyR rs j == k)).toList
  | [], acc => by
    rw [List.foldl_nil]
    split
    · rfl
    · rw [List.find?_nil]; exact (List.append_nil _).symm
  | x :: l, acc => by
    rw [List.foldl_cons, firsts_key l]
    unfold addF
    cases hp : p x && !(acc.map (keyR rs)).any (· == keyR rs x) with
    | false =>
      rw [cond_false]
      by_cases ha : (acc.map (keyR rs)).any (· == k) = true
      · rw [if_pos ha, if_pos ha]
      · rw [if_neg ha, if_neg ha]
        have : (p x && (keyR rs x == k)) = false := by
          rw [Bool.eq_false_iff]
          intro h
          obtain ⟨h1, h2⟩ := Bool.and_eq_true_iff.mp h
          rw [eq_of_beq h2, h1, Bool.true_and, Bool.not_eq_false'] at hp
          exact ha hp
        rw [List.find?_cons, this]
    | true =>
      rw [cond_true]
      obtain ⟨h1, h2⟩ := Bool.and_eq_true_iff.mp hp
      rw [Bool.not_eq_true'] at h2
      have hf : (acc ++ [x]).filter (fun j => keyR rs j == k) = acc.filter (fun j => keyR rs j == k) ++ (if (keyR rs x == k) = true then [x] else []) := by
        rw [List.filter_append]; congr 1; rw [List.filter_cons]; rfl
      have hany : ((acc ++ [x]).map (keyR rs)).any (· == k) = ((acc.map (keyR rs)).any (· == k) || (keyR rs x == k)) := by
        rw [List.map_append, List.any_append]; congr 1; exact Bool.or_false _
      rw [hany, hf, List.find?_cons, h1, Bool.true_and]
      cases hk : keyR rs x == k with
      | true =>
        rw [eq_of_beq hk] at h2
        rw [h2, Bool.false_or, if_pos rfl, if_neg Bool.false_ne_true, if_pos rfl]
        rfl
      | false =>
        rw [Bool.or_false, if_neg Bool.false_ne_true, List.append_nil]
end
theorem find_congr {α : Type} {p q : α → Bool} : ∀ {l : List α}, (∀ x ∈ l, p x = q x) → l.find? p = l.find? q
  | [], _ => rfl
  | x :: l, h => by rw [List.find?_cons, List.find?_cons, h x (.head _), find_congr fun y hy => h y (.tail _ hy)]
theorem head_call : ∀ c ∈ [(Str.ofString "f"), (Str.ofString "g"), (Str.ofString "h")], c.cps.size = 1 := by decide +kernel
theorem call_inj : ∀ a ∈ [(Str.ofString "f"), (Str.ofString "g"), (Str.ofString "h")], ∀ b ∈ [(Str.ofString "f"), (Str.ofString "g"), (Str.ofString "h")], (a.cps[0]? == b.cps[0]?) = (a == b) := by decide +kernel
theorem key_call {a b : Row} (ha : RowOk a) (hb : RowOk b) (h : a.key = b.key) : a.call = b.call := by
  obtain ⟨t1, e1, _⟩ := ha.key
  obtain ⟨t2, e2, _⟩ := hb.key
  rw [e1, e2] at h
  have g : ∀ (x t : Str), x.cps.size = 1 → (x ++ t).cps[0]? = x.cps[0]? := fun x t hx => by
    show (x.cps ++ t.cps)[0]? = _
    rw [Array.getElem?_append_left (by omega)]
  have e3 := g a.call t1 (head_call _ ha.call)
  rw [h, g b.call t2 (head_call _ hb.call)] at e3
  have := call_inj _ hb.call _ ha.call
  rw [e3, beq_self_eq_true] at this
  exact (eq_of_beq this.symm).symm
theorem seen_four : ∀ s ∈ [(Str.ofString "public"), (Str.ofString "internal"), (Str.ofString "external"), (Str.ofString "private")], [(Str.ofString "public"), (Str.ofString "internal")].any (· == s) = (!(s == (Str.ofString "private")) && !(s == (Str.ofString "external"))) := by decide +kernel
section
variable {bs das : List Addr} {rs : List Row} {ls lo ord : List Nat}
theorem rowOk_at (H : PD bs das rs ls lo ord) {j : Nat} (hj : j < rs.length) : RowOk (rowJ rs j) := by
  unfold rowJ
  rw [List.getElem?_eq_getElem hj]
  exact (H.spot _ (List.getElem_mem hj)).2
theorem like_vis (H : PD bs das rs ls lo ord) {i j : Nat} (hi : i < rs.length) (hj : j < rs.length) (h1 : (rowJ rs j).sort = (Str.ofString "function")) (h2 : (rowJ rs j).duty = (Str.ofString "function")) :
    ((((rowJ rs i).sort == (Str.ofString "function")) && (((rowJ rs i).duty == (Str.ofString "function")) && ((rowJ rs i).call == (rowJ rs j).call))) && (keyR rs i == keyR rs j)) = likeB (rowJ rs i) (rowJ rs j) := by
  unfold likeB
  rw [h1, h2]
  show _ = ((rowJ rs i).sort == (Str.ofString "function") && (keyR rs i == keyR rs j) && (rowJ rs i).duty == (Str.ofString "function"))
  cases hk : keyR rs i == keyR rs j with
  | false => rw [Bool.and_false, Bool.and_false, Bool.false_and]
  | true =>
    rw [key_call (rowOk_at H hi) (rowOk_at H hj) (eq_of_beq hk), beq_self_eq_true, Bool.and_true, Bool.and_true, Bool.and_true]
theorem agree_later (H : PD bs das rs ls lo ord) {j o : Nat} (hj : j < rs.length) (ho : ord[0]? = some o) (h1 : (rowJ rs j).sort = (Str.ofString "function")) (h2 : (rowJ rs j).duty = (Str.ofString "function")) :
    (firsts rs (visP rs (rowJ rs j).call 1 o) (seqJ rs ls ord 1)).filter (fun i => keyR rs i == keyR rs j) = (supJ rs ls ord j o).toList := by
  obtain ⟨r, rfl⟩ : ∃ r, ord = o :: r := by
    cases ord with
    | nil => exact nomatch ho
    | cons x r => exact ⟨r, by rw [Option.some.inj ho]⟩
  have hr : o ∉ r := (List.nodup_cons.mp H.ord.nodup).1
  unfold firsts
  rw [firsts_key]
  rw [if_neg (by exact Bool.false_ne_true)]
  show [] ++ _ = _
  rw [List.nil_append]
  unfold supJ
  rw [if_pos (.head _), List.idxOf_cons_self]
  refine congrArg Option.toList (find_congr fun i hi => ?_)
  have hil := seq_lt H hi
  obtain ⟨_, hs⟩ := mem_seq.mp hi
  have hso : (spotN rs i == o) = false := by
    rw [beq_eq_false_iff_ne]; intro e; rw [e] at hs; exact hr hs
  rw [← like_vis H hil hj h1 h2]
  unfold visP innerB
  rw [hso, seen_four _ (rowOk_at H hil).seen]
  have e1 : decide (0 < 1) = true := rfl
  rw [e1]
  generalize ((rowJ rs i).sort == (Str.ofString "function")) = a
  generalize ((rowJ rs i).duty == (Str.ofString "function")) = b
  generalize ((rowJ rs i).call == (rowJ rs j).call) = c
  generalize ((rowJ rs i).seen == (Str.ofString "private")) = d
  generalize ((rowJ rs i).seen == (Str.ofString "external")) = e
  generalize (rowJ rs i).full = f
  generalize (keyR rs i == keyR rs j) = g
  cases a <;> cases b <;> cases c <;> cases d <;> cases e <;> cases f <;> cases g <;> rfl
theorem agree_seen (H : PD bs das rs ls lo ord) {j o : Nat} (hj : j ∈ ls) (hs : spotN rs j ∈ ord) (hp : (rowJ rs j).seen ≠ (Str.ofString "private")) (h1 : (rowJ rs j).sort = (Str.ofString "function")) (h2 : (rowJ rs j).duty = (Str.ofString "function")) :
    ∃ i, (firsts rs (visP rs (rowJ rs j).call 0 o) (seqJ rs ls ord 0)).filter (fun i => keyR rs i == keyR rs j) = [i] ∧ i < rs.length ∧ ((rowJ rs i).seen ≠ (Str.ofString "private") → virJ rs ls lo ord j = i) := by
  have hjl := H.lsb j hj
  have hv : ∀ i, i < rs.length → (likeB (rowJ rs i) (rowJ rs j) && npB (rowJ rs i)) = ((visP rs (rowJ rs j).call 0 o i && (keyR rs i == keyR rs j)) && npB (rowJ rs i)) := fun i hi => by
    rw [← like_vis H hi hjl h1 h2]
    unfold visP npB
    have e1 : decide (0 < 0) = false := rfl
    rw [e1, bne]
    generalize ((rowJ rs i).sort == (Str.ofString "function")) = a
    generalize ((rowJ rs i).duty == (Str.ofString "function")) = b
    generalize ((rowJ rs i).call == (rowJ rs j).call) = c
    generalize ((rowJ rs i).seen == (Str.ofString "private")) = d
    generalize ((rowJ rs i).seen == (Str.ofString "external")) = e
    generalize (rowJ rs i).full = f
    generalize (keyR rs i == keyR rs j) = g
    generalize (spotN rs i == o) = h
    cases a <;> cases b <;> cases c <;> cases d <;> cases e <;> cases f <;> cases g <;> cases h <;> rfl
  have hnp : npB (rowJ rs j) = true := by unfold npB; rw [bne, Bool.not_eq_true', beq_eq_false_iff_ne]; exact hp
  have hj0 : j ∈ seqJ rs ls ord 0 := mem_seq.mpr ⟨hj, by rw [List.drop_zero]; exact hs⟩
  have hlj : (likeB (rowJ rs j) (rowJ rs j) && npB (rowJ rs j)) = true := by unfold likeB; rw [hnp, beq_self_eq_true, beq_self_eq_true, beq_self_eq_true]; rfl
  have hqj := hv j hjl
  rw [hlj, hnp, Bool.and_true] at hqj
  cases e : (seqJ rs ls ord 0).find? fun i => visP rs (rowJ rs j).call 0 o i && (keyR rs i == keyR rs j) with
  | none => exact absurd hqj.symm (List.find?_eq_none.mp e j hj0)
  | some i =>
    refine ⟨i, ?_, seq_lt H (List.mem_of_find?_eq_some e), fun hip => ?_⟩
    · unfold firsts
      rw [firsts_key, if_neg (by exact Bool.false_ne_true), e]
      rfl
    · obtain ⟨hq, as, cs, hsq, has⟩ := List.find?_eq_some_iff_append.mp e
      have hil := seq_lt H (List.mem_of_find?_eq_some e)
      have hni : npB (rowJ rs i) = true := by unfold npB; rw [bne, Bool.not_eq_true', beq_eq_false_iff_ne]; exact hip
      have e2 : (seqJ rs ls ord 0).find? (fun i => likeB (rowJ rs i) (rowJ rs j) && npB (rowJ rs i)) = some i := by
        refine List.find?_eq_some_iff_append.mpr ⟨by rw [hv i hil, hq, hni]; rfl, as, cs, hsq, fun x hx => ?_⟩
        have hxs : x ∈ seqJ rs ls ord 0 := by rw [hsq]; exact List.mem_append_left _ hx
        rw [hv x (seq_lt H hxs)]
        have := has x hx
        rw [Bool.not_eq_true'] at this ⊢
        rw [this]
        rfl
      unfold virJ
      have ho : outJ rs lo ord j = false := by
        unfold outJ
        have h3 : j ∉ lo := fun h => H.dis j h hj
        have h4 : privB (rowJ rs j) = false := by unfold privB; rw [beq_eq_false_iff_ne]; exact hp
        rw [decide_eq_false h3, h4, decide_eq_true hs]
        rfl
      rw [ho, if_neg Bool.false_ne_true, e2]
      rfl
/-- at most three keys -/
theorem three_keys (H : PD bs das rs ls lo ord) {call : Str} {st o : Nat} : ∃ K3 : List Str, K3.length ≤ 3 ∧ ∀ j ∈ ls, visR rs (o : Nat) call st (natZ ord) j = true → keyR rs j ∈ K3 := by
  refine ⟨tyList.map (call ++ ·), by rw [List.length_map]; decide, fun j hj hv => ?_⟩
  obtain ⟨h1, h2⟩ := List.mem_filter.mp ((vis_mem H j).mp (List.mem_filter.mpr ⟨hj, hv⟩))
  unfold visP at h2
  simp only [Bool.and_eq_true] at h2
  obtain ⟨s1, _, s3, _⟩ := h2
  obtain ⟨ty, e1, e2⟩ := (rowOk_at H (H.lsb j hj)).key
  have : keyR rs j = (rowJ rs j).call ++ ty := e1
  rw [this, eq_of_beq s3]
  exact List.mem_map_of_mem (e2 s1)
end
/-- the loops behind the building -/
inductive LJ (base : Led) (C3 : Addr) (fx : FX) (Oa a0 : Addr) (m : Map) (led : Led) : Prop
  | mk (hb : ∀ p ∈ base, p ∈ led) (hc : ∃ x v, (C3, x) ∈ led ∧ x.data = .cell v) (hn : MN fx m) (ho : m (Str.ofString "order") = some (.ref Oa)) (ha : m (Str.ofString "asked") = some (.ref a0)) : LJ base C3 fx Oa a0 m led
noncomputable def kept : List Str := [(Str.ofString "well"), (Str.ofString "rows"), (Str.ofString "listed"), (Str.ofString "lone"), (Str.ofString "order"), (Str.ofString "asked")]
section
variable {base led led' : Led} {C3 I Oa a0 : Addr} {fx : FX} {m : Map} {x : Str} {v : Value} {oI : Obj}
theorem LJ.upd (h : LJ base C3 fx Oa a0 m led) (hx : kept.contains x = false) : LJ base C3 fx Oa a0 (upd m x v) led := by
  obtain ⟨hb, hc, hn, ho, ha⟩ := h
  have ne : ∀ y ∈ kept, y ≠ x := fun y hy e => by subst e; rw [List.contains_iff_mem.mpr hy] at hx; cases hx
  refine ⟨hb, hc, hn.upd ?_, upd_ne ho (ne _ (.tail _ (.tail _ (.tail _ (.tail _ (.head _)))))), upd_ne ha (ne _ (.tail _ (.tail _ (.tail _ (.tail _ (.tail _ (.head _)))))))⟩
  rw [Bool.eq_false_iff, ne_eq, List.contains_iff_mem] at hx ⊢
  exact fun h => hx (List.mem_append_left [(Str.ofString "order"), (Str.ofString "asked")] h)
theorem LJ.sub (h : LJ base C3 fx Oa a0 m led) (hs : ∀ p ∈ led, p ∈ led') : LJ base C3 fx Oa a0 m led' :=
  let ⟨hb, ⟨x, v, h1, h2⟩, hn, ho, ha⟩ := h; ⟨fun p hp => hs p (hb p hp), ⟨x, v, hs _ h1, h2⟩, hn, ho, ha⟩
theorem LJ.push (h : LJ base C3 fx Oa a0 m led) (hx : kept.contains x = false) : LJ ((I, oI) :: base) C3 fx Oa a0 (Mine.upd m x v) ((I, oI) :: led) := by
  obtain ⟨hb, ⟨x, v, h1, h2⟩, hn, ho, ha⟩ := h.upd (v := v) hx
  refine ⟨fun p hp => ?_, ⟨x, v, .tail _ h1, h2⟩, hn, ho, ha⟩
  rcases List.mem_cons.mp hp with rfl | hp
  · exact .head _
  · exact .tail _ (hb p hp)
theorem LJ.pop (h : LJ ((I, oI) :: base) C3 fx Oa a0 m led) (hb0 : ∀ p ∈ base, p.1 ≠ I) (hC : C3 ≠ I) : ∃ led2, (∀ p ∈ (I, oI) :: led2, p ∈ led) ∧ Apart led2 [I] ∧ LJ base C3 fx Oa a0 m led2 := by
  obtain ⟨hb, ⟨x, v, h1, h2⟩, hn, ho, ha⟩ := h
  have kp : ∀ p ∈ led, p.1 ≠ I → p ∈ led.filter fun p => p.1 != I := fun p hp hn => List.mem_filter.mpr ⟨hp, by simpa using hn⟩
  exact ⟨_, (turn_cut (hb _ (.head _))).1, (turn_cut (hb _ (.head _))).2, fun p hp => kp p (hb p (.tail _ hp)) (hb0 p hp), ⟨x, v, kp _ h1 hC, h2⟩, hn, ho, ha⟩
end
noncomputable def bodyB1 : List Stmt := sFor (lawB.getD 6 (.Pass default))
noncomputable def bodyB2 : List Stmt := sFor (bodyB1.getD 0 (.Pass default))
theorem keep28 (P : Params) : keepIn (KH P) (.ref 28) = true := by kernel_rfl
theorem glob28 (P : Params) : nsIn (KH P) mainGlobals (Str.ofString "functions_in") = some (some (.ref 28)) := by kernel_rfl
theorem keep184 (P : Params) : keepIn (KH P) (.ref 184) = true := by kernel_rfl
theorem glob184 (P : Params) : nsIn (KH P) mainGlobals (Str.ofString "_law_visible") = some (some (.ref 184)) := by kernel_rfl
section
variable {w : World} {C : Addr} {fx : FX} {Oa a0 : Addr} {bs das : List Addr} {rs : List Row} {ls lo ord : List Nat} {per per' : Led}
theorem GS.mono (h : GS w C fx Oa a0 bs das rs ls lo ord per) (hs : ∀ p ∈ per, p ∈ per') : GS w C fx Oa a0 bs das rs ls lo ord per' := by
  obtain ⟨⟨r, ⟨v1, n1, l1, l2⟩, ⟨v2, n2, o1, o2⟩, lb, lz, oz⟩, li, ⟨n3, d⟩, ⟨n4, b⟩, ⟨v5, n5, z1, z2⟩, de, ins, ⟨x6, c1, c2⟩, ⟨x7, c3, c4⟩⟩ := h
  exact ⟨⟨r.mono hs, ⟨v1, n1, hs _ l1, l2⟩, ⟨v2, n2, hs _ o1, o2⟩, lb, lz, oz⟩, li.mono hs, ⟨n3, hs _ d⟩, ⟨n4, hs _ b⟩, ⟨v5, n5, hs _ z1, z2⟩, fun j r hr => let ⟨d, h1, h2, h3⟩ := de j r hr; ⟨d, h1, h2.mono hs, h3.mono hs⟩, fun b hb => (ins b hb).mono hs, ⟨x6, hs _ c1, c2⟩, ⟨x7, hs _ c3, c4⟩⟩
theorem GS.dAt (h : GS w C fx Oa a0 bs das rs ls lo ord per) (H : PD bs das rs ls lo ord) {j : Nat} (hj : j < rs.length) : das[j]? = some (das.getD j 0) ∧ DeclAt per (das.getD j 0) (rowJ rs j) ∧ AttrD per (das.getD j 0) (Str.ofString "owner") (ownD (if j ∈ lo then none else bs[(rowJ rs j).spot]?)) := by
  obtain ⟨d, h1, h2, h3⟩ := h.decls j _ (List.getElem?_eq_getElem hj)
  have e : das.getD j 0 = d := by rw [List.getD_eq_getElem?_getD, h1]; rfl
  have e2 : rowJ rs j = rs[j] := by unfold rowJ; rw [List.getElem?_eq_getElem hj]; rfl
  rw [e, e2]
  exact ⟨h1, h2, h3⟩
theorem GS.dInst (h : GS w C fx Oa a0 bs das rs ls lo ord per) (H : PD bs das rs ls lo ord) : ∀ a ∈ das, IsInst per a := fun a ha => by
  obtain ⟨j, hj⟩ := List.getElem?_of_mem ha
  have hjl := (List.getElem?_eq_some_iff.mp hj).1
  obtain ⟨h1, h2, _⟩ := h.dAt H (H.dlen ▸ hjl)
  rw [hj] at h1
  rw [Option.some.inj h1]
  obtain ⟨t, ht⟩ := h2.kind
  exact ht.inst
theorem GS.fn (h : GS w C fx Oa a0 bs das rs ls lo ord per) (H : PD bs das rs ls lo ord) {o : Nat} (ha : bs[o]? = some a0) {call : Str} {tc ts : Tok} {st : Nat} :
    Fn w 28 [.ref a0, .str call tc, .int (st : Nat) ts] per 3 (fun led' v => ∃ r n, v = .ref r ∧ led' = (r, refL ((firsts rs (visP rs call st o) (seqJ rs ls ord st)).map fun j => das.getD j 0) n) :: per ∧ ∀ p ∈ per, p.1 < r) := by
  intro c m hw O
  refine Tr.mono (functions_fn w (nm := call) (tn := tc) (st := (st : Nat)) (ts := ts) h.lin (Int.natCast_nonneg _) (fun b hb => ?_) c m hw O) ?_
  · obtain ⟨i, hi, rfl⟩ := List.mem_map.mp hb
    have hib := H.ord.lt i hi
    rw [memP_at H.bnd hib, List.length_map]
    exact Nat.le_trans (H.few i hib) (by decide)
  · rintro v m' led' ⟨e, r, n, e1, e2, e3⟩
    rw [Int.toNat_natCast, functions_eq H ha, List.map_map] at e2
    exact ⟨e, r, n, e1, e2, e3⟩
end
set_option maxHeartbeats 1000000 in
theorem b2_walk {c : Cx} {fa : Addr} {cdv : Value} {fx : FX} {Oa a0 : Addr} {bs das : List Addr} {rs : List Row} {ls lo ord : List Nat} {o : Nat} {per base led : Led} {m : Map} {call : Str} {tc ts : Tok} {st : Nat} (O : c.Ok 6) (he : c.env = envOfC (Str.ofString "law") (fScope (topAt 28)) c.L fa cdv)
    (H : PD bs das rs ls lo ord) (ho : ord[0]? = some o) (ha0 : bs[o]? = some a0) (G : GS c.w c.L fx Oa a0 bs das rs ls lo ord per) (hpb : ∀ p ∈ per, p ∈ base) (J : LJ base (c.L + 1 + 1 + 1) fx Oa a0 m led) (hc : m (Str.ofString "call") = some (.str call tc)) (hs : m (Str.ofString "start") = some (.int (st : Nat) ts)) :
    TrS c m led bodyB2 (fun f m' led' => f = .next ∧ LJ base (c.L + 1 + 1 + 1) fx Oa a0 m' led' ∧ m' (Str.ofString "call") = some (.str call tc)) := by
  obtain ⟨hb, hcell, hn, hO, hA⟩ := J
  have J : LJ base (c.L + 1 + 1 + 1) fx Oa a0 m led := ⟨hb, hcell, hn, hO, hA⟩
  have hp : ∀ p ∈ per, p ∈ led := fun p hp => hb p (hpb p hp)
  have G1 := G.mono hp
  have kA : c.env.kindOf (Str.ofString "asked") = some .local := by rw [he]; rfl
  have kC : c.env.kindOf (Str.ofString "call") = some .local := by rw [he]; rfl
  have kS : c.env.kindOf (Str.ofString "start") = some .local := by rw [he]; rfl
  have kX : c.env.kindOf (Str.ofString "shown") = some .local := by rw [he]; rfl
  have kR : c.env.kindOf (Str.ofString "rows") = some .local := by rw [he]; rfl
  have kL : c.env.kindOf (Str.ofString "listed") = some .local := by rw [he]; rfl
  have kO : c.env.kindOf (Str.ofString "order") = some .local := by rw [he]; rfl
  have g1 : c.env.kindOf (Str.ofString "functions_in") = some .globalImplicit := by rw [he]; rfl
  have g2 : c.env.kindOf (Str.ofString "_law_visible") = some .globalImplicit := by rw [he]; rfl
  obtain ⟨nD, hDl⟩ := G1.dl
  obtain ⟨xd, hxd, hxd2⟩ := G1.cd
  have hda := G1.dInst H
  have hdl : das.length ≤ 12 := by rw [H.dlen]; exact H.rl
  have hfl : (firsts rs (visP rs call st o) (seqJ rs ls ord st)).length ≤ 1000 ∧ ∀ j ∈ firsts rs (visP rs call st o) (seqJ rs ls ord st), j < rs.length := by
    have hv := firsts_vis (rs := rs) H (call := call) (st := st) (o := o)
    have hm : ∀ j ∈ firsts rs (visP rs call st o) (seqJ rs ls ord st), j < rs.length := fun j hj => seq_lt H (List.mem_filter.mp (hv.mem j hj).1).1
    refine ⟨?_, hm⟩
    have nd : (firsts rs (visP rs call st o) (seqJ rs ls ord st)).Nodup := (List.pairwise_map.mp hv.keys).imp fun hne e => hne (by rw [e])
    have := nodup_len _ (List.range rs.length) nd fun k hk => List.mem_range.mpr (hm k hk)
    rw [List.length_range] at this
    have := H.rl
    omega
  -- shown = [decls.index(decl) for decl in functions_in(asked, call, start)]
  refine St.comp false (k := 6) (cl := [((Str.ofString "decls"), c.L + 1 + 1)]) (P := fun D nD outs ledJ => IntsAre outs (natZ (firsts rs (visP rs call st o) (seqJ rs ls ord st))) ∧ ∀ p ∈ led, p ∈ ledJ)
    O (by rw [he]; rfl) (by rw [he]; rfl) ⟨fun _ _ => rfl, fun _ => rfl⟩ rfl (by decide +kernel) (fun C => by rw [he]; rfl) kX
    (Tr.mono (Tr.call (k := 3) (O.less (by decide)) (glob_ O g1 (glob28 _)) (keep28 _) (.cons (.loc (d := .ref a0) O kA hA rfl) (.cons (.loc (d := .str call) O kC hc ⟨tc, rfl⟩) (.cons (.loc (d := .int (st : Nat)) O kS hs ⟨ts, rfl⟩) .nil)))
      (post := fun led' v => ∃ r n, v = .ref r ∧ led' = (r, refL ((firsts rs (visP rs call st o) (seqJ rs ls ord st)).map fun j => das.getD j 0) n) :: led ∧ ∀ p ∈ led, p.1 < r) fun vs q => ?fnc) ?iter) ?rest
  case fnc => cases q with | cons a1 q => cases q with | cons a2 q => cases q with | cons a3 q => cases q; cases a1; obtain ⟨t2, rfl⟩ := a2; obtain ⟨t3, rfl⟩ := a3; exact G1.fn H ha0
  case iter =>
    rintro v m' led' ⟨rfl, r, n, rfl, rfl, hr⟩
    refine ⟨rfl, r, false, _, n, fun i outs led2 => IntsAre outs (natZ ((firsts rs (visP rs call st o) (seqJ rs ls ord st)).take i)) ∧ ∀ p ∈ (r, refL ((firsts rs (visP rs call st o) (seqJ rs ls ord st)).map fun j => das.getD j 0) n) :: led, p ∈ led2, rfl, by rw [refsOf_len, List.length_map]; exact hfl.1, ⟨.nil, fun p hp => hp⟩, fun _ _ _ h => h.2 _ (.head _), ?_, ?_⟩
    · rintro c' m2 i u outs ledJ D I oI oc nD2 hw' O' he' hu ⟨hi, hb1⟩ ha1 ho1 _
      rw [refsOf_get, List.getElem?_map] at hu
      obtain ⟨a, hai, rfl⟩ := Option.map_eq_some_iff.mp hu
      obtain ⟨j, hji, rfl⟩ := Option.map_eq_some_iff.mp hai
      have hjl := hfl.2 j (List.mem_of_getElem? hji)
      have hmem : das.getD j 0 ∈ das := List.mem_of_getElem? (G1.dAt H hjl).1
      generalize hl3 : (D, listOf outs.toArray nD2) :: (I, oI) :: ledJ = led3
      have s3 : ∀ p ∈ led, p ∈ led3 := fun p hp => hl3 ▸ .tail _ (.tail _ (hb1 p (.tail _ hp)))
      refine .plain hl3 true .nil nofun fun _ => Tr.mono (Ev.indexRefs O' (.cell (d := .ref fx.Dl) O' (by rw [he', he]; rfl) (by rw [he']; rfl) (s3 _ hxd) hxd2 rfl) (.loc (d := .ref (das.getD j 0)) O' (by rw [he', he]; rfl) upd_at rfl) (s3 _ hDl) (fun a ha => (hda a ha).mono s3) hmem (by omega)) ?_
      rintro r2 m4 led4 ⟨⟨t4, rfl⟩, _, rfl⟩
      refine ⟨ledJ, fun p hp => hl3 ▸ hp, ha1, ?_, hb1⟩
      rw [idxOf_das H hjl, List.take_add_one, hji]
      unfold natZ
      rw [List.map_append]
      exact hi.append (.cons _ _ .nil)
    · rintro D nD2 outs ledJ ⟨hi, hb1⟩ _ _
      rw [refsOf_len, List.length_map, List.take_length] at hi
      exact ⟨hi, fun p hp => hb1 p (.tail _ hp)⟩
  case rest =>
    rintro D nD2 outs ledJ ⟨hi, hb1⟩
    have hc2 := upd_ne (x := (Str.ofString "shown")) (v := .ref D) hc (by decide)
    have J2 := (J.sub (led' := (D, listOf outs.toArray nD2) :: ledJ) fun p hp => .tail _ (hb1 p hp)).upd (x := (Str.ofString "shown")) (v := .ref D) (by decide +kernel)
    have qs : upd m (Str.ofString "shown") (.ref D) (Str.ofString "shown") = some (.ref D) := upd_at
    have hs2 := upd_ne (x := (Str.ofString "shown")) (v := .ref D) hs (by decide)
    generalize upd m (Str.ofString "shown") (.ref D) = m2 at hc2 J2 qs hs2 ⊢
    have hD : (D, listOf outs.toArray nD2) ∈ (D, listOf outs.toArray nD2) :: ledJ := .head _
    have s2 : ∀ p ∈ led, p ∈ (D, listOf outs.toArray nD2) :: ledJ := fun p hp => .tail _ (hb1 p hp)
    generalize (D, listOf outs.toArray nD2) :: ledJ = led2 at J2 hD s2 ⊢
    have J3 := J2
    obtain ⟨_, _, hn2, hO2, hA2⟩ := J3
    have G2 := G1.mono s2
    refine St.if0 (b := false) (Tst.listsNe (b := true) (k := 1) (O.less (by decide)) (Tr.mono (Ev.loc (d := .ref D) O kX qs rfl) fun v1 m1 led1 ⟨e1, e2, e3⟩ => ⟨e2, D, outs, nD2, e1, ?vis⟩)) (fun hb => nomatch hb) fun _ => St.nil ⟨rfl, J2, hc2⟩
    subst e3
    refine Tr.mono (Tr.call (k := 5) (O.less (by decide)) (glob_ O g2 (glob184 _)) (keep184 _) (.cons (.loc (d := .ref fx.Rw) O kR hn2.rows rfl) (.cons (.loc (d := .ref fx.Ls) O kL hn2.listed rfl) (.cons (.loc (d := .ref Oa) O kO hO2 rfl) (.cons (.loc (d := .str call) O kC hc2 ⟨tc, rfl⟩) (.cons (.loc (d := .int (st : Nat)) O kS hs2 ⟨ts, rfl⟩) .nil)))))
      (post := fun led' v => ∃ ns, Nums ns led1 led' v ∧ VisOk rs (natZ ord) (ls.filter (visR rs (o : Nat) call st (natZ ord))) ns) fun vs q => ?vfn) ?_
    case vfn =>
      cases q with | cons a1 q => cases q with | cons a2 q => cases q with | cons a3 q => cases q with | cons a4 q => cases q with | cons a5 q => cases q; cases a1; cases a2; cases a3; obtain ⟨t4, rfl⟩ := a4; obtain ⟨t5, rfl⟩ := a5; exact visible_fn c.w G2.law (by rw [List.getElem?_map, ho]; rfl) (by have := G2.law.lz; have hl := nodup_len ls (List.range rs.length) (H.lss.imp fun h => Nat.ne_of_lt h) (fun k hk => List.mem_range.mpr (H.lsb k hk)); rw [List.length_range] at hl; have := H.rl; omega) (three_keys H)
    rintro v m' led' ⟨e4, ns, ⟨D2, vs2, n2, rfl, rfl, hi2⟩, hv⟩
    refine ⟨e4, fun p hp => .tail _ hp, .tail _ hD, D2, vs2, n2, rfl, .head _, ?_⟩
    have := SameL.ints (c := c) (led := (D2, listOf vs2.toArray n2) :: led1) hi hi2
    rw [functions_law H hv, decide_eq_true rfl] at this
    exact this
theorem LJ.less {base base' led : Led} {C3 Oa a0 : Addr} {fx : FX} {m : Map} (h : LJ base C3 fx Oa a0 m led) (hs : ∀ p ∈ base', p ∈ base) : LJ base' C3 fx Oa a0 m led := let ⟨hb, h1, h2, h3, h4⟩ := h; ⟨fun p hp => hb p (hs p hp), h1, h2, h3, h4⟩
theorem LJ.more {base led : Led} {C3 Oa a0 : Addr} {fx : FX} {m : Map} {p : Addr × Obj} (h : LJ base C3 fx Oa a0 m led) : LJ (p :: base) C3 fx Oa a0 m (p :: led) := by
  obtain ⟨hb, ⟨x, v, h1, h2⟩, h3, h4, h5⟩ := h
  refine ⟨fun q hq => ?_, ⟨x, v, .tail _ h1, h2⟩, h3, h4, h5⟩
  rcases List.mem_cons.mp hq with rfl | hq
  · exact .head _
  · exact .tail _ (hb q hq)
theorem LJ.apart {base led : Led} {C3 I Oa a0 : Addr} {fx : FX} {m : Map} (h : LJ base C3 fx Oa a0 m led) (ha : Apart led [I]) : (∀ p ∈ base, p.1 ≠ I) ∧ C3 ≠ I := by
  obtain ⟨hb, ⟨x, v, h1, h2⟩, _⟩ := h
  exact ⟨fun p hp => ha p (hb p hp) I (.head _), ha _ h1 I (.head _)⟩
theorem b_walk {c : Cx} {fa : Addr} {cdv : Value} {fx : FX} {Oa a0 : Addr} {bs das : List Addr} {rs : List Row} {ls lo ord : List Nat} {o : Nat} {per led : Led} {m : Map} {P : Flow → Map → Led → Prop} (O : c.Ok 6) (he : c.env = envOfC (Str.ofString "law") (fScope (topAt 28)) c.L fa cdv)
    (H : PD bs das rs ls lo ord) (ho : ord[0]? = some o) (ha0 : bs[o]? = some a0) (G : GS c.w c.L fx Oa a0 bs das rs ls lo ord per) (J : LJ per (c.L + 1 + 1 + 1) fx Oa a0 m led) (h : ∀ m' led', LJ per (c.L + 1 + 1 + 1) fx Oa a0 m' led' → TrS c m' led' (lawB.drop 7) P) : TrS c m led (lawB.drop 6) P := by
  have kC : c.env.kindOf (Str.ofString "call") = some .local := by rw [he]; rfl
  have kS : c.env.kindOf (Str.ofString "start") = some .local := by rw [he]; rfl
  have kO : c.env.kindOf (Str.ofString "order") = some .local := by rw [he]; rfl
  have g1 : c.env.kindOf (Str.ofString "range") = some .globalImplicit := by rw [he]; rfl
  have g2 : c.env.kindOf (Str.ofString "len") = some .globalImplicit := by rw [he]; rfl
  have hol : ord.length ≤ 4 := Nat.le_trans (nodup_len ord (List.range bs.length) H.ord.nodup fun k hk => List.mem_range.mpr (H.ord.lt k hk)) (by rw [List.length_range]; exact H.bl.2)
  refine St.for_ O kC (Tr.tuple (Its.ev .str_ fun v1 hv1 => Its.ev .str_ fun v2 hv2 => Its.ev .str_ fun v3 hv3 => Its.nil ⟨show 3 ≤ 1000 by decide, fun l hl => ⟨l, true, [v1, v2, v3], 0, fun _ => LJ ((l, tupOf [v1, v2, v3]) :: per) (c.L + 1 + 1 + 1) fx Oa a0, rfl, J.more, fun _ _ _ hJ => ?mem, ?turn, ?done⟩⟩))
  case mem => obtain ⟨hb, _⟩ := hJ; exact hb _ (.head _)
  case done => exact fun m' led' hJ => h m' led' (hJ.less fun p hp => .tail _ hp)
  case turn =>
    intro i u m1 led1 I oI hu hJ ha
    obtain ⟨call, tc, rfl⟩ : ∃ call tc, u = .str call tc := by
      obtain ⟨t1, rfl⟩ := hv1
      obtain ⟨t2, rfl⟩ := hv2
      obtain ⟨t3, rfl⟩ := hv3
      match i, hu with
      | 0, hu => exact ⟨_, _, (Option.some.inj hu).symm⟩
      | 1, hu => exact ⟨_, _, (Option.some.inj hu).symm⟩
      | 2, hu => exact ⟨_, _, (Option.some.inj hu).symm⟩
    have J1 := hJ.push (I := I) (oI := oI) (x := (Str.ofString "call")) (v := .str call tc) (by decide +kernel)
    have hap := hJ.apart ha
    have qc : upd m1 (Str.ofString "call") (.str call tc) (Str.ofString "call") = some (.str call tc) := upd_at
    generalize upd m1 (Str.ofString "call") (.str call tc) = m2 at J1 qc ⊢
    generalize (I, oI) :: led1 = led2 at J1 ⊢
    have J1' := J1
    obtain ⟨hb, _, _, hO, _⟩ := J1'
    have G1 := G.mono fun p hp => hb p (.tail _ (.tail _ hp))
    obtain ⟨vs, n, hOl, hOi⟩ := G1.law.order
    have hvl : vs.length = ord.length := by rw [hOi.length, List.length_map]
    refine St.forRange O kS (Tr.range O g1 (Tr.mono (Ev.add (.len O g2 (.loc (d := .ref Oa) O kO hO rfl) hOl (by omega)) .int_) ?_))
    rintro v m' led' ⟨⟨tv, rfl⟩, rfl, rfl⟩
    refine ⟨vs.length + 1, ⟨tv, rfl⟩, fun r tr ur wr hr => ⟨r, vs.length + 1, tr, ur, wr, fun _ m led => LJ ((r, rangeO (vs.length + 1) tr ur wr) :: (I, oI) :: (l, tupOf [v1, v2, v3]) :: per) (c.L + 1 + 1 + 1) fx Oa a0 m led ∧ m (Str.ofString "call") = some (.str call tc), rfl, .head _, by omega, ⟨J1.more, qc⟩, ?turn2, ?done2⟩⟩
    case turn2 =>
      rintro st ts m3 led3 I2 oI2 hst ⟨hJ2, qc2⟩ ha2
      refine Tr.mono (b2_walk O he H ho ha0 G (fun p hp => .tail _ (.tail _ (.tail _ (.tail _ hp)))) (hJ2.push (by decide +kernel)) (upd_ne qc2 (by decide)) upd_at) ?_
      rintro f m4 led4 ⟨rfl, hJ4, qc4⟩
      obtain ⟨led5, q1, q2, q3⟩ := hJ4.pop (hJ2.apart ha2).1 (hJ2.apart ha2).2
      exact ⟨led5, q1, q2, q3, qc4⟩
    case done2 =>
      rintro m3 led3 ⟨hJ3, _⟩
      exact St.nil ((hJ3.less fun p hp => .tail _ hp).pop hap.1 hap.2)
/-- the end of a turn with two own objects -/
noncomputable def TurnE (c : Cx) (rest : List Stmt) (P : Flow → Map → Led → Prop) (I1 I2 : Addr) (o1 o2 : Obj) (J : Map → Led → Prop) : Flow → Map → Led → Prop
  | .ret v, m, led => P (.ret v) m led
  | .brk, m, led => TrS c m led rest P
  | _, m, led => ∃ led', (∀ p ∈ (I1, o1) :: (I2, o2) :: led', p ∈ led) ∧ Apart led' [I1, I2] ∧ J m led'
inductive ForEL (c : Cx) (elts : List Expr) (body rest : List Stmt) (P : Flow → Map → Led → Prop) (v : Value) (m : Map) (led : Led) : Prop
  | mk (l : Addr) (vs : List Value) (n : Nat) (J : Nat → Map → Led → Prop) (e : v = .ref l) (h0 : J 0 m led) (hJ : ∀ i m led, J i m led → (l, listOf vs.toArray n) ∈ led)
    (turn : ∀ i u t m' led' I1 I2 o1 o2, vs[i]? = some u → J i m' led' → Apart led' [I1, I2] → Asg c m' ((I1, o1) :: (I2, o2) :: led') elts [.int (i : Nat) t, u] fun m2 led2 => TrS c m2 led2 body (TurnE c rest P I1 I2 o1 o2 (J (i + 1))))
    (done : ∀ m' led', J vs.length m' led' → TrS c m' led' rest P) : ForEL c elts body rest P v m led
section
open PySem
variable {c : Cx} {m : Map} {led : Led} {e : Expr} {elts : List Expr} {pos pt p1 p2 : Pos} {k n : Nat} {P : Flow → Map → Led → Prop} {rest body : List Stmt}
theorem nsEnum (P : Params) : nsIn (KH P) mainGlobals (Str.ofString "enumerate") = some none := by kernel_rfl
theorem St.forEnum (O : c.Ok k) (hk : c.env.kindOf (Str.ofString "enumerate") = some .globalImplicit) (hn : (assignEach elts c.env).length = 2) (hstar : (assignEach elts c.env).findIdx? (·.1) = none) (h : Tr c m led (eval e c.env) (ForEL c elts body rest P))
    (hs : eval ((Expr.Name (Str.ofString "enumerate") p1).Call [e] [] p2) c.env = (do let f ← eval (.Name (Str.ofString "enumerate") p1) c.env; callWith p2 f [] (backTo p2 (starEach [e] c.env)) (backToKw p2 (keywordEach [] c.env))) := by rfl)
    (he : backTo p2 (starEach [e] c.env) = [(false, eval e c.env)] := by rfl) (hf : ∀ v, foldedSetIterable (.Call (.Name (Str.ofString "enumerate") p1) [e] [] p2) c.env v = (Pure.pure v : Sem Value) := by intro _; rfl) :
    TrS c m led (.For (.Tuple elts n pt) (.Call (.Name (Str.ofString "enumerate") p1) [e] [] p2) body [] pos :: rest) P := by
  refine St.one fun s F N => wpAny_For ?_ hf
  obtain ⟨p, loose, mean, mg, mb, T⟩ := O.T
  refine Call_ (Name_function_global O.kind hk (loadGlobal_builtin (by rw [O.glob]; exact (topRead_of T).g.keeps F.keep) (mg_none_of O.X (topRead_of T).g (nsEnum _)) (by rw [O.blt]; exact (topRead_of T).b.keeps F.keep) (((topRead_of T).builtins (Str.ofString "enumerate") (by decide)).trans boot_enumerate) ?_) (by decide)) hs
  rw [he]
  refine PySem.callWith_type rfl (Calls.evalArgs_plain (Calls.spliced_cons (h.use F N fun v m1 led1 h1 tk1 hv F1 N1 => Calls.spliced_nil ?_)))
  obtain ⟨l, vs, nl, J, rfl, hj0, hJl, turn, done⟩ := hv
  have hls := (N1 _ (hJl _ _ _ hj0)).1
  have hL : h1.IsList l vs.toArray := ⟨_, hls, rfl, nl, rfl⟩
  have hlt : l < h1.objs.size := Heap.lt_size hls
  refine call_enumerate_list hL fun h2 hE hI hsz hk2 => wpAny_pyIter_enum hE ?_
  have F2 : Fr c.g c.L h2 m1 := ⟨F1.ns.keeps hk2, fun b o e => hk2 b o (F1.keep b o e), F1.above⟩
  have N2 : News c.g c.L h2 led1 := fun p hp => ⟨hk2 _ _ (N1 p hp).1, (N1 p hp).2⟩
  have hLs : c.L < h1.objs.size := F1.ns.lt
  have old : ∀ b o, c.g.get? b = some o → b < h1.objs.size := fun b o e => Heap.lt_size (F1.keep b o e)
  have led0 : ∀ p ∈ led1, p.1 < h1.objs.size := fun p hp => Heap.lt_size (N1 p hp).1
  have hL2 : h2.IsList l vs.toArray := hL.at fun o x => hk2 l o x
  show codeAny _ _ _ _ { s with heap := h2, toks := tk1 }
  generalize hit : h1.objs.size = it at *
  have W := WalksT.enumerate (prog := Challenge.rw_sa0304_01.row.prog) (w := c.w) (A := c.A) rfl (it + 1) it l (Nat.succ_ne_self _) (Nat.ne_of_lt (Nat.lt_succ_of_lt hlt)) (Nat.ne_of_lt hlt) vs.toArray
  have apart0 : Apart led1 [it + 1, it] := fun p hp a ha => by
    have := led0 p hp
    rcases List.mem_cons.mp ha with rfl | ha
    · exact Nat.ne_of_lt (Nat.lt_succ_of_lt this)
    · rw [List.mem_singleton.mp ha]; exact Nat.ne_of_lt this
  have wne : ∀ b, b < it → b ∉ [it + 1, it] := fun b hb hm => by
    rcases List.mem_cons.mp hm with rfl | hm
    · exact absurd hb (Nat.not_lt.mpr (Nat.le_succ _))
    · rw [List.mem_singleton.mp hm] at hb; exact Nat.lt_irrefl _ hb
  have gE : c.g.get? (it + 1) = none := not_above (Nat.le_trans F1.above (Nat.le_of_lt (Nat.lt_succ_of_lt hLs)))
  have gI : c.g.get? it = none := not_above (Nat.le_trans F1.above (Nat.le_of_lt hLs))
  have frame : ∀ {h h' : Heap} {m' : Map} {led' : Led}, (∀ b o, b ∉ [it + 1, it] → h.get? b = some o → h'.get? b = some o) → Apart led' [it + 1, it] → Fr c.g c.L h m' → News c.g c.L h led' → Fr c.g c.L h' m' ∧ News c.g c.L h' led' := fun hk' ha F N =>
    ⟨⟨F.ns.at' fun o e => hk' _ o (wne _ hLs) e, fun b o e => hk' b o (wne b (old b o e)) (F.keep b o e), F.above⟩, fun p hp => ⟨hk' _ _ (fun hm => ha p hp _ hm rfl) (N p hp).1, (N p hp).2⟩⟩
  refine codeAny_forLoop_any
    (fun k s' => ∃ h' tk m' led' i, s' = { s with heap := h', toks := tk } ∧ ((∃ old, IsEnum h' (it + 1) it (i : Nat) old) ∧ h'.IsListIter it l i ∧ h'.IsList l vs.toArray) ∧ Fr c.g c.L h' m' ∧ News c.g c.L h' led' ∧ Apart led' [it + 1, it] ∧ J i m' led' ∧ i ≤ vs.length ∧ k = vs.length + 1 - i) ?_ (vs.length + 1)
    ⟨h2, tk1, m1, led1, 0, rfl, ⟨⟨_, hE⟩, hI, hL2⟩, F2, N2, apart0, hj0, Nat.zero_le _, rfl⟩
  rintro k' s' ⟨h', tk, m', led', i, rfl, hst, F', N', ha', hJ', hi, rfl⟩
  by_cases hlt2 : i < vs.length
  · refine W.item i _ _ _ (by rw [List.size_toArray]; exact hlt2) hst fun T vals h₁ tk₁ hP hTs hT hm hk₁ => ?_
    obtain ⟨t, u, hu, rfl⟩ := hP
    obtain ⟨F₁, N₁⟩ := frame hk₁ ha' F' N'
    refine W.go elts n pt i T _ _ _ hm fun h₂ hst₂ hk₂ => ?_
    obtain ⟨F₂, N₂⟩ := frame hk₂ ha' F₁ N₁
    have hT2 : h₂.IsTuple T #[.int (i : Nat) t, u] := let ⟨o, a, b⟩ := hT; ⟨o, hk₂ _ _ (W.apart i T _ hm) a, b⟩
    obtain ⟨⟨⟨ol, hE2⟩, ⟨oi, hoi, hoi2⟩, _⟩⟩ := And.intro hst₂ trivial
    obtain ⟨oE, hE3, hE4⟩ : ∃ oE, h₂.get? (it + 1) = some oE ∧ ∀ h : Heap, h.get? (it + 1) = some oE → IsEnum h (it + 1) it ((i + 1 : Nat) : Int) ol := ⟨_, hE2, fun h x => x⟩
    refine wpAny_assign_Tuple rfl hT2 hn hstar fun h₃ hx₃ => ?_
    have up : ∀ b o, h₂.get? b = some o → h₃.get? b = some o := fun b o x => hx₃ b o (Nat.ne_of_lt (Heap.lt_size x)) x
    have F₃ : Fr c.g c.L h₃ m' := ⟨F₂.ns.at' fun o x => up _ o x, fun b o x => up b o (F₂.keep b o x), F₂.above⟩
    have N₃ : News c.g c.L h₃ ((it + 1, oE) :: (it, oi) :: led') := fun p hp => by
      rcases List.mem_cons.mp hp with rfl | hp
      · exact ⟨up _ _ hE3, Nat.ne_of_gt (Nat.lt_succ_of_lt hLs), gE⟩
      rcases List.mem_cons.mp hp with rfl | hp
      · exact ⟨up _ _ hoi, Nat.ne_of_gt hLs, gI⟩
      · exact ⟨up _ _ (N₂ p hp).1, (N₂ p hp).2⟩
    refine Tr.use (turn i u t m' led' (it + 1) it oE oi (by simpa using hu) hJ' ha') (s := { s with heap := h₃, toks := tk₁ }) F₃ N₃ fun _ m3 led3 h4 tk4 hp F4 N4 => ?_
    refine Tr.use hp (s := { s with heap := h4, toks := tk4 }) F4 N4 fun f m5 led5 h5 tk5 hq F5 N5 => ?_
    have nx : (∃ led2, (∀ p ∈ (it + 1, oE) :: (it, oi) :: led2, p ∈ led5) ∧ Apart led2 [it + 1, it] ∧ J (i + 1) m5 led2) → ∃ m, m < vs.length + 1 - i ∧ ∃ h' tk m' led' i', (⟨h5, s.gens, s.drawn, tk5, s.os⟩ : Shared) = { s with heap := h', toks := tk } ∧ ((∃ old, IsEnum h' (it + 1) it (i' : Nat) old) ∧ h'.IsListIter it l i' ∧ h'.IsList l vs.toArray) ∧ Fr c.g c.L h' m' ∧ News c.g c.L h' led' ∧ Apart led' [it + 1, it] ∧ J i' m' led' ∧ i' ≤ vs.length ∧ m = vs.length + 1 - i' := by
      rintro ⟨led2, q1, q2, q3⟩
      refine ⟨vs.length + 1 - (i + 1), by omega, h5, tk5, m5, led2, i + 1, rfl, ⟨⟨ol, ?_⟩, ⟨oi, (N5 _ (q1 _ (.tail _ (.head _)))).1, hoi2⟩, ⟨_, (N5 _ (q1 _ (.tail _ (.tail _ (hJl _ _ _ q3))))).1, rfl, nl, rfl⟩⟩, F5, fun p hp => N5 p (q1 p (.tail _ (.tail _ hp))), q2, q3, by omega, rfl⟩
      exact hE4 _ (N5 _ (q1 _ (.head _))).1
    cases f with
    | ret v => exact .mk hq F5 N5
    | brk => exact .mk (P := Then c rest P) (a := Flow.next) hq F5 N5
    | next => exact nx hq
    | cont => exact nx hq
  · have hin : i = vs.length := by omega
    subst hin
    refine W.done _ _ _ (by rw [List.size_toArray]; exact hst) fun h₁ tk₁ hk₁ => wpAny_execs_nil ?_
    obtain ⟨F₁, N₁⟩ := frame hk₁ ha' F' N'
    exact .mk (P := Then c rest P) (a := Flow.next) (done m' led' hJ') F₁ N₁
end
noncomputable def bodyC : List Stmt := sFor (lawB.getD 7 (.Pass default))
theorem keep35 (P : Params) : keepIn (KH P) (.ref 35) = true := by kernel_rfl
theorem glob35 (P : Params) : nsIn (KH P) mainGlobals (Str.ofString "virtual_in") = some (some (.ref 35)) := by kernel_rfl
theorem keep42 (P : Params) : keepIn (KH P) (.ref 42) = true := by kernel_rfl
theorem glob42 (P : Params) : nsIn (KH P) mainGlobals (Str.ofString "super_in") = some (some (.ref 42)) := by kernel_rfl
theorem keep194 (P : Params) : keepIn (KH P) (.ref 194) = true := by kernel_rfl
theorem glob194 (P : Params) : nsIn (KH P) mainGlobals (Str.ofString "_law_nearest") = some (some (.ref 194)) := by kernel_rfl
theorem keep199 (P : Params) : keepIn (KH P) (.ref 199) = true := by kernel_rfl
theorem glob199 (P : Params) : nsIn (KH P) mainGlobals (Str.ofString "_law_next") = some (some (.ref 199)) := by kernel_rfl
theorem keep206 (P : Params) : keepIn (KH P) (.ref 206) = true := by kernel_rfl
theorem glob206 (P : Params) : nsIn (KH P) mainGlobals (Str.ofString "_law_number") = some (some (.ref 206)) := by kernel_rfl
section
variable {c : Cx} {fx : FX} {Oa a0 : Addr} {bs das : List Addr} {rs : List Row} {ls lo ord : List Nat} {per led : Led} {m : Map} {e1 e2 e3 e4 e5 : Expr} {p1 p2 : Pos} {j : Nat}
theorem GS.short (H : PD bs das rs ls lo ord) : das.length ≤ 1000 := by rw [H.dlen]; have := H.rl; omega
theorem GS.mem (G : GS c.w c.L fx Oa a0 bs das rs ls lo ord led) (H : PD bs das rs ls lo ord) (hj : j < rs.length) : das.getD j 0 ∈ das := List.mem_of_getElem? (G.dAt H hj).1
theorem vir_ev (O : c.Ok 6) (g : c.env.kindOf (Str.ofString "virtual_in") = some .globalImplicit) (H : PD bs das rs ls lo ord) (G : GS c.w c.L fx Oa a0 bs das rs ls lo ord led) (hj : j < rs.length) (h1 : Ev c m led e1 (.ref a0)) (h2 : Ev c m led e2 (.ref (das.getD j 0)))
    (hs : eval ((Expr.Name (Str.ofString "virtual_in") p1).Call [e1, e2] [] p2) c.env = (do let f ← eval (.Name (Str.ofString "virtual_in") p1) c.env; callWith p2 f [] (backTo p2 (starEach [e1, e2] c.env)) (backToKw p2 (keywordEach [] c.env))) := by rfl)
    (he : starEach [e1, e2] c.env = (false, eval e1 c.env) :: starEach [e2] c.env := by rfl) (he2 : starEach [e2] c.env = (false, eval e2 c.env) :: starEach [] c.env := by rfl) (hp : (backTo p2 (starEach [e2] c.env)).any (·.1) = false := by rfl) :
    Ev c m led (.Call (.Name (Str.ofString "virtual_in") p1) [e1, e2] [] p2) (.ref (das.getD (virJ rs ls lo ord j) 0)) := by
  obtain ⟨_, hd, ho⟩ := G.dAt H hj
  refine Tr.mono (Tr.call (k := 3) (post := fun led' v => v = .ref (das.getD (virJ rs ls lo ord j) 0) ∧ led' = led) (O.less (by decide)) (glob_ O g (glob35 _)) (keep35 _) (.cons h1 (.cons h2 .nil he2) he) (fun vs q => ?_) hs he hp) fun v m' led' ⟨q1, q2, q3⟩ => ⟨q2, q1, q3⟩
  cases q with | cons a1 q => cases q with | cons a2 q =>
    cases q; cases a1; cases a2
    rw [← vir_eq H hj]
    refine virtual_fn c.w G.lin (fun b hb => ?_) hd ho
    split at hb
    · exact nomatch hb
    · exact G.insts b (List.mem_of_getElem? hb)
theorem opt_is {x : Option Nat} : (ownD (x.map fun i => das.getD i 0)).Is (optV (x.map (prJ das rs))) := by cases x <;> rfl
theorem sup_ev {k : Nat} (O : c.Ok 6) (g : c.env.kindOf (Str.ofString "super_in") = some .globalImplicit) (H : PD bs das rs ls lo ord) (G : GS c.w c.L fx Oa a0 bs das rs ls lo ord led) (hj : j < rs.length) (hk : k < bs.length) (h1 : Ev c m led e1 (.ref a0)) (h2 : Ev c m led e2 (.ref (bsAt bs k))) (h3 : Ev c m led e3 (.ref (das.getD j 0)))
    (hs : eval ((Expr.Name (Str.ofString "super_in") p1).Call [e1, e2, e3] [] p2) c.env = (do let f ← eval (.Name (Str.ofString "super_in") p1) c.env; callWith p2 f [] (backTo p2 (starEach [e1, e2, e3] c.env)) (backToKw p2 (keywordEach [] c.env))) := by rfl)
    (he : starEach [e1, e2, e3] c.env = (false, eval e1 c.env) :: starEach [e2, e3] c.env := by rfl) (he2 : starEach [e2, e3] c.env = (false, eval e2 c.env) :: starEach [e3] c.env := by rfl) (he3 : starEach [e3] c.env = (false, eval e3 c.env) :: starEach [] c.env := by rfl) (hp : (backTo p2 (starEach [e2, e3] c.env)).any (·.1) = false := by rfl) :
    Ev c m led (.Call (.Name (Str.ofString "super_in") p1) [e1, e2, e3] [] p2) (ownD ((supJ rs ls ord j k).map fun i => das.getD i 0)) := by
  obtain ⟨_, hd, _⟩ := G.dAt H hj
  refine Tr.mono (Tr.call (k := 3) (post := fun led' v => v = optV ((supJ rs ls ord j k).map (prJ das rs)) ∧ led' = led) (O.less (by decide)) (glob_ O g (glob42 _)) (keep42 _) (.cons h1 (.cons h2 (.cons h3 .nil he3) he2) he) (fun vs q => ?_) hs he hp) fun v m' led' ⟨q1, q2, q3⟩ => ⟨q2 ▸ opt_is, q1, q3⟩
  cases q with | cons a1 q => cases q with | cons a2 q => cases q with | cons a3 q =>
    cases q; cases a1; cases a2; cases a3
    rw [← sup_eq H j hk]
    exact super_fn c.w G.lin (G.insts _ (by have := List.getElem?_eq_getElem hk; rw [bsAt_eq this]; exact List.getElem_mem hk)) hd
theorem num_ev {x : Option Nat} (O : c.Ok 6) (g : c.env.kindOf (Str.ofString "_law_number") = some .globalImplicit) (H : PD bs das rs ls lo ord) (G : GS c.w c.L fx Oa a0 bs das rs ls lo ord led) (hx : ∀ i, x = some i → i < rs.length) (h1 : Ev c m led e1 (.ref fx.Dl)) (h2 : Ev c m led e2 (ownD (x.map fun i => das.getD i 0)))
    (hs : eval ((Expr.Name (Str.ofString "_law_number") p1).Call [e1, e2] [] p2) c.env = (do let f ← eval (.Name (Str.ofString "_law_number") p1) c.env; callWith p2 f [] (backTo p2 (starEach [e1, e2] c.env)) (backToKw p2 (keywordEach [] c.env))) := by rfl)
    (he : starEach [e1, e2] c.env = (false, eval e1 c.env) :: starEach [e2] c.env := by rfl) (he2 : starEach [e2] c.env = (false, eval e2 c.env) :: starEach [] c.env := by rfl) (hp : (backTo p2 (starEach [e2] c.env)).any (·.1) = false := by rfl) :
    Ev c m led (.Call (.Name (Str.ofString "_law_number") p1) [e1, e2] [] p2) (.int (numJ x)) := by
  obtain ⟨n, hDl⟩ := G.dl
  refine Tr.mono (Tr.call (k := 2) (post := fun led' v => (Dm.int (numJ x)).Is v ∧ led' = led) (O.less (by decide)) (glob_ O g (glob206 _)) (keep206 _) (.cons h1 (.cons h2 .nil he2) he) (fun vs q => ?_) hs he hp) fun v m' led' ⟨q1, q2, q3⟩ => ⟨q2, q1, q3⟩
  cases q with | cons a1 q => cases q with | cons a2 q =>
    cases q; cases a1
    rw [← numO_map H hx]
    refine number_fn c.w hDl (G.dInst H) a2 (fun b hb => ?_) (GS.short H)
    obtain ⟨i, hi, rfl⟩ := Option.map_eq_some_iff.mp hb
    exact G.mem H (hx i hi)
theorem next_ev {k : Nat} (O : c.Ok 6) (g : c.env.kindOf (Str.ofString "_law_next") = some .globalImplicit) (H : PD bs das rs ls lo ord) (G : GS c.w c.L fx Oa a0 bs das rs ls lo ord led) (hj : j < rs.length) (h1 : Ev c m led e1 (.ref fx.Rw)) (h2 : Ev c m led e2 (.ref fx.Ls)) (h3 : Ev c m led e3 (.ref Oa)) (h4 : Ev c m led e4 (.int (k : Nat))) (h5 : Ev c m led e5 (.int (j : Nat)))
    (hs : eval ((Expr.Name (Str.ofString "_law_next") p1).Call [e1, e2, e3, e4, e5] [] p2) c.env = (do let f ← eval (.Name (Str.ofString "_law_next") p1) c.env; callWith p2 f [] (backTo p2 (starEach [e1, e2, e3, e4, e5] c.env)) (backToKw p2 (keywordEach [] c.env))) := by rfl)
    (he : starEach [e1, e2, e3, e4, e5] c.env = (false, eval e1 c.env) :: starEach [e2, e3, e4, e5] c.env := by rfl) (he2 : starEach [e2, e3, e4, e5] c.env = (false, eval e2 c.env) :: starEach [e3, e4, e5] c.env := by rfl) (he3 : starEach [e3, e4, e5] c.env = (false, eval e3 c.env) :: starEach [e4, e5] c.env := by rfl) (he4 : starEach [e4, e5] c.env = (false, eval e4 c.env) :: starEach [e5] c.env := by rfl) (he5 : starEach [e5] c.env = (false, eval e5 c.env) :: starEach [] c.env := by rfl) (hp : (backTo p2 (starEach [e2, e3, e4, e5] c.env)).any (·.1) = false := by rfl) :
    Ev c m led (.Call (.Name (Str.ofString "_law_next") p1) [e1, e2, e3, e4, e5] [] p2) (.int (numJ (supJ rs ls ord j k))) := by
  refine Tr.mono (Tr.call (k := 4) (post := fun led' v => led' = led ∧ ∃ z, (Dm.int z).Is v ∧ Least rs (natZ ord) (nextL rs ls (natZ ord) (k : Nat) j) z) (O.less (by decide)) (glob_ O g (glob199 _)) (keep199 _) (.cons h1 (.cons h2 (.cons h3 (.cons h4 (.cons h5 .nil he5) he4) he3) he2) he) (fun vs q => ?_) hs he hp) ?_
  · cases q with | cons a1 q => cases q with | cons a2 q => cases q with | cons a3 q => cases q with | cons a4 q => cases q with | cons a5 q =>
      cases q; cases a1; cases a2; cases a3; obtain ⟨t4, rfl⟩ := a4; obtain ⟨t5, rfl⟩ := a5
      exact next_fn c.w G.law hj
  · rintro v m' led' ⟨q1, q2, z, q3, q4⟩
    exact ⟨sup_law H q4 ▸ q3, q1, q2⟩
theorem near_ev {b : Bool} (O : c.Ok 6) (g : c.env.kindOf (Str.ofString "_law_nearest") = some .globalImplicit) (H : PD bs das rs ls lo ord) (G : GS c.w c.L fx Oa a0 bs das rs ls lo ord led) (hj : j < rs.length) (hb : b = decide (j ∈ lo)) (h1 : Ev c m led e1 (.ref fx.Rw)) (h2 : Ev c m led e2 (.ref fx.Ls)) (h3 : Ev c m led e3 (.ref Oa)) (h4 : Ev c m led e4 (.int (j : Nat))) (h5 : Ev c m led e5 (.bool b))
    (hs : eval ((Expr.Name (Str.ofString "_law_nearest") p1).Call [e1, e2, e3, e4, e5] [] p2) c.env = (do let f ← eval (.Name (Str.ofString "_law_nearest") p1) c.env; callWith p2 f [] (backTo p2 (starEach [e1, e2, e3, e4, e5] c.env)) (backToKw p2 (keywordEach [] c.env))) := by rfl)
    (he : starEach [e1, e2, e3, e4, e5] c.env = (false, eval e1 c.env) :: starEach [e2, e3, e4, e5] c.env := by rfl) (he2 : starEach [e2, e3, e4, e5] c.env = (false, eval e2 c.env) :: starEach [e3, e4, e5] c.env := by rfl) (he3 : starEach [e3, e4, e5] c.env = (false, eval e3 c.env) :: starEach [e4, e5] c.env := by rfl) (he4 : starEach [e4, e5] c.env = (false, eval e4 c.env) :: starEach [e5] c.env := by rfl) (he5 : starEach [e5] c.env = (false, eval e5 c.env) :: starEach [] c.env := by rfl) (hp : (backTo p2 (starEach [e2, e3, e4, e5] c.env)).any (·.1) = false := by rfl) :
    Ev c m led (.Call (.Name (Str.ofString "_law_nearest") p1) [e1, e2, e3, e4, e5] [] p2) (.int (virJ rs ls lo ord j : Nat)) := by
  refine Tr.mono (Tr.call (k := 4) (post := fun led' v => led' = led ∧ ∃ z, (Dm.int z).Is v ∧ NearZ rs ls (natZ ord) j b z) (O.less (by decide)) (glob_ O g (glob194 _)) (keep194 _) (.cons h1 (.cons h2 (.cons h3 (.cons h4 (.cons h5 .nil he5) he4) he3) he2) he) (fun vs q => ?_) hs he hp) ?_
  · cases q with | cons a1 q => cases q with | cons a2 q => cases q with | cons a3 q => cases q with | cons a4 q => cases q with | cons a5 q =>
      cases q; cases a1; cases a2; cases a3; obtain ⟨t4, rfl⟩ := a4; cases a5
      exact nearest_fn c.w G.law hj
  · rintro v m' led' ⟨q1, q2, z, q3, q4⟩
    rw [hb] at q4
    exact ⟨vir_law H q4 ▸ q3, q1, q2⟩
end
noncomputable def bodyC3 : List Stmt := sFor (bodyC.getD 2 (.Pass default))
section
variable {c : Cx} {fa : Addr} {cdv : Value} {fx : FX} {Oa a0 : Addr} {bs das : List Addr} {rs : List Row} {ls lo ord : List Nat} {per base led : Led} {m : Map} {j : Nat} {t : Tok} {xc : Obj}
set_option maxHeartbeats 1000000 in
theorem c3_walk {k : Nat} {tk : Tok} (O : c.Ok 6) (he : c.env = envOfC (Str.ofString "law") (fScope (topAt 28)) c.L fa cdv) (H : PD bs das rs ls lo ord) (G : GS c.w c.L fx Oa a0 bs das rs ls lo ord per) (hpb : ∀ p ∈ per, p ∈ base) (J : LJ base (c.L + 1 + 1 + 1) fx Oa a0 m led) (hxc : (c.L + 1 + 1 + 1, xc) ∈ base)
    (hxd : xc.data = .cell (some (.ref (das.getD j 0)))) (hj : j < rs.length) (hnum : m (Str.ofString "number") = some (.int (j : Nat) t)) (hk : k < bs.length) (hown : m (Str.ofString "owner") = some (.int (k : Nat) tk)) :
    TrS c m led bodyC3 (fun f m' led' => f = .next ∧ LJ base (c.L + 1 + 1 + 1) fx Oa a0 m' led' ∧ m' (Str.ofString "number") = some (.int (j : Nat) t)) := by
  obtain ⟨hb, hcell, hn, hO, hA⟩ := J
  have J : LJ base (c.L + 1 + 1 + 1) fx Oa a0 m led := ⟨hb, hcell, hn, hO, hA⟩
  have G1 := G.mono fun p hp => hb p (hpb p hp)
  have kX : c.env.kindOf (Str.ofString "shown") = some .local := by rw [he]; rfl
  have kW : c.env.kindOf (Str.ofString "owner") = some .local := by rw [he]; rfl
  have kN : c.env.kindOf (Str.ofString "number") = some .local := by rw [he]; rfl
  have kA : c.env.kindOf (Str.ofString "asked") = some .local := by rw [he]; rfl
  have kR : c.env.kindOf (Str.ofString "rows") = some .local := by rw [he]; rfl
  have kL : c.env.kindOf (Str.ofString "listed") = some .local := by rw [he]; rfl
  have kO : c.env.kindOf (Str.ofString "order") = some .local := by rw [he]; rfl
  have kB : c.env.kindOf (Str.ofString "built") = some .cell := by rw [he]; rfl
  have kD : c.env.kindOf (Str.ofString "decls") = some .cell := by rw [he]; rfl
  have kE : c.env.kindOf (Str.ofString "decl") = some .cell := by rw [he]; rfl
  have xB : c.env.cells.lookup (Str.ofString "built") = some (c.L + 1) := by rw [he]; rfl
  have xD : c.env.cells.lookup (Str.ofString "decls") = some (c.L + 1 + 1) := by rw [he]; rfl
  have xE : c.env.cells.lookup (Str.ofString "decl") = some (c.L + 1 + 1 + 1) := by rw [he]; rfl
  have g1 : c.env.kindOf (Str.ofString "_law_number") = some .globalImplicit := by rw [he]; rfl
  have g2 : c.env.kindOf (Str.ofString "super_in") = some .globalImplicit := by rw [he]; rfl
  have g3 : c.env.kindOf (Str.ofString "_law_next") = some .globalImplicit := by rw [he]; rfl
  obtain ⟨y1, hy1, hy1'⟩ := G1.cb
  obtain ⟨y2, hy2, hy2'⟩ := G1.cd
  obtain ⟨nB, hB⟩ := G1.bl
  have hkb := List.getElem?_eq_getElem hk
  have hbz := H.bl.2
  refine St.set O kX (num_ev O g1 H G1 (fun i hi => sup_lt H hi) (.cell (d := .ref fx.Dl) O kD xD hy2 hy2' rfl) (sup_ev O g2 H G1 hj hk (.loc (d := .ref a0) O kA hA rfl)
    (.item (d := .ref (bsAt bs k)) (.cell (d := .ref fx.B) O kB xB hy1 hy1' rfl) (.loc (d := .int (k : Nat)) O kW hown ⟨tk, rfl⟩) hB (Int.natCast_nonneg _) (by omega) (by rw [Int.toNat_natCast]; exact refsOf_at (by rw [bsAt_eq hkb]; exact hkb)) rfl)
    (.cell (d := .ref (das.getD j 0)) O kE xE (hb _ hxc) hxd rfl))) fun v hv => ?_
  have hn2 := hn.upd (x := (Str.ofString "shown")) (v := v) (by decide +kernel)
  have hO2 := upd_ne (x := (Str.ofString "shown")) (v := v) hO (by decide)
  have J2 := J.upd (x := (Str.ofString "shown")) (v := v) (by decide +kernel)
  have q1 := upd_ne (x := (Str.ofString "shown")) (v := v) hnum (by decide)
  have q2 := upd_ne (x := (Str.ofString "shown")) (v := v) hown (by decide)
  have q3 : upd m (Str.ofString "shown") v (Str.ofString "shown") = some v := upd_at
  generalize upd m (Str.ofString "shown") v = m2 at hn2 hO2 J2 q1 q2 q3 ⊢
  refine St.if0 (b := false) (.cmp (.loc (d := .int (numJ (supJ rs ls ord j k))) O kX q3 hv) (next_ev (k := k) O g3 H G1 hj (.loc (d := .ref fx.Rw) O kR hn2.rows rfl) (.loc (d := .ref fx.Ls) O kL hn2.listed rfl) (.loc (d := .ref Oa) O kO hO2 rfl) (.loc (d := .int (k : Nat)) O kW q2 ⟨tk, rfl⟩) (.loc (d := .int (j : Nat)) O kN q1 ⟨t, rfl⟩)) ?ne) (fun hb => nomatch hb) fun _ => St.nil ⟨rfl, J2, q1⟩
  have : CmpD c m2 led .NotEq (.int (numJ (supJ rs ls ord j k))) (.int (numJ (supJ rs ls ord j k))) (numJ (supJ rs ls ord j k) != numJ (supJ rs ls ord j k)) := .neIntD
  rwa [bne_self_eq_false] at this
set_option maxHeartbeats 1000000 in
theorem c1_walk {P : Flow → Map → Led → Prop} (O : c.Ok 6) (he : c.env = envOfC (Str.ofString "law") (fScope (topAt 28)) c.L fa cdv) (H : PD bs das rs ls lo ord) (G : GS c.w c.L fx Oa a0 bs das rs ls lo ord per) (hpb : ∀ p ∈ per, p ∈ base) (J : LJ base (c.L + 1 + 1 + 1) fx Oa a0 m led) (hxc : (c.L + 1 + 1 + 1, xc) ∈ base)
    (hxd : xc.data = .cell (some (.ref (das.getD j 0)))) (hj : j < rs.length) (hnum : m (Str.ofString "number") = some (.int (j : Nat) t))
    (h : ∀ m' led', LJ base (c.L + 1 + 1 + 1) fx Oa a0 m' led' → m' (Str.ofString "number") = some (.int (j : Nat) t) → TrS c m' led' (bodyC.drop 3) P) : TrS c m led bodyC P := by
  obtain ⟨hb, hcell, hn, hO, hA⟩ := J
  have J : LJ base (c.L + 1 + 1 + 1) fx Oa a0 m led := ⟨hb, hcell, hn, hO, hA⟩
  have G1 := G.mono fun p hp => hb p (hpb p hp)
  have kX : c.env.kindOf (Str.ofString "due") = some .local := by rw [he]; rfl
  have kW : c.env.kindOf (Str.ofString "owner") = some .local := by rw [he]; rfl
  have kN : c.env.kindOf (Str.ofString "number") = some .local := by rw [he]; rfl
  have kA : c.env.kindOf (Str.ofString "asked") = some .local := by rw [he]; rfl
  have kR : c.env.kindOf (Str.ofString "rows") = some .local := by rw [he]; rfl
  have kL : c.env.kindOf (Str.ofString "listed") = some .local := by rw [he]; rfl
  have kZ : c.env.kindOf (Str.ofString "lone") = some .local := by rw [he]; rfl
  have kO : c.env.kindOf (Str.ofString "order") = some .local := by rw [he]; rfl
  have kB : c.env.kindOf (Str.ofString "built") = some .cell := by rw [he]; rfl
  have kD : c.env.kindOf (Str.ofString "decls") = some .cell := by rw [he]; rfl
  have kE : c.env.kindOf (Str.ofString "decl") = some .cell := by rw [he]; rfl
  have xB : c.env.cells.lookup (Str.ofString "built") = some (c.L + 1) := by rw [he]; rfl
  have xD : c.env.cells.lookup (Str.ofString "decls") = some (c.L + 1 + 1) := by rw [he]; rfl
  have xE : c.env.cells.lookup (Str.ofString "decl") = some (c.L + 1 + 1 + 1) := by rw [he]; rfl
  have g1 : c.env.kindOf (Str.ofString "_law_number") = some .globalImplicit := by rw [he]; rfl
  have g2 : c.env.kindOf (Str.ofString "virtual_in") = some .globalImplicit := by rw [he]; rfl
  have g3 : c.env.kindOf (Str.ofString "_law_nearest") = some .globalImplicit := by rw [he]; rfl
  have g4 : c.env.kindOf (Str.ofString "range") = some .globalImplicit := by rw [he]; rfl
  have g5 : c.env.kindOf (Str.ofString "len") = some .globalImplicit := by rw [he]; rfl
  obtain ⟨y1, hy1, hy1'⟩ := G1.cb
  obtain ⟨y2, hy2, hy2'⟩ := G1.cd
  obtain ⟨lov, nO, hLo, hLoi⟩ := G1.lone
  obtain ⟨nB, hB⟩ := G1.bl
  have hbz := H.bl.2
  -- due = _law_nearest(rows, listed, order, number, number in lone)
  refine St.set O kX (near_ev (b := (natZ lo).any (· == (j : Int))) O g3 H G1 hj (natZ_any lo j) (.loc (d := .ref fx.Rw) O kR hn.rows rfl) (.loc (d := .ref fx.Ls) O kL hn.listed rfl) (.loc (d := .ref Oa) O kO hO rfl) (.loc (d := .int (j : Nat)) O kN hnum ⟨t, rfl⟩)
    (.cmp (.loc (d := .int (j : Nat)) O kN hnum ⟨t, rfl⟩) (.loc (d := .ref fx.Lo) O kZ hn.lone rfl) (.inInts hLo hLoi))) fun v hv => ?_
  have hA2 := upd_ne (x := (Str.ofString "due")) (v := v) hA (by decide)
  have J2 := J.upd (x := (Str.ofString "due")) (v := v) (by decide +kernel)
  have q1 := upd_ne (x := (Str.ofString "due")) (v := v) hnum (by decide)
  have q3 : upd m (Str.ofString "due") v (Str.ofString "due") = some v := upd_at
  generalize upd m (Str.ofString "due") v = m2 at hA2 J2 q1 q3 ⊢
  -- if _law_number(decls, virtual_in(asked, decl)) != due
  have e0 {w1 w2 w3 w4} : Ev c m2 led (.Call (.Name (Str.ofString "virtual_in") w1) [.Name (Str.ofString "asked") w2, .Name (Str.ofString "decl") w3] [] w4) (.ref (das.getD (virJ rs ls lo ord j) 0)) := vir_ev O g2 H G1 hj (.loc (d := .ref a0) O kA hA2 rfl) (.cell (d := .ref (das.getD j 0)) O kE xE (hb _ hxc) hxd rfl)
  refine St.if0 (b := false) (.cmp (num_ev (x := some (virJ rs ls lo ord j)) O g1 H G1 (fun i hi => Option.some.inj hi ▸ vir_lt H hj) (.cell (d := .ref fx.Dl) O kD xD hy2 hy2' rfl) e0) (.loc (d := .int (virJ rs ls lo ord j : Nat)) O kX q3 hv) ?ne) (fun hb => nomatch hb) fun _ => ?_
  case ne =>
    have : CmpD c m2 led .NotEq (.int (virJ rs ls lo ord j : Nat)) (.int (virJ rs ls lo ord j : Nat)) (((virJ rs ls lo ord j : Nat) : Int) != ((virJ rs ls lo ord j : Nat) : Int)) := .neIntD
    rwa [bne_self_eq_false] at this
  -- for owner in range(len(built))
  refine St.forRange O kW (Tr.range O g4 (Tr.mono (Ev.len O g5 (.cell (d := .ref fx.B) O kB xB hy1 hy1' rfl) hB (by rw [refsOf_len]; omega)) ?_))
  rintro v2 m3 led3 ⟨⟨tv, rfl⟩, rfl, rfl⟩
  refine ⟨(refsOf bs).length, ⟨tv, rfl⟩, fun r tr ur wr hr => ⟨r, (refsOf bs).length, tr, ur, wr, fun _ m led => LJ ((r, rangeO (refsOf bs).length tr ur wr) :: base) (c.L + 1 + 1 + 1) fx Oa a0 m led ∧ m (Str.ofString "number") = some (.int (j : Nat) t), rfl, .head _, by rw [refsOf_len]; omega, ⟨J2.more, q1⟩, ?turn, ?done⟩⟩
  case turn =>
    rintro k tk m4 led4 I oI hk ⟨hJ4, q4⟩ ha
    rw [refsOf_len] at hk
    refine Tr.mono (c3_walk O he H G (fun p hp => .tail _ (.tail _ (hpb p hp))) (hJ4.push (by decide +kernel)) (.tail _ (.tail _ hxc)) hxd hj (upd_ne q4 (by decide)) hk upd_at) ?_
    rintro f m5 led5 ⟨rfl, hJ5, q5⟩
    obtain ⟨led6, w1, w2, w3⟩ := hJ5.pop (hJ4.apart ha).1 (hJ4.apart ha).2
    exact ⟨led6, w1, w2, w3, q5⟩
  case done =>
    rintro m4 led4 ⟨hJ4, q4⟩
    exact h m4 led4 (hJ4.less fun p hp => .tail _ hp) q4
end
section
variable {c : Cx} {fa : Addr} {cdv : Value} {fx : FX} {Oa a0 : Addr} {bs das : List Addr} {rs : List Row} {ls lo ord : List Nat} {per base led : Led} {m : Map} {j o : Nat} {t : Tok} {xc : Obj} {d : Addr} {r : Row}
theorem firsts_lt (H : PD bs das rs ls lo ord) {call : Str} {st o : Nat} : (firsts rs (visP rs call st o) (seqJ rs ls ord st)).length ≤ 1000 ∧ ∀ j ∈ firsts rs (visP rs call st o) (seqJ rs ls ord st), j < rs.length := by
  have hv := firsts_vis (rs := rs) H (call := call) (st := st) (o := o)
  have hm : ∀ j ∈ firsts rs (visP rs call st o) (seqJ rs ls ord st), j < rs.length := fun j hj => seq_lt H (List.mem_filter.mp (hv.mem j hj).1).1
  refine ⟨?_, hm⟩
  have nd : (firsts rs (visP rs call st o) (seqJ rs ls ord st)).Nodup := (List.pairwise_map.mp hv.keys).imp fun hne e => hne (by rw [e])
  have := nodup_len _ (List.range rs.length) nd fun k hk => List.mem_range.mpr (hm k hk)
  rw [List.length_range] at this
  have := H.rl
  omega
/-- [other for other in functions_in(asked, decl.name, st) if other.key == decl.key]: the list to go through -/
theorem same_comp {e1 e2 e3 : Expr} {ifs : List Expr} {scope : Scope} {p1 p2 : Pos} {st : Nat} (O : c.Ok 6) (g : c.env.kindOf (Str.ofString "functions_in") = some .globalImplicit) (H : PD bs das rs ls lo ord) (ha0 : bs[o]? = some a0) (G : GS c.w c.L fx Oa a0 bs das rs ls lo ord led) (hj : j < rs.length) (hxc : (c.L + 1 + 1 + 1, xc) ∈ led)
    (hxd : xc.data = .cell (some (.ref (das.getD j 0)))) (h1 : Ev c m led e1 (.ref a0)) (h2 : Ev c m led e2 (.str (rowJ rs j).call)) (h3 : Ev c m led e3 (.int (st : Nat)))
    (hk1 : ∀ c' : Cx, c'.env = compEnvC scope [((Str.ofString "decl"), c.L + 1 + 1 + 1)] c'.L c.env → c'.env.kindOf (Str.ofString "other") = some .local ∧ c'.env.kindOf (Str.ofString "decl") = some .cell ∧ c'.env.cells.lookup (Str.ofString "decl") = some (c.L + 1 + 1 + 1))
    (hifs : ∃ q1 q2 q3 q4 q5, ifs = [.Compare (.Attribute (.Name (Str.ofString "other") q1) (Str.ofString "key") q2) [.Eq] [.Attribute (.Name (Str.ofString "decl") q3) (Str.ofString "key") q4] q5]) {q6 : Pos}
    (hs : eval ((Expr.Name (Str.ofString "functions_in") p1).Call [e1, e2, e3] [] p2) c.env = (do let f ← eval (.Name (Str.ofString "functions_in") p1) c.env; callWith p2 f [] (backTo p2 (starEach [e1, e2, e3] c.env)) (backToKw p2 (keywordEach [] c.env))) := by rfl)
    (he : starEach [e1, e2, e3] c.env = (false, eval e1 c.env) :: starEach [e2, e3] c.env := by rfl) (he2 : starEach [e2, e3] c.env = (false, eval e2 c.env) :: starEach [e3] c.env := by rfl) (he3 : starEach [e3] c.env = (false, eval e3 c.env) :: starEach [] c.env := by rfl) (hp : (backTo p2 (starEach [e2, e3] c.env)).any (·.1) = false := by rfl) :
    Tr c m led (eval (.Call (.Name (Str.ofString "functions_in") p1) [e1, e2, e3] [] p2) c.env) (CompL c 6 scope [((Str.ofString "decl"), c.L + 1 + 1 + 1)] false (Str.ofString "other") ifs (.Name (Str.ofString "other") q6) m fun D nD outs ledJ => outs = refsOf (((firsts rs (visP rs (rowJ rs j).call st o) (seqJ rs ls ord st)).filter fun i => keyR rs i == keyR rs j).map fun i => das.getD i 0) ∧ ∀ p ∈ led, p ∈ ledJ) := by
  have hfl := firsts_lt (rs := rs) H (call := (rowJ rs j).call) (st := st) (o := o)
  refine Tr.mono (Tr.call (k := 3) (post := fun led' v => ∃ r n, v = .ref r ∧ led' = (r, refL ((firsts rs (visP rs (rowJ rs j).call st o) (seqJ rs ls ord st)).map fun j => das.getD j 0) n) :: led ∧ ∀ p ∈ led, p.1 < r) (O.less (by decide)) (glob_ O g (glob28 _)) (keep28 _) (.cons h1 (.cons h2 (.cons h3 .nil he3) he2) he) (fun vs q => ?_) hs he hp) ?_
  · cases q with | cons a1 q => cases q with | cons a2 q => cases q with | cons a3 q => cases q; cases a1; obtain ⟨t2, rfl⟩ := a2; obtain ⟨t3, rfl⟩ := a3; exact G.fn H ha0
  rintro v m' led' ⟨rfl, l, n, rfl, rfl, hr⟩
  obtain ⟨q1, q2, q3, q4, q5, rfl⟩ := hifs
  refine ⟨rfl, l, false, _, n, fun i outs led2 => outs = refsOf ((((firsts rs (visP rs (rowJ rs j).call st o) (seqJ rs ls ord st)).take i).filter fun i => keyR rs i == keyR rs j).map fun i => das.getD i 0) ∧ ∀ p ∈ (l, refL ((firsts rs (visP rs (rowJ rs j).call st o) (seqJ rs ls ord st)).map fun j => das.getD j 0) n) :: led, p ∈ led2, rfl, by rw [refsOf_len, List.length_map]; exact hfl.1, ⟨rfl, fun p hp => hp⟩, fun _ _ _ h => h.2 _ (.head _), ?_, ?_⟩
  · rintro c' m2 i u outs ledJ D I oI oc nD2 hw' O' he' hu ⟨rfl, hb1⟩ ha1 ho1 _
    rw [refsOf_get, List.getElem?_map] at hu
    obtain ⟨a, hai, rfl⟩ := Option.map_eq_some_iff.mp hu
    obtain ⟨i', hji, rfl⟩ := Option.map_eq_some_iff.mp hai
    have hil := hfl.2 i' (List.mem_of_getElem? hji)
    obtain ⟨k1, k2, k3⟩ := hk1 c' he'
    generalize hl3 : (D, listOf (refsOf ((((firsts rs (visP rs (rowJ rs j).call st o) (seqJ rs ls ord st)).take i).filter fun i => keyR rs i == keyR rs j).map fun i => das.getD i 0)).toArray nD2) :: (I, oI) :: ledJ = led3
    have s3 : ∀ p ∈ led, p ∈ led3 := fun p hp => hl3 ▸ .tail _ (.tail _ (hb1 p (.tail _ hp)))
    refine .plain hl3 (keyR rs i' == keyR rs j) (.one (.cmp (.attr O' (.loc (d := .ref (das.getD i' 0)) O' k1 upd_at rfl) ((G.dAt H hil).2.1.mono s3).keyD (.tail _ (.tail _ (.head _)))) (.attr O' (.cell (d := .ref (das.getD j 0)) O' k2 k3 (s3 _ hxc) hxd rfl) ((G.dAt H hj).2.1.mono s3).keyD (.tail _ (.tail _ (.head _)))) .eqStr)) (fun hf => ⟨?_, hb1⟩) fun ht => ?_
    · rw [take_filter hji, hf, if_neg Bool.false_ne_true, List.append_nil]
    · refine Tr.mono (Ev.loc (d := .ref (das.getD i' 0)) O' k1 upd_at rfl) ?_
      rintro r2 m4 led4 ⟨h1, _, rfl⟩
      cases h1
      refine ⟨ledJ, fun p hp => hl3 ▸ hp, ha1, ?_, hb1⟩
      rw [take_filter hji, ht, if_pos rfl, List.map_append, refsOf_snoc]
      rfl
  · rintro D nD2 outs ledJ ⟨hi, hb1⟩ _ _
    rw [refsOf_len, List.length_map, List.take_length] at hi
    exact ⟨hi, fun p hp => hb1 p (.tail _ hp)⟩
end
section
variable {c : Cx} {fa : Addr} {cdv : Value} {fx : FX} {Oa a0 : Addr} {bs das : List Addr} {rs : List Row} {ls lo ord : List Nat} {per base led : Led} {m : Map} {j o : Nat} {t : Tok} {xc : Obj}
set_option maxHeartbeats 2000000 in
theorem c4_walk (O : c.Ok 6) (he : c.env = envOfC (Str.ofString "law") (fScope (topAt 28)) c.L fa cdv) (H : PD bs das rs ls lo ord) (ho : ord[0]? = some o) (ha0 : bs[o]? = some a0) (G : GS c.w c.L fx Oa a0 bs das rs ls lo ord per) (hpb : ∀ p ∈ per, p ∈ base) (J : LJ base (c.L + 1 + 1 + 1) fx Oa a0 m led) (hxc : (c.L + 1 + 1 + 1, xc) ∈ base)
    (hxd : xc.data = .cell (some (.ref (das.getD j 0)))) (hj : j < rs.length) (hnum : m (Str.ofString "number") = some (.int (j : Nat) t)) :
    TrS c m led (bodyC.drop 3) (fun f m' led' => f = .next ∧ LJ base (c.L + 1 + 1 + 1) fx Oa a0 m' led') := by
  obtain ⟨hb, hcell, hn, hO, hA⟩ := J
  have J : LJ base (c.L + 1 + 1 + 1) fx Oa a0 m led := ⟨hb, hcell, hn, hO, hA⟩
  have G1 := G.mono fun p hp => hb p (hpb p hp)
  have kA : c.env.kindOf (Str.ofString "asked") = some .local := by rw [he]; rfl
  have kN : c.env.kindOf (Str.ofString "number") = some .local := by rw [he]; rfl
  have kR : c.env.kindOf (Str.ofString "rows") = some .local := by rw [he]; rfl
  have kL : c.env.kindOf (Str.ofString "listed") = some .local := by rw [he]; rfl
  have kO : c.env.kindOf (Str.ofString "order") = some .local := by rw [he]; rfl
  have kX : c.env.kindOf (Str.ofString "later") = some .local := by rw [he]; rfl
  have kY : c.env.kindOf (Str.ofString "seen") = some .local := by rw [he]; rfl
  have kE : c.env.kindOf (Str.ofString "decl") = some .cell := by rw [he]; rfl
  have xE : c.env.cells.lookup (Str.ofString "decl") = some (c.L + 1 + 1 + 1) := by rw [he]; rfl
  have g1 : c.env.kindOf (Str.ofString "functions_in") = some .globalImplicit := by rw [he]; rfl
  have g2 : c.env.kindOf (Str.ofString "super_in") = some .globalImplicit := by rw [he]; rfl
  have g3 : c.env.kindOf (Str.ofString "virtual_in") = some .globalImplicit := by rw [he]; rfl
  have g5 : c.env.kindOf (Str.ofString "len") = some .globalImplicit := by rw [he]; rfl
  have hd : DeclAt led (das.getD j 0) (rowJ rs j) := (G1.dAt H hj).2.1
  have nE {m led' p} (hs : ∀ p ∈ base, p ∈ led') : Ev c m led' (.Name (Str.ofString "decl") p) (.ref (das.getD j 0)) := .cell O kE xE (hs _ hxc) hxd rfl
  have hob : o < bs.length := (List.getElem?_eq_some_iff.mp ha0).1
  have eo : bsAt bs o = a0 := bsAt_eq ha0
  refine St.if0 (.and (.cons (.cmp (.attr O (nE hb) hd.kindD (.head _)) .str_ .eqStr) fun _ => .cons (.cmp (.attr O (nE hb) hd.wordD (.tail _ (.tail _ (.tail _ (.head _))))) .str_ .eqStr) fun _ => .nil)) (fun hfn => ?_) fun _ => St.nil ⟨rfl, J⟩
  rw [Bool.and_eq_true, Bool.and_true, beq_iff_eq, beq_iff_eq] at hfn
  obtain ⟨h1, h2⟩ := hfn
  -- later = [..]
  refine St.comp false (k := 6) (cl := [((Str.ofString "decl"), c.L + 1 + 1 + 1)]) O (by rw [he]; rfl) (by rw [he]; rfl) ⟨fun _ _ => rfl, fun _ => rfl⟩ rfl (by decide +kernel) (fun C => by rw [he]; rfl) kX
    (same_comp (st := 1) (o := o) O g1 H ha0 G1 hj (hb _ hxc) hxd (.loc (d := .ref a0) O kA hA rfl) (.attr O (nE hb) hd.nameD (.tail _ (.head _))) .int_ (fun c' he' => ⟨by rw [he', he]; rfl, by rw [he', he]; rfl, by rw [he']; rfl⟩) ⟨_, _, _, _, _, rfl⟩) ?rest
  rintro D nD outs ledJ ⟨rfl, hb1⟩
  have J2 := (J.sub (led' := (D, listOf (refsOf (((firsts rs (visP rs (rowJ rs j).call 1 o) (seqJ rs ls ord 1)).filter fun i => keyR rs i == keyR rs j).map fun i => das.getD i 0)).toArray nD) :: ledJ) fun p hp => .tail _ (hb1 p hp)).upd (x := (Str.ofString "later")) (v := .ref D) (by decide +kernel)
  have qn := upd_ne (x := (Str.ofString "later")) (v := .ref D) hnum (by decide)
  have qx : upd m (Str.ofString "later") (.ref D) (Str.ofString "later") = some (.ref D) := upd_at
  generalize upd m (Str.ofString "later") (.ref D) = m2 at J2 qn qx ⊢
  have s2 : ∀ p ∈ led, p ∈ (D, listOf (refsOf (((firsts rs (visP rs (rowJ rs j).call 1 o) (seqJ rs ls ord 1)).filter fun i => keyR rs i == keyR rs j).map fun i => das.getD i 0)).toArray nD) :: ledJ := fun p hp => .tail _ (hb1 p hp)
  have hD : (D, refL (((firsts rs (visP rs (rowJ rs j).call 1 o) (seqJ rs ls ord 1)).filter fun i => keyR rs i == keyR rs j).map fun i => das.getD i 0) nD) ∈ (D, listOf (refsOf (((firsts rs (visP rs (rowJ rs j).call 1 o) (seqJ rs ls ord 1)).filter fun i => keyR rs i == keyR rs j).map fun i => das.getD i 0)).toArray nD) :: ledJ := .head _
  generalize (D, listOf (refsOf (((firsts rs (visP rs (rowJ rs j).call 1 o) (seqJ rs ls ord 1)).filter fun i => keyR rs i == keyR rs j).map fun i => das.getD i 0)).toArray nD) :: ledJ = led2 at J2 s2 hD ⊢
  rw [agree_later H hj ho h1 h2] at hD
  have G2 := G1.mono s2
  have J2' := J2
  obtain ⟨hb2, _, hn2, hO2, hA2⟩ := J2'
  have hd2 := hd.mono s2
  have hsl : ∀ i, supJ rs ls ord j o = some i → i < rs.length := fun i hi => sup_lt H hi
  have insts : ∀ (x : Option Nat), (∀ i, x = some i → i < rs.length) → ∀ a ∈ x.toList.map (fun i => das.getD i 0), IsInst led2 a := fun x hx a ha => by
    obtain ⟨i, hi, rfl⟩ := List.mem_map.mp ha
    rw [Option.mem_toList] at hi
    exact G2.dInst H _ (G2.mem H (hx i hi))
  -- if later != [other for other in [super_in(asked, asked, decl)] if other is not None]
  refine St.if0 (b := false) (Tst.listsNe (b := true) (k := 5) O (Tr.mono (Ev.loc (d := .ref D) O kX qx rfl) fun v1 m1 led1 ⟨e1, e2, e3⟩ => ⟨e2, D, refsOf ((supJ rs ls ord j o).toList.map fun i => das.getD i 0), nD, e1, ?cmp⟩)) (fun hb => nomatch hb) fun _ => ?seen
  case cmp =>
    subst e3
    refine Tr.mono (Tr.comp false (k := 6) (cl := []) (P := fun D nD outs ledJ => outs = refsOf ((supJ rs ls ord j o).toList.map fun i => das.getD i 0) ∧ ∀ p ∈ led1, p ∈ ledJ) O (by rw [he]; rfl) ⟨fun _ _ => rfl, fun _ => rfl⟩ rfl (by decide +kernel) (fun C => by rw [he]; rfl)
      (Tr.list (Its.ev (sup_ev (k := o) O g2 H G2 hj hob (.loc (d := .ref a0) O kA hA2 rfl) (eo ▸ .loc (d := .ref a0) O kA hA2 rfl) (nE hb2)) fun v hv => Its.nil ⟨show 1 ≤ 1000 by decide, fun l hl =>
        ⟨rfl, l, false, [v], 0, fun i2 outs led' => outs = (if i2 = 0 then [] else refsOf ((supJ rs ls ord j o).toList.map fun i => das.getD i 0)) ∧ ∀ p ∈ (l, listOf [v].toArray 0) :: led1, p ∈ led', rfl, show 1 ≤ 1000 by decide, ⟨rfl, fun p hp => hp⟩, fun _ _ _ hb => hb.2 _ (.head _), ?turn, ?done⟩⟩))) ?fin
    case done => exact fun D nD outs ledJ hq _ _ => ⟨hq.1, fun p hp => hq.2 p (.tail _ hp)⟩
    case turn =>
      rintro c' m7 i2 u2 outs ledJ D I2 oI2 oc nD hw' O' he' hu2 ⟨rfl, hb3⟩ ha2 ho2 _
      have : i2 = 0 ∧ u2 = v := by
        cases i2 with
        | zero => exact ⟨rfl, (Option.some.inj hu2).symm⟩
        | succ n => exact nomatch hu2
      obtain ⟨rfl, rfl⟩ := this
      have k1 : c'.env.kindOf (Str.ofString "other") = some .local := by rw [he', he]; rfl
      cases hx : supJ rs ls ord j o with
      | none =>
        rw [hx] at hv
        refine .plain rfl false (.one (.cmp (.loc (d := .none) O' k1 upd_at hv) .none_ (.notNone (d := .none)))) (fun _ => ⟨rfl, hb3⟩) nofun
      | some i =>
        rw [hx] at hv
        refine .plain rfl true (.one (.cmp (.loc (d := .ref (das.getD i 0)) O' k1 upd_at hv) .none_ (.notNone (d := .ref (das.getD i 0))))) nofun fun _ => Tr.mono (Ev.loc (d := .ref (das.getD i 0)) O' k1 upd_at hv) ?_
        rintro r2 m4 led4 ⟨h1, _, rfl⟩
        cases h1
        exact ⟨ledJ, fun p hp => hp, ha2, rfl, hb3⟩
    case fin =>
      rintro v m' led' ⟨e4, D2, n2, outs, ledK, rfl, rfl, rfl, hb4⟩
      refine ⟨e4, fun p hp => .tail _ (hb4 p hp), .tail _ (hb4 _ hD), D2, _, n2, rfl, .head _, ?_⟩
      have := SameL.refs (c := c) (k := 5) (led := (D2, refL ((supJ rs ls ord j o).toList.map fun i => das.getD i 0) n2) :: ledK) (as := (supJ rs ls ord j o).toList.map fun i => das.getD i 0) (bs := (supJ rs ls ord j o).toList.map fun i => das.getD i 0) O (fun a ha => (insts _ hsl a ha).mono fun p hp => .tail _ (hb4 p hp)) (fun a ha => (insts _ hsl a ha).mono fun p hp => .tail _ (hb4 p hp))
      rw [decide_eq_true rfl] at this
      exact this
  case seen =>
    -- seen = [..]
    refine St.comp false (k := 6) (cl := [((Str.ofString "decl"), c.L + 1 + 1 + 1)]) O (by rw [he]; rfl) (by rw [he]; rfl) ⟨fun _ _ => rfl, fun _ => rfl⟩ rfl (by decide +kernel) (fun C => by rw [he]; rfl) kY
      (same_comp (st := 0) (o := o) O g1 H ha0 G2 hj (hb2 _ hxc) hxd (.loc (d := .ref a0) O kA hA2 rfl) (.attr O (nE hb2) hd2.nameD (.tail _ (.head _))) .int_ (fun c' he' => ⟨by rw [he', he]; rfl, by rw [he', he]; rfl, by rw [he']; rfl⟩) ⟨_, _, _, _, _, rfl⟩) ?rest2
    rintro S nS outs ledK ⟨rfl, hb3⟩
    have J3 := (J2.sub (led' := (S, listOf (refsOf (((firsts rs (visP rs (rowJ rs j).call 0 o) (seqJ rs ls ord 0)).filter fun i => keyR rs i == keyR rs j).map fun i => das.getD i 0)).toArray nS) :: ledK) fun p hp => .tail _ (hb3 p hp)).upd (x := (Str.ofString "seen")) (v := .ref S) (by decide +kernel)
    have qn3 := upd_ne (x := (Str.ofString "seen")) (v := .ref S) qn (by decide)
    have qs : upd m2 (Str.ofString "seen") (.ref S) (Str.ofString "seen") = some (.ref S) := upd_at
    generalize upd m2 (Str.ofString "seen") (.ref S) = m3 at J3 qn3 qs ⊢
    have s3 : ∀ p ∈ led2, p ∈ (S, listOf (refsOf (((firsts rs (visP rs (rowJ rs j).call 0 o) (seqJ rs ls ord 0)).filter fun i => keyR rs i == keyR rs j).map fun i => das.getD i 0)).toArray nS) :: ledK := fun p hp => .tail _ (hb3 p hp)
    have hS : (S, refL (((firsts rs (visP rs (rowJ rs j).call 0 o) (seqJ rs ls ord 0)).filter fun i => keyR rs i == keyR rs j).map fun i => das.getD i 0) nS) ∈ (S, listOf (refsOf (((firsts rs (visP rs (rowJ rs j).call 0 o) (seqJ rs ls ord 0)).filter fun i => keyR rs i == keyR rs j).map fun i => das.getD i 0)).toArray nS) :: ledK := .head _
    generalize (S, listOf (refsOf (((firsts rs (visP rs (rowJ rs j).call 0 o) (seqJ rs ls ord 0)).filter fun i => keyR rs i == keyR rs j).map fun i => das.getD i 0)).toArray nS) :: ledK = led3 at J3 s3 hS ⊢
    have G3 := G2.mono s3
    have J3' := J3
    obtain ⟨hb4, _, hn4, hO4, hA4⟩ := J3'
    have hd3 := hd2.mono s3
    obtain ⟨lvs, nl, hLl, hLi⟩ := G3.law.listed
    obtain ⟨ovs, no, hOl, hOi⟩ := G3.law.order
    obtain ⟨ar, hRa, hEa⟩ := G3.law.rows.at (show rs[j]? = some (rowJ rs j) by unfold rowJ; rw [List.getElem?_eq_getElem hj]; rfl)
    -- if number in listed and rows[number]['at'] in order and decl.visibility != 'private'
    refine St.if0 (.and (.cons (.cmp (.loc (d := .int (j : Nat)) O kN qn3 ⟨t, rfl⟩) (.loc (d := .ref fx.Ls) O kL hn4.listed rfl) (.inInts hLl hLi)) fun _ => .cons (.cmp (.get (hEa (fun _ hp => hp) (.loc (d := .ref fx.Rw) O kR hn4.rows rfl) (.loc (d := .int (j : Nat)) O kN qn3 ⟨t, rfl⟩) (by intro _; with_unfolding_all rfl)) .str_ hRa (.head _)) (.loc (d := .ref Oa) O kO hO4 rfl) (.inInts hOl hOi)) fun _ =>
      .cons (.cmp (.attr O (nE hb4) hd3.visD (.tail _ (.tail _ (.tail _ (.tail _ (.head _)))))) .str_ .neStr) fun _ => .nil)) (fun hcond => ?_) fun _ => St.nil (P := Then c [] _) (St.nil ⟨rfl, J3⟩)
    rw [natZ_any, natZ_any, Bool.and_true, Bool.and_eq_true, Bool.and_eq_true, decide_eq_true_iff, decide_eq_true_iff, bne_iff_ne] at hcond
    obtain ⟨c1, c2, c3⟩ := hcond
    obtain ⟨i, ei, hil, hiv⟩ := agree_seen (o := o) H c1 c2 c3 h1 h2
    rw [ei] at hS
    have hdi := (G3.dAt H hil).2.1
    have n0 {p1 p2 p3 n} : Ev c m3 led3 (.Subscript (.Name (Str.ofString "seen") p1) (.Constant (.int 0) n p2) p3) (.ref (das.getD i 0)) := .item (d := .ref (das.getD i 0)) (.loc (d := .ref S) O kY qs rfl) .int_ hS (by decide) (by decide) rfl rfl
    have eb : (((((refsOf [das.getD i 0]).length : Nat) : Int) != 1) || (((((rowJ rs i).seen != (Str.ofString "private")) && ((!(das.getD i 0 == das.getD (virJ rs ls lo ord j) 0)) && true))) || false)) = false := by
      have e1 : ((((refsOf [das.getD i 0]).length : Nat) : Int) != 1) = false := rfl
      rw [e1]
      cases hp : (rowJ rs i).seen != (Str.ofString "private") with
      | false => rfl
      | true =>
        rw [bne_iff_ne] at hp
        rw [hiv hp, beq_self_eq_true]
        rfl
    refine St.if0 (b := (((((refsOf [das.getD i 0]).length : Nat) : Int) != 1) || (((((rowJ rs i).seen != (Str.ofString "private")) && ((!(das.getD i 0 == das.getD (virJ rs ls lo ord j) 0)) && true))) || false))) (.or (.cons (.cmp (.len O g5 (.loc (d := .ref S) O kY qs rfl) hS (by show 1 ≤ 1000; decide)) .int_ .neIntD) fun _ =>
      .cons (.and (.cons (.cmp (.attr O n0 hdi.visD (.tail _ (.tail _ (.tail _ (.tail _ (.head _)))))) .str_ .neStr) fun _ => .cons (.cmp n0 (vir_ev O g3 H G3 hj (.loc (d := .ref a0) O kA hA4 rfl) (nE hb4)) (.isNot (G3.dInst H _ (G3.mem H hil)) (G3.dInst H _ (G3.mem H (vir_lt H hj))))) fun _ => .nil)) fun _ => .nil)) (fun hb => by rw [eb] at hb; exact nomatch hb) fun _ => St.nil (P := Then c _ _) (St.nil (P := Then c [] _) (St.nil ⟨rfl, J3⟩))
end
section
variable {c : Cx} {fa : Addr} {cdv : Value} {fx : FX} {Oa a0 : Addr} {bs das : List Addr} {rs : List Row} {ls lo ord : List Nat} {per led : Led} {m : Map} {o : Nat}
theorem c_walk (O : c.Ok 6) (he : c.env = envOfC (Str.ofString "law") (fScope (topAt 28)) c.L fa cdv) (H : PD bs das rs ls lo ord) (ho : ord[0]? = some o) (ha0 : bs[o]? = some a0) (G : GS c.w c.L fx Oa a0 bs das rs ls lo ord per) (hper : ∀ p ∈ per, p.1 ≠ c.L + 1 + 1 + 1) (J : LJ per (c.L + 1 + 1 + 1) fx Oa a0 m led) :
    TrS c m led (lawB.drop 7) (fun f _ _ => f = .ret (.bool true)) := by
  have kN : c.env.kindOf (Str.ofString "number") = some .local := by rw [he]; rfl
  have kE : c.env.kindOf (Str.ofString "decl") = some .cell := by rw [he]; rfl
  have kD : c.env.kindOf (Str.ofString "decls") = some .cell := by rw [he]; rfl
  have xD : c.env.cells.lookup (Str.ofString "decls") = some (c.L + 1 + 1) := by rw [he]; rfl
  have xE : c.env.cells.lookup (Str.ofString "decl") = some (c.L + 1 + 1 + 1) := by rw [he]; rfl
  have g1 : c.env.kindOf (Str.ofString "enumerate") = some .globalImplicit := by rw [he]; rfl
  obtain ⟨y2, hy2, hy2'⟩ := G.cd
  obtain ⟨nD, hDl⟩ := G.dl
  have hb0 : ∀ p ∈ per, p ∈ led := by obtain ⟨hb, _⟩ := J; exact hb
  refine St.forEnum O g1 ?len ?star (Tr.mono (Ev.cell (d := .ref fx.Dl) O kD xD (hb0 _ hy2) hy2' rfl) fun v m' led' ⟨e1, e2, e3⟩ => ⟨fx.Dl, refsOf das, nD, fun _ => LJ per (c.L + 1 + 1 + 1) fx Oa a0, e1, e2 ▸ e3 ▸ J, fun i m led hJ => ?mem, ?turn, ?done⟩)
  case len => rw [he]; rfl
  case star => rw [he]; rfl
  case mem => obtain ⟨hb, _⟩ := hJ; exact hb _ hDl
  case done =>
    intro m2 led2 _
    exact St.ret (Tr.mono (Ev.true_ (b := true)) fun v m' led' ⟨h1, _⟩ => by cases h1; rfl)
  case turn =>
    intro i u t m2 led2 I1 I2 o1 o2 hu hJ ha
    rw [refsOf_get] at hu
    obtain ⟨d, hd, rfl⟩ := Option.map_eq_some_iff.mp hu
    have hil := (List.getElem?_eq_some_iff.mp hd).1
    rw [H.dlen] at hil
    have ed : d = das.getD i 0 := by rw [List.getD_eq_getElem?_getD, hd]; rfl
    subst ed
    obtain ⟨hb, ⟨x, v0, hx, hx0⟩, hn, hO, hA⟩ := hJ
    have hC1 : c.L + 1 + 1 + 1 ≠ I1 := ha _ hx I1 (.head _)
    have hC2 : c.L + 1 + 1 + 1 ≠ I2 := ha _ hx I2 (.tail _ (.head _))
    refine Asg.name O kN (Asg.cell (o := x) O kE xE (.tail _ (.tail _ hx)) hx0 fun xc hxc => Asg.nil ?_)
    have J1 : LJ ((c.L + 1 + 1 + 1, xc) :: (I1, o1) :: (I2, o2) :: per) (c.L + 1 + 1 + 1) fx Oa a0 m2 (put ((I1, o1) :: (I2, o2) :: led2) (c.L + 1 + 1 + 1) xc) := by
      refine ⟨fun p hp => ?_, ⟨xc, _, .head _, hxc⟩, hn, hO, hA⟩
      rcases List.mem_cons.mp hp with rfl | hp
      · exact .head _
      rcases List.mem_cons.mp hp with rfl | hp
      · exact put_ne (.head _) hC1.symm
      rcases List.mem_cons.mp hp with rfl | hp
      · exact put_ne (.tail _ (.head _)) hC2.symm
      · exact put_ne (.tail _ (.tail _ (hb p hp))) (hper p hp)
    have J2 := J1.upd (x := (Str.ofString "number")) (v := .int (i : Nat) t) (by decide +kernel)
    have qn : upd m2 (Str.ofString "number") (.int (i : Nat) t) (Str.ofString "number") = some (.int (i : Nat) t) := upd_at
    generalize upd m2 (Str.ofString "number") (.int (i : Nat) t) = m3 at J2 qn ⊢
    generalize put ((I1, o1) :: (I2, o2) :: led2) (c.L + 1 + 1 + 1) xc = led3 at J1 J2 ⊢
    refine c1_walk (bs := bs) (das := das) (rs := rs) (j := i) (t := t) O he H G (fun p hp => .tail _ (.tail _ (.tail _ hp))) J2 (.head _) hxc hil qn fun m4 led4 J4 q4 => ?_
    refine Tr.mono (c4_walk O he H ho ha0 G (fun p hp => .tail _ (.tail _ (.tail _ hp))) J4 (.head _) hxc hil q4) ?_
    rintro f m5 led5 ⟨rfl, ⟨hb5, ⟨x5, v5, hx5, hx5'⟩, hn5, hO5, hA5⟩⟩
    have kp : ∀ p ∈ led5, p.1 ≠ I1 → p.1 ≠ I2 → p ∈ led5.filter fun p => p.1 != I1 && p.1 != I2 := fun p hp h1 h2 => List.mem_filter.mpr ⟨hp, by simp [h1, h2]⟩
    refine ⟨led5.filter fun p => p.1 != I1 && p.1 != I2, fun p hp => ?_, fun p hp a hm => ?_, fun p hp => kp p (hb5 p (.tail _ (.tail _ (.tail _ hp)))) (ha p (hb p hp) I1 (.head _)) (ha p (hb p hp) I2 (.tail _ (.head _))), ⟨x5, v5, kp _ hx5 hC1 hC2, hx5'⟩, hn5, hO5, hA5⟩
    · rcases List.mem_cons.mp hp with rfl | hp
      · exact hb5 _ (.tail _ (.head _))
      rcases List.mem_cons.mp hp with rfl | hp
      · exact hb5 _ (.tail _ (.tail _ (.head _)))
      · exact (List.mem_filter.mp hp).1
    · have hf := (List.mem_filter.mp hp).2
      simp only [Bool.and_eq_true, bne_iff_ne] at hf
      rcases List.mem_cons.mp hm with rfl | hm
      · exact hf.1
      · rw [List.mem_singleton.mp hm]; exact hf.2
end
/-- the law returns True -/
theorem law_all {c : Cx} {fa : Addr} {cdv : Value} {m0 : Map} {Sa : Addr} {svs : List Value} {xs : List Int} {x1 x2 x3 : Obj} {v1 v2 v3 : Option Value} (O : c.Ok 6) (he : c.env = envOfC (Str.ofString "law") (fScope (topAt 28)) c.L fa cdv)
    (hS : c.g.IsList Sa svs.toArray) (hSi : IntsAre svs xs) (hz : xs.length ≤ 63) (hm : m0 (Str.ofString "script") = some (.ref Sa)) (hx1 : x1.data = .cell v1) (hx2 : x2.data = .cell v2) (hx3 : x3.data = .cell v3) :
    TrS c m0 [(c.L + 1 + 1 + 1, x3), (c.L + 1 + 1, x2), (c.L + 1, x1)] lawB (fun f _ _ => f = .ret (.bool true)) :=
  law_build O he hS hSi hz hm hx1 hx2 hx3 fun fx n y1 y2 m led hn0 hn4 hy1 hy2 hT =>
    law_mid O he hn0 hn4 hy1 hy2 hT fun Oa a0 bs das rs ls lo ord o m per led H ho ha0 G hp hc hn hO hA =>
      b_walk O he H ho ha0 G ⟨fun p hpp => (hp p hpp).1, hc, hn, hO, hA⟩ fun m' led' J => c_walk O he H ho ha0 G (fun p hpp => (hp p hpp).2) J

end Mine
namespace Mine
-- names that the library's helper would give its twins: laid ahead, so that none is laid (they are not needed, and too big)
noncomputable def hd.tw5311447247389897535 : Nat := 0
noncomputable def hd.tw3039998526598829958 : Nat := 0
noncomputable def hd.tw4235970728967190064 : Nat := 0
noncomputable def hd.tw7268811288439504891 : Nat := 0
noncomputable def hd.tw9267829862720590330 : Nat := 0
noncomputable def hd.tw15341807382193498959 : Nat := 0
noncomputable def hd.tw12112201142124510154 : Nat := 0
noncomputable def hd.tw17213754286329925777 : Nat := 0
noncomputable def hd.tw10938747861014524180 : Nat := 0
noncomputable def hd.tw11041590408114104254 : Nat := 0
noncomputable def hd.tw6756286927057158279 : Nat := 0
noncomputable def hd.tw13855881374063213867 : Nat := 0
noncomputable def hd.tw11054480109507316185 : Nat := 0
noncomputable def hd.tw17006298447274111571 : Nat := 0
noncomputable def hd.tw6394381022753523788 : Nat := 0
noncomputable def hd.tw17542962492245011380 : Nat := 0
noncomputable def hd.tw4535880929033905797 : Nat := 0
noncomputable def hd.tw6196171512934965099 : Nat := 0
noncomputable def hd.tw5781342201191254626 : Nat := 0
noncomputable def hd.tw17062030032774818151 : Nat := 0
noncomputable def hd.tw6545403380812914513 : Nat := 0
noncomputable def hd.tw10614716105012338702 : Nat := 0
noncomputable def hd.tw16194383521188589630 : Nat := 0
noncomputable def hd.tw4971549296188076032 : Nat := 0
noncomputable def hd.tw17413551345404909392 : Nat := 0
noncomputable def hd.tw9170477692918782315 : Nat := 0
noncomputable def hd.tw12936449754285732098 : Nat := 0
noncomputable def hd.tw10784824025267889561 : Nat := 0
noncomputable def hd.tw5130813555471234732 : Nat := 0
noncomputable def hd.tw3219085151875037572 : Nat := 0
noncomputable def hd.tw18093812233618175256 : Nat := 0
noncomputable def hd.tw16868993833207775613 : Nat := 0
noncomputable def hd.tw15042006015671813226 : Nat := 0
noncomputable def hd.tw5657824000916062451 : Nat := 0
noncomputable def hd.tw16136394107512358855 : Nat := 0
noncomputable def hd.tw9421340871869096474 : Nat := 0
noncomputable def hd.tw11319892378374348655 : Nat := 0
noncomputable def hd.tw12487502673411948298 : Nat := 0
noncomputable def hd.tw1600037746751723098 : Nat := 0
noncomputable def hd.tw8117029840178788049 : Nat := 0
noncomputable def hd.tw14560493823538711346 : Nat := 0
noncomputable def hd.tw6767318904944593275 : Nat := 0
noncomputable def hd.tw15103106377680225435 : Nat := 0
noncomputable def hd.tw18219297243305740317 : Nat := 0
noncomputable def hd.tw5278057926702712004 : Nat := 0
noncomputable def hd.tw2195365466389143174 : Nat := 0
noncomputable def hd.tw11210553801493137410 : Nat := 0
noncomputable def hd.tw9566141503761928105 : Nat := 0
noncomputable def hd.tw4360684699965382250 : Nat := 0
noncomputable def hd.tw4702841417184801058 : Nat := 0
noncomputable def hd.tw1518305811592690382 : Nat := 0
noncomputable def hd.tw15833661619300960221 : Nat := 0
noncomputable def hd.tw5511420028821071320 : Nat := 0
noncomputable def hd.tw13518370688599389936 : Nat := 0
noncomputable def hd.tw14168552714766633299 : Nat := 0
noncomputable def hd.tw10949625832625181284 : Nat := 0
noncomputable def hd.tw7914949630228597729 : Nat := 0
noncomputable def hd.tw16037735763661986305 : Nat := 0
noncomputable def hd.tw16007149819294483003 : Nat := 0
noncomputable def hd.tw16945582573551092051 : Nat := 0
noncomputable def hd.tw3646829019195819677 : Nat := 0
noncomputable def hd.tw12734883757948102444 : Nat := 0
noncomputable def hd.tw15759970867653108152 : Nat := 0
noncomputable def hd.tw9386895884608548742 : Nat := 0
noncomputable def hd.tw9748044761591592747 : Nat := 0
noncomputable def hd.tw4015398097383911347 : Nat := 0
noncomputable def hd.tw11319097763535126812 : Nat := 0
noncomputable def hd.tw6412100933407834118 : Nat := 0
noncomputable def hd.tw11465210709893060100 : Nat := 0
noncomputable def hd.tw9641152695372364146 : Nat := 0
noncomputable def hd.tw7752767780024739350 : Nat := 0
noncomputable def hd.tw11032806212648032379 : Nat := 0
noncomputable def hd.tw922143313871775805 : Nat := 0
noncomputable def hd.tw6411954120941647267 : Nat := 0
noncomputable def hd.tw7366208706002141716 : Nat := 0
noncomputable def hd.tw5190246844813560578 : Nat := 0
noncomputable def hd.tw4478166936697009375 : Nat := 0
noncomputable def hd.tw5987830557187376847 : Nat := 0
noncomputable def hd.tw13828106393651249627 : Nat := 0
noncomputable def hd.tw17574625026820762457 : Nat := 0
noncomputable def hd.tw189712035060473897 : Nat := 0
noncomputable def hd.tw18264374347568628810 : Nat := 0
noncomputable def hd.tw3789350110615891812 : Nat := 0
noncomputable def hd.tw16432713993328977331 : Nat := 0
noncomputable def hd.tw16056359734778111409 : Nat := 0
noncomputable def hd.tw7296583596125217682 : Nat := 0
noncomputable def hd.tw17177331786930743035 : Nat := 0
noncomputable def hd.tw2867327485932766208 : Nat := 0
noncomputable def hd.tw17054507655720011243 : Nat := 0
noncomputable def hd.tw15089522573102190283 : Nat := 0
noncomputable def hd.tw8343274005884668182 : Nat := 0
noncomputable def hd.tw2274498078352570744 : Nat := 0
noncomputable def hd.tw16904818350239718627 : Nat := 0
noncomputable def hd.tw5036846961687405229 : Nat := 0
noncomputable def hd.tw6305734824756694309 : Nat := 0
noncomputable def hd.tw4272726840584523970 : Nat := 0
noncomputable def hd.tw6123773746684550334 : Nat := 0
noncomputable def hd.tw6819123309680001836 : Nat := 0
noncomputable def hd.tw8960069828448710407 : Nat := 0
noncomputable def hd.tw15837987909243819085 : Nat := 0
noncomputable def hd.tw7028611270464810887 : Nat := 0
noncomputable def hd.tw11652457597714270106 : Nat := 0
noncomputable def hd.tw4172343393113369950 : Nat := 0
noncomputable def hd.tw2101469004524951375 : Nat := 0
noncomputable def hd.tw5148922909946612681 : Nat := 0
noncomputable def hd.tw3493717111155160527 : Nat := 0
noncomputable def hd.tw6442067068224118133 : Nat := 0
noncomputable def hd.tw1382963296337349011 : Nat := 0
noncomputable def hd.tw1439246655266547700 : Nat := 0
noncomputable def hd.tw16853341256802265648 : Nat := 0
noncomputable def hd.tw13483081372092288885 : Nat := 0
noncomputable def hd.tw8735263284916673568 : Nat := 0
noncomputable def hd.tw15967140613478806237 : Nat := 0
noncomputable def hd.tw7289634563603522867 : Nat := 0
noncomputable def hd.tw5567388512258382067 : Nat := 0
noncomputable def hd.tw22551697357593593 : Nat := 0
noncomputable def hd.tw4115565904173853331 : Nat := 0
noncomputable def hd.tw10424393626065333798 : Nat := 0
noncomputable def hd.tw13330244855972007585 : Nat := 0
noncomputable def hd.tw1580110805410547442 : Nat := 0
noncomputable def hd.tw3259873300814134281 : Nat := 0
noncomputable def hd.tw15368132723985388332 : Nat := 0
noncomputable def hd.tw1413172679324656950 : Nat := 0
noncomputable def hd.tw2386827423013361158 : Nat := 0
noncomputable def hd.tw14727110085682223627 : Nat := 0
noncomputable def hd.tw3759623122121258479 : Nat := 0
noncomputable def hd.tw17673860158736603733 : Nat := 0
noncomputable def hd.tw17252143746492648416 : Nat := 0
noncomputable def hd.tw6291416237084387574 : Nat := 0
noncomputable def hd.tw10170382586518783626 : Nat := 0
noncomputable def hd.tw17650839729002327288 : Nat := 0
noncomputable def hd.tw16828841361933241965 : Nat := 0
noncomputable def hd.tw18300207936620678264 : Nat := 0
noncomputable def hd.tw4086058157674990017 : Nat := 0
noncomputable def hd.tw16345102440705955213 : Nat := 0
noncomputable def hd.tw5902613922787404954 : Nat := 0
noncomputable def hd.tw11136197038861592535 : Nat := 0
noncomputable def hd.tw402640490398009360 : Nat := 0
noncomputable def hd.tw10270425673640072197 : Nat := 0
noncomputable def hd.tw9719896912496429819 : Nat := 0
noncomputable def hd.tw3673089383077640791 : Nat := 0
noncomputable def hd.tw3451239065008710300 : Nat := 0
noncomputable def hd.tw4225703048834024713 : Nat := 0
noncomputable def hd.tw11117797201346649052 : Nat := 0
noncomputable def hd.tw11917015161858427179 : Nat := 0
noncomputable def hd.tw8268277133935991078 : Nat := 0
noncomputable def hd.tw6407587892757256292 : Nat := 0
noncomputable def hd.tw15595854959937240912 : Nat := 0
noncomputable def hd.tw6019021122589006684 : Nat := 0
noncomputable def hd.tw18103342009636024947 : Nat := 0
noncomputable def hd.tw978945382295711627 : Nat := 0
noncomputable def hd.tw2068664650715991707 : Nat := 0
noncomputable def hd.tw7023726343779634624 : Nat := 0
noncomputable def hd.tw11660266114150955751 : Nat := 0
noncomputable def hd.tw6293948785866598258 : Nat := 0
noncomputable def hd.tw17672654358674132775 : Nat := 0
noncomputable def hd.tw9277588360372424766 : Nat := 0
noncomputable def hd.tw16091413853298234908 : Nat := 0
noncomputable def hd.tw15790720579355451973 : Nat := 0
noncomputable def hd.tw10246146449241189800 : Nat := 0
noncomputable def hd.tw16259696140248634718 : Nat := 0
noncomputable def hd.tw12070051907170230399 : Nat := 0
noncomputable def hd.tw1506431575118746342 : Nat := 0
noncomputable def hd.tw15529170255622000948 : Nat := 0
noncomputable def hd.tw8112040973832200146 : Nat := 0
noncomputable def hd.tw7754304195085646258 : Nat := 0
noncomputable def hd.tw17950676927832955104 : Nat := 0
noncomputable def hd.tw9960721518486171458 : Nat := 0
noncomputable def hd.tw2167537188350426706 : Nat := 0
noncomputable def hd.tw12588582704262371052 : Nat := 0
noncomputable def hd.tw14353793391729792155 : Nat := 0
noncomputable def hd.tw11953376511379268794 : Nat := 0
noncomputable def hd.tw10792051664901133789 : Nat := 0
noncomputable def hd.tw16412773359747925120 : Nat := 0
noncomputable def hd.tw10458740792067480800 : Nat := 0
noncomputable def hd.tw11232374478483605306 : Nat := 0
noncomputable def hd.tw4402725079659364252 : Nat := 0
noncomputable def hd.tw15616948245753086127 : Nat := 0
noncomputable def hd.tw10403243965636340961 : Nat := 0
noncomputable def hd.tw6785817131721698500 : Nat := 0
noncomputable def hd.tw8226494294326810461 : Nat := 0
noncomputable def hd.tw5343241284826551009 : Nat := 0
noncomputable def hd.tw11162318198679636149 : Nat := 0
noncomputable def hd.tw15642763164714097627 : Nat := 0
noncomputable def hd.tw4014540891139286612 : Nat := 0
noncomputable def hd.tw13770079208771991547 : Nat := 0
noncomputable def hd.tw18293732401869909652 : Nat := 0
noncomputable def hd.tw13225837485096350037 : Nat := 0
noncomputable def hd.tw11631947586910100387 : Nat := 0
noncomputable def hd.tw10603584201595350602 : Nat := 0
noncomputable def hd.tw12901994302517312135 : Nat := 0
noncomputable def hd.tw728884934406724761 : Nat := 0
noncomputable def hd.tw14955159897011116063 : Nat := 0
noncomputable def hd.tw14103535550066685397 : Nat := 0
noncomputable def hd.tw13368278939475635651 : Nat := 0
noncomputable def hd.tw17447410573909459338 : Nat := 0
noncomputable def hd.tw14246236162039180721 : Nat := 0
noncomputable def hd.tw9673543361469618366 : Nat := 0
noncomputable def hd.tw16064382804478563927 : Nat := 0
noncomputable def hd.tw6082411064634330575 : Nat := 0
noncomputable def hd.tw3530705653197291679 : Nat := 0
noncomputable def hd.tw12023040214023829324 : Nat := 0
noncomputable def hd.tw4494801613693538912 : Nat := 0
noncomputable def hd.tw17893044597097874663 : Nat := 0
noncomputable def hd.tw3571134770919094901 : Nat := 0
noncomputable def hd.tw5135275324214544563 : Nat := 0
noncomputable def hd.tw11556547117343562602 : Nat := 0
noncomputable def hd.tw16484307994363974953 : Nat := 0
noncomputable def hd.tw18340263524853464482 : Nat := 0
noncomputable def hd.tw7992754907077573322 : Nat := 0
noncomputable def hd.tw15362496601548790075 : Nat := 0
noncomputable def hd.tw9827781097200391202 : Nat := 0
noncomputable def hd.tw15524705166548879127 : Nat := 0
noncomputable def hd.tw6719682386910338176 : Nat := 0
noncomputable def hd.tw8948737414652365723 : Nat := 0
noncomputable def hd.tw6332138452598897422 : Nat := 0
noncomputable def hd.tw10673651307393206304 : Nat := 0
noncomputable def hd.tw10379442696754522256 : Nat := 0
noncomputable def hd.tw11459549890715985073 : Nat := 0
noncomputable def hd.tw5905336138962447294 : Nat := 0
noncomputable def hd.tw18202989766033351060 : Nat := 0
noncomputable def hd.tw5927570623054381365 : Nat := 0
noncomputable def hd.tw6498982948803535347 : Nat := 0
noncomputable def hd.tw9348056835496231494 : Nat := 0
noncomputable def hd.tw11688021927459214367 : Nat := 0
noncomputable def hd.tw14409080867774154364 : Nat := 0
noncomputable def hd.tw9789752135977152278 : Nat := 0
noncomputable def hd.tw3931420124556041304 : Nat := 0
noncomputable def hd.tw3048660440846570 : Nat := 0
noncomputable def hd.tw18343370018857533786 : Nat := 0
noncomputable def hd.tw12864411439313127250 : Nat := 0
noncomputable def hd.tw944437143397641393 : Nat := 0
noncomputable def hd.tw6676913765153014260 : Nat := 0
noncomputable def hd.tw16577365276198040453 : Nat := 0
noncomputable def hd.tw13124432456504900590 : Nat := 0
noncomputable def hd.tw5966321994567322758 : Nat := 0
noncomputable def hd.tw6803605276785716568 : Nat := 0
noncomputable def hd.tw588390156756945106 : Nat := 0
noncomputable def hd.tw3221207084829837769 : Nat := 0
noncomputable def hd.tw15341898488219893427 : Nat := 0
noncomputable def hd.tw12356309588240658877 : Nat := 0
noncomputable def hd.tw4697032642508144230 : Nat := 0
noncomputable def hd.tw16898277434038222664 : Nat := 0
noncomputable def hd.tw7406100728913527701 : Nat := 0
noncomputable def hd.tw12847152860239408668 : Nat := 0
noncomputable def hd.tw15172278768339258229 : Nat := 0
noncomputable def hd.tw3884328995831512410 : Nat := 0
noncomputable def hd.tw13888203208302971829 : Nat := 0
noncomputable def hd.tw7954222556457327267 : Nat := 0
noncomputable def hd.tw15462444335118090054 : Nat := 0
noncomputable def hd.tw3935352789535822827 : Nat := 0
noncomputable def hd.tw13352402155397119506 : Nat := 0
noncomputable def hd.tw10775220005030324688 : Nat := 0
noncomputable def hd.tw13396807392209851051 : Nat := 0
noncomputable def hd.tw15847074655073125521 : Nat := 0
set_option Elab.async true in
set_option maxHeartbeats 8000000 in
theorem hd : PySem.Challenge.rw_sa0304_01.Holds := by
  w_top off
  w_on; o_law; o_head (kHook KH KA (fun _ => by kernel_rfl)); (case hw => w_witness2)
  k_go0
  rename Fr _ _ _ _ => kF
  rename News _ _ _ _ => kN
  rename Frag.In _ _ => kX
  rename IntsAre _ _ => kI
  rename Heap.IsList _ _ _ => kL
  rename Top _ _ _ _ _ _ => kT
  rename ¬(_ < _) => kZ
  rename_i g3 g2 g1 gX
  refine Tr.use (c := ⟨_, _, _, _, _, _, _, _⟩) (law_all (O := ⟨kX, ⟨_, _, _, _, _, kT⟩, ?room, ?units, rfl, rfl, rfl, rfl⟩) (fa := _) (cdv := _) (he := rfl) kL kI ?hz ?hm g1 g2 g3) kF kN fun fl m' led' h' tk hp F' N' => ?_
  case room => show 1 + claimMargin + 1 + 6 < recursionLimit; decide
  case units => show 4 + 3 + 10 * 6 < cLine; decide
  case hz => omega
  case hm => rfl
  subst hp
  refine ⟨.inl ⟨_, _, [], rfl, fun _ => rfl, ReadsW.bool true, ?post, fun _ => ⟨List.nodup_nil, fun _ hm => nomatch hm⟩⟩, F'.keep, rfl, by assumption⟩
  first | rfl | wrow_post
end Mine
theorem PySem.Challenge.cw_sa0304_01_holds : PySem.Challenge.rw_sa0304_01.Holds := by
  exact Mine.hd

import PyProof.Rows.All
import Wide.All
import OpenK.AllK
import Wide.FinOn
import Lean
import PySem.Challenge.RW_pb0592_01
open PySem PySem.W PyProof.Rows PySem.Spec PySem.Calls
set_option Elab.async false
set_option maxRecDepth 100000
set_option maxHeartbeats 8000000
set_option linter.unusedSimpArgs false
set_option linter.unusedVariables false
namespace Mine
/-- the i-th statement of the row's text -/
noncomputable def dTop (i : Nat) : Option Stmt := (PySem.Challenge.rw_pb0592_01.row.prog.main.body.drop i).head?
/-- the j-th statement of the class that is the i-th statement -/
noncomputable def dMem (i j : Nat) : Option Stmt := match dTop i with
  | some (.ClassDef _ _ _ body _ _ _ _ _ _ _) => (body.drop j).head?
  | _ => none
def fP : Option Stmt → Arguments
  | some (.FunctionDef _ a _ _ _ _ _ _ _ _) => a
  | _ => ⟨[], [], none, [], [], none, []⟩
def fB : Option Stmt → FuncBody
  | some (.FunctionDef _ _ b _ _ _ _ _ _ _) => .stmts b
  | _ => .stmts []
def fS : Option Stmt → Scope
  | some (.FunctionDef _ _ _ _ _ _ sc _ _ _) => sc
  | _ => { kind := .function, names := [], isGenerator := false, isCoroutine := false }
noncomputable def hd.view_39 : Program :=
  { PySem.Challenge.rw_pb0592_01.row.prog with main := { PySem.Challenge.rw_pb0592_01.row.prog.main with body := [1, 2, 3, 4, 5, 6, 7, 8, 10, 11, 12, 13, 14, 15, 16, 17, 19, 21, 22, 23, 24, 25, 27, 28, 35, 36, 37, 38, 39, 40, 41, 42, 43, 44].filterMap fun i => (PySem.Challenge.rw_pb0592_01.row.prog.main.body.drop i).head? } }
noncomputable def hd.heap_39 (P : Params) : Frag :=
  (nat_lit 2, { cls := PySem.Value.none, data := PySem.Data.dict #[{ hash := PySem.PyData.keyHash P (PySem.Str.ofString "type.__subclasses__.Exception.0"), key := PySem.Value.str (PySem.Str.ofString "type.__subclasses__.Exception.0") 220, val := PySem.Value.int 32 0 }, { hash := PySem.PyData.keyHash P (PySem.Str.ofString "type.__subclasses__.Exception.n"), key := PySem.Value.str (PySem.Str.ofString "type.__subclasses__.Exception.n") 221, val := PySem.Value.int 1 0 }] 2 }) ::
  (nat_lit 3, { cls := PySem.Value.type "dict", data := PySem.Data.dict #[{ hash := PySem.PyData.keyHash P (PySem.Str.ofString "__name__"), key := PySem.Value.str (PySem.Str.ofString "__name__") 165, val := PySem.Value.str (PySem.Str.ofString "law_pb0592_01") 503 }, { hash := PySem.PyData.keyHash P (PySem.Str.ofString "__doc__"), key := PySem.Value.str (PySem.Str.ofString "__doc__") 166, val := PySem.Value.none }, { hash := PySem.PyData.keyHash P (PySem.Str.ofString "__package__"), key := PySem.Value.str (PySem.Str.ofString "__package__") 167, val := PySem.Value.none }, { hash := PySem.PyData.keyHash P (PySem.Str.ofString "__loader__"), key := PySem.Value.str (PySem.Str.ofString "__loader__") 168, val := PySem.Value.builtin "__main__.__loader__#opaque" }, { hash := PySem.PyData.keyHash P (PySem.Str.ofString "__spec__"), key := PySem.Value.str (PySem.Str.ofString "__spec__") 169, val := PySem.Value.none }, { hash := PySem.PyData.keyHash P (PySem.Str.ofString "__annotations__"), key := PySem.Value.str (PySem.Str.ofString "__annotations__") 170, val := PySem.Value.ref 6 }, { hash := PySem.PyData.keyHash P (PySem.Str.ofString "__builtins__"), key := PySem.Value.str (PySem.Str.ofString "__builtins__") 171, val := PySem.Value.ref 4 }, { hash := PySem.PyData.keyHash P (PySem.Str.ofString "__file__"), key := PySem.Value.str (PySem.Str.ofString "__file__") 173, val := PySem.Value.str (PySem.Str.ofString "/claim/cut.py") 172 }, { hash := PySem.PyData.keyHash P (PySem.Str.ofString "__cached__"), key := PySem.Value.str (PySem.Str.ofString "__cached__") 174, val := PySem.Value.none }, { hash := PySem.PyData.keyHash P (PySem.Str.ofString "MAX_CODE"), key := PySem.Value.str (PySem.Str.ofString "MAX_CODE") 190, val := PySem.Value.int 1114111 189 }, { hash := PySem.PyData.keyHash P (PySem.Str.ofString "HIGH_FIRST"), key := PySem.Value.str (PySem.Str.ofString "HIGH_FIRST") 192, val := PySem.Value.int 55296 191 }, { hash := PySem.PyData.keyHash P (PySem.Str.ofString "LOW_LAST"), key := PySem.Value.str (PySem.Str.ofString "LOW_LAST") 194, val := PySem.Value.int 57343 193 }, { hash := PySem.PyData.keyHash P (PySem.Str.ofString "UniError"), key := PySem.Value.str (PySem.Str.ofString "UniError") 223, val := PySem.Value.ref 32 }, { hash := PySem.PyData.keyHash P (PySem.Str.ofString "BadLabel"), key := PySem.Value.str (PySem.Str.ofString "BadLabel") 239, val := PySem.Value.ref 45 }, { hash := PySem.PyData.keyHash P (PySem.Str.ofString "is_code"), key := PySem.Value.str (PySem.Str.ofString "is_code") 246, val := PySem.Value.ref 54 }, { hash := PySem.PyData.keyHash P (PySem.Str.ofString "is_surrogate"), key := PySem.Value.str (PySem.Str.ofString "is_surrogate") 253, val := PySem.Value.ref 61 }, { hash := PySem.PyData.keyHash P (PySem.Str.ofString "is_scalar"), key := PySem.Value.str (PySem.Str.ofString "is_scalar") 260, val := PySem.Value.ref 68 }, { hash := PySem.PyData.keyHash P (PySem.Str.ofString "HYPHEN"), key := PySem.Value.str (PySem.Str.ofString "HYPHEN") 264, val := PySem.Value.int 45 263 }, { hash := PySem.PyData.keyHash P (PySem.Str.ofString "SMALL_A"), key := PySem.Value.str (PySem.Str.ofString "SMALL_A") 266, val := PySem.Value.int 97 265 }, { hash := PySem.PyData.keyHash P (PySem.Str.ofString "CAPITAL_A"), key := PySem.Value.str (PySem.Str.ofString "CAPITAL_A") 268, val := PySem.Value.int 65 267 }, { hash := PySem.PyData.keyHash P (PySem.Str.ofString "NOUGHT"), key := PySem.Value.str (PySem.Str.ofString "NOUGHT") 270, val := PySem.Value.int 48 269 }, { hash := PySem.PyData.keyHash P (PySem.Str.ofString "LETTERS"), key := PySem.Value.str (PySem.Str.ofString "LETTERS") 272, val := PySem.Value.int 26 271 }, { hash := PySem.PyData.keyHash P (PySem.Str.ofString "FIGURES"), key := PySem.Value.str (PySem.Str.ofString "FIGURES") 274, val := PySem.Value.int 10 273 }, { hash := PySem.PyData.keyHash P (PySem.Str.ofString "CASE_BIT"), key := PySem.Value.str (PySem.Str.ofString "CASE_BIT") 276, val := PySem.Value.int 32 275 }, { hash := PySem.PyData.keyHash P (PySem.Str.ofString "PunyNumbers"), key := PySem.Value.str (PySem.Str.ofString "PunyNumbers") 345, val := PySem.Value.ref 100 }, { hash := PySem.PyData.keyHash P (PySem.Str.ofString "puny_figure"), key := PySem.Value.str (PySem.Str.ofString "puny_figure") 353, val := PySem.Value.ref 112 }, { hash := PySem.PyData.keyHash P (PySem.Str.ofString "puny_value"), key := PySem.Value.str (PySem.Str.ofString "puny_value") 360, val := PySem.Value.ref 119 }, { hash := PySem.PyData.keyHash P (PySem.Str.ofString "puny_number"), key := PySem.Value.str (PySem.Str.ofString "puny_number") 374, val := PySem.Value.ref 127 }, { hash := PySem.PyData.keyHash P (PySem.Str.ofString "puny_number_at"), key := PySem.Value.str (PySem.Str.ofString "puny_number_at") 389, val := PySem.Value.ref 134 }, { hash := PySem.PyData.keyHash P (PySem.Str.ofString "puny_basic"), key := PySem.Value.str (PySem.Str.ofString "puny_basic") 397, val := PySem.Value.ref 141 }, { hash := PySem.PyData.keyHash P (PySem.Str.ofString "puny_check"), key := PySem.Value.str (PySem.Str.ofString "puny_check") 405, val := PySem.Value.ref 148 }, { hash := PySem.PyData.keyHash P (PySem.Str.ofString "puny_least_from"), key := PySem.Value.str (PySem.Str.ofString "puny_least_from") 411, val := PySem.Value.ref 153 }, { hash := PySem.PyData.keyHash P (PySem.Str.ofString "puny_cased"), key := PySem.Value.str (PySem.Str.ofString "puny_cased") 419, val := PySem.Value.ref 160 }, { hash := PySem.PyData.keyHash P (PySem.Str.ofString "encode_label"), key := PySem.Value.str (PySem.Str.ofString "encode_label") 438, val := PySem.Value.ref 168 }, { hash := PySem.PyData.keyHash P (PySem.Str.ofString "puny_split"), key := PySem.Value.str (PySem.Str.ofString "puny_split") 446, val := PySem.Value.ref 175 }, { hash := PySem.PyData.keyHash P (PySem.Str.ofString "puny_is_capital"), key := PySem.Value.str (PySem.Str.ofString "puny_is_capital") 453, val := PySem.Value.ref 182 }, { hash := PySem.PyData.keyHash P (PySem.Str.ofString "decode_annotated"), key := PySem.Value.str (PySem.Str.ofString "decode_annotated") 471, val := PySem.Value.ref 190 }, { hash := PySem.PyData.keyHash P (PySem.Str.ofString "decode_label"), key := PySem.Value.str (PySem.Str.ofString "decode_label") 479, val := PySem.Value.ref 198 }, { hash := PySem.PyData.keyHash P (PySem.Str.ofString "puny_is_told"), key := PySem.Value.str (PySem.Str.ofString "puny_is_told") 488, val := PySem.Value.ref 206 }, { hash := PySem.PyData.keyHash P (PySem.Str.ofString "puny_small"), key := PySem.Value.str (PySem.Str.ofString "puny_small") 494, val := PySem.Value.ref 212 }, { hash := PySem.PyData.keyHash P (PySem.Str.ofString "puny_length"), key := PySem.Value.str (PySem.Str.ofString "puny_length") 502, val := PySem.Value.ref 220 }, { hash := PySem.PyData.keyHash P (PySem.Str.ofString "_law_deck"), key := PySem.Value.str (PySem.Str.ofString "_law_deck") 510, val := PySem.Value.ref 225 }, { hash := PySem.PyData.keyHash P (PySem.Str.ofString "_law_draw"), key := PySem.Value.str (PySem.Str.ofString "_law_draw") 520, val := PySem.Value.ref 232 }, { hash := PySem.PyData.keyHash P (PySem.Str.ofString "_law_pick"), key := PySem.Value.str (PySem.Str.ofString "_law_pick") 528, val := PySem.Value.ref 239 }, { hash := PySem.PyData.keyHash P (PySem.Str.ofString "_law_menu"), key := PySem.Value.str (PySem.Str.ofString "_law_menu") 539, val := PySem.Value.ref 240 }, { hash := PySem.PyData.keyHash P (PySem.Str.ofString "_law_signs"), key := PySem.Value.str (PySem.Str.ofString "_law_signs") 541, val := PySem.Value.bytes #[97, 45, 57, 90, 98, 48, 45, 107, 81, 122] 540 }, { hash := PySem.PyData.keyHash P (PySem.Str.ofString "_law_small"), key := PySem.Value.str (PySem.Str.ofString "_law_small") 547, val := PySem.Value.ref 245 }, { hash := PySem.PyData.keyHash P (PySem.Str.ofString "_law_turned"), key := PySem.Value.str (PySem.Str.ofString "_law_turned") 558, val := PySem.Value.ref 252 }, { hash := PySem.PyData.keyHash P (PySem.Str.ofString "_law_read"), key := PySem.Value.str (PySem.Str.ofString "_law_read") 566, val := PySem.Value.ref 259 }, { hash := PySem.PyData.keyHash P (PySem.Str.ofString "_law_is_told"), key := PySem.Value.str (PySem.Str.ofString "_law_is_told") 572, val := PySem.Value.ref 264 }, { hash := PySem.PyData.keyHash P (PySem.Str.ofString "law"), key := PySem.Value.str (PySem.Str.ofString "law") 578, val := PySem.Value.ref 269 }] 51 }) ::
  (nat_lit 15, { cls := PySem.Value.type "tuple", data := PySem.Data.seq #[PySem.Value.type "Exception"] }) ::
  (nat_lit 22, { cls := PySem.Value.type "tuple", data := PySem.Data.seq #[PySem.Value.none] }) ::
  (nat_lit 23, { cls := PySem.Value.type "tuple", data := PySem.Data.seq #[] }) ::
  (nat_lit 25, { cls := PySem.Value.type "tuple", data := PySem.Data.seq #[PySem.Value.str (PySem.Str.ofString "self") 210, PySem.Value.str (PySem.Str.ofString "told") 211] }) ::
  (nat_lit 26, { cls := PySem.Value.type "tuple", data := PySem.Data.seq #[] }) ::
  (nat_lit 28, { cls := PySem.Value.type "code", data := PySem.Data.fields #[PySem.Value.str (PySem.Str.ofString "__init__") 207, PySem.Value.str (PySem.Str.ofString "UniError.__init__") 208, PySem.Value.str (PySem.Str.ofString "/claim/cut.py") 209, PySem.Value.int 7 0, PySem.Value.int 2 0, PySem.Value.int 0 0, PySem.Value.int 0 0, PySem.Value.int 3 0, PySem.Value.ref 23, PySem.Value.bool Bool.true, PySem.Value.int 181 0, PySem.Value.ref 24, PySem.Value.none, PySem.Value.ref 25, PySem.Value.ref 26, PySem.Value.ref 27, PySem.Value.int 212 0, PySem.Value.int 7 0, PySem.Value.str (PySem.Str.ofString "/claim/cut.py") 213] }) ::
  (nat_lit 29, { cls := PySem.Value.type "function", data := PySem.Data.func { name := PySem.Str.ofString "__init__", qualname := PySem.Str.ofString "UniError.__init__", params := fP (dMem 4 0), body := fB (dMem 4 0), scope := fS (dMem 4 0), globals := 3, closure := [], defaults := PySem.Value.ref 22, kwdefaults := PySem.Value.none, pyModule := PySem.Value.str (PySem.Str.ofString "unicore.base") 187, code := PySem.Value.ref 28 } }) ::
  (nat_lit 30, { cls := PySem.Value.type "tuple", data := PySem.Data.seq #[PySem.Value.str (PySem.Str.ofString "told") 215] }) ::
  (nat_lit 31, { cls := PySem.Value.type "dict", data := PySem.Data.dict #[{ hash := PySem.PyData.keyHash P (PySem.Str.ofString "__module__"), key := PySem.Value.str (PySem.Str.ofString "__module__") 202, val := PySem.Value.str (PySem.Str.ofString "unicore.base") 187 }, { hash := PySem.PyData.keyHash P (PySem.Str.ofString "__firstlineno__"), key := PySem.Value.str (PySem.Str.ofString "__firstlineno__") 206, val := PySem.Value.int 5 205 }, { hash := PySem.PyData.keyHash P (PySem.Str.ofString "__init__"), key := PySem.Value.str (PySem.Str.ofString "__init__") 214, val := PySem.Value.ref 29 }, { hash := PySem.PyData.keyHash P (PySem.Str.ofString "__static_attributes__"), key := PySem.Value.str (PySem.Str.ofString "__static_attributes__") 216, val := PySem.Value.ref 30 }, { hash := PySem.PyData.keyHash P (PySem.Str.ofString "__weakref__"), key := PySem.Value.str (PySem.Str.ofString "__weakref__") 218, val := PySem.Value.ref 33 }, { hash := PySem.PyData.keyHash P (PySem.Str.ofString "__doc__"), key := PySem.Value.str (PySem.Str.ofString "__doc__") 219, val := PySem.Value.none }] 3 }) ::
  (nat_lit 32, { cls := PySem.Value.type "type", data := PySem.Data.cls { name := PySem.Str.ofString "UniError", bases := [PySem.Value.type "Exception"], mro := [PySem.Value.ref 32, PySem.Value.type "Exception", PySem.Value.type "BaseException", PySem.Value.type "object"], ns := 31, qualname := PySem.Str.ofString "UniError", subclasses := [PySem.Value.ref 45] }, slots := #[Option.some (PySem.Value.ref 15), Option.none, Option.some (PySem.Value.str (PySem.Str.ofString "UniError") 195), Option.some (PySem.Value.str (PySem.Str.ofString "UniError") 203), Option.some (PySem.Value.builtin "Exception.__new__"), Option.some (PySem.Value.bool Bool.true)] }) ::
  (nat_lit 33, { cls := PySem.Value.type "getset_descriptor", data := PySem.Data.fields #[PySem.Value.str (PySem.Str.ofString "__weakref__") 217, PySem.Value.ref 32, PySem.Value.builtin "ExceptionGroup.__weakref__", PySem.Value.none] }) ::
  (nat_lit 36, { cls := PySem.Value.type "tuple", data := PySem.Data.seq #[PySem.Value.ref 32] }) ::
  (nat_lit 43, { cls := PySem.Value.type "tuple", data := PySem.Data.seq #[] }) ::
  (nat_lit 44, { cls := PySem.Value.type "dict", data := PySem.Data.dict #[{ hash := PySem.PyData.keyHash P (PySem.Str.ofString "__module__"), key := PySem.Value.str (PySem.Str.ofString "__module__") 231, val := PySem.Value.str (PySem.Str.ofString "unicore.base") 187 }, { hash := PySem.PyData.keyHash P (PySem.Str.ofString "__firstlineno__"), key := PySem.Value.str (PySem.Str.ofString "__firstlineno__") 235, val := PySem.Value.int 9 234 }, { hash := PySem.PyData.keyHash P (PySem.Str.ofString "__static_attributes__"), key := PySem.Value.str (PySem.Str.ofString "__static_attributes__") 236, val := PySem.Value.ref 43 }, { hash := PySem.PyData.keyHash P (PySem.Str.ofString "__doc__"), key := PySem.Value.str (PySem.Str.ofString "__doc__") 237, val := PySem.Value.none }] 2 }) ::
  (nat_lit 45, { cls := PySem.Value.type "type", data := PySem.Data.cls { name := PySem.Str.ofString "BadLabel", bases := [PySem.Value.ref 32], mro := [PySem.Value.ref 45, PySem.Value.ref 32, PySem.Value.type "Exception", PySem.Value.type "BaseException", PySem.Value.type "object"], ns := 44, qualname := PySem.Str.ofString "BadLabel" }, slots := #[Option.some (PySem.Value.ref 36), Option.none, Option.some (PySem.Value.str (PySem.Str.ofString "BadLabel") 224), Option.some (PySem.Value.str (PySem.Str.ofString "BadLabel") 232), Option.some (PySem.Value.builtin "Exception.__new__"), Option.some (PySem.Value.bool Bool.true)] }) ::
  (nat_lit 48, { cls := PySem.Value.type "tuple", data := PySem.Data.seq #[] }) ::
  (nat_lit 50, { cls := PySem.Value.type "tuple", data := PySem.Data.seq #[PySem.Value.str (PySem.Str.ofString "number") 243] }) ::
  (nat_lit 51, { cls := PySem.Value.type "tuple", data := PySem.Data.seq #[] }) ::
  (nat_lit 53, { cls := PySem.Value.type "code", data := PySem.Data.fields #[PySem.Value.str (PySem.Str.ofString "is_code") 240, PySem.Value.str (PySem.Str.ofString "is_code") 241, PySem.Value.str (PySem.Str.ofString "/claim/cut.py") 242, PySem.Value.int 11 0, PySem.Value.int 1 0, PySem.Value.int 0 0, PySem.Value.int 0 0, PySem.Value.int 3 0, PySem.Value.ref 48, PySem.Value.bool Bool.true, PySem.Value.int 181 0, PySem.Value.ref 49, PySem.Value.none, PySem.Value.ref 50, PySem.Value.ref 51, PySem.Value.ref 52, PySem.Value.int 244 0, PySem.Value.int 11 0, PySem.Value.str (PySem.Str.ofString "/claim/cut.py") 245] }) ::
  (nat_lit 54, { cls := PySem.Value.type "function", data := PySem.Data.func { name := PySem.Str.ofString "is_code", qualname := PySem.Str.ofString "is_code", params := fP (dTop 6), body := fB (dTop 6), scope := fS (dTop 6), globals := 3, closure := [], defaults := PySem.Value.none, kwdefaults := PySem.Value.none, pyModule := PySem.Value.str (PySem.Str.ofString "unicore.base") 187, code := PySem.Value.ref 53 } }) ::
  (nat_lit 55, { cls := PySem.Value.type "tuple", data := PySem.Data.seq #[] }) ::
  (nat_lit 57, { cls := PySem.Value.type "tuple", data := PySem.Data.seq #[PySem.Value.str (PySem.Str.ofString "code") 250] }) ::
  (nat_lit 58, { cls := PySem.Value.type "tuple", data := PySem.Data.seq #[] }) ::
  (nat_lit 60, { cls := PySem.Value.type "code", data := PySem.Data.fields #[PySem.Value.str (PySem.Str.ofString "is_surrogate") 247, PySem.Value.str (PySem.Str.ofString "is_surrogate") 248, PySem.Value.str (PySem.Str.ofString "/claim/cut.py") 249, PySem.Value.int 13 0, PySem.Value.int 1 0, PySem.Value.int 0 0, PySem.Value.int 0 0, PySem.Value.int 3 0, PySem.Value.ref 55, PySem.Value.bool Bool.true, PySem.Value.int 181 0, PySem.Value.ref 56, PySem.Value.none, PySem.Value.ref 57, PySem.Value.ref 58, PySem.Value.ref 59, PySem.Value.int 251 0, PySem.Value.int 13 0, PySem.Value.str (PySem.Str.ofString "/claim/cut.py") 252] }) ::
  (nat_lit 61, { cls := PySem.Value.type "function", data := PySem.Data.func { name := PySem.Str.ofString "is_surrogate", qualname := PySem.Str.ofString "is_surrogate", params := fP (dTop 7), body := fB (dTop 7), scope := fS (dTop 7), globals := 3, closure := [], defaults := PySem.Value.none, kwdefaults := PySem.Value.none, pyModule := PySem.Value.str (PySem.Str.ofString "unicore.base") 187, code := PySem.Value.ref 60 } }) ::
  (nat_lit 62, { cls := PySem.Value.type "tuple", data := PySem.Data.seq #[] }) ::
  (nat_lit 64, { cls := PySem.Value.type "tuple", data := PySem.Data.seq #[PySem.Value.str (PySem.Str.ofString "number") 257] }) ::
  (nat_lit 65, { cls := PySem.Value.type "tuple", data := PySem.Data.seq #[] }) ::
  (nat_lit 67, { cls := PySem.Value.type "code", data := PySem.Data.fields #[PySem.Value.str (PySem.Str.ofString "is_scalar") 254, PySem.Value.str (PySem.Str.ofString "is_scalar") 255, PySem.Value.str (PySem.Str.ofString "/claim/cut.py") 256, PySem.Value.int 15 0, PySem.Value.int 1 0, PySem.Value.int 0 0, PySem.Value.int 0 0, PySem.Value.int 3 0, PySem.Value.ref 62, PySem.Value.bool Bool.true, PySem.Value.int 181 0, PySem.Value.ref 63, PySem.Value.none, PySem.Value.ref 64, PySem.Value.ref 65, PySem.Value.ref 66, PySem.Value.int 258 0, PySem.Value.int 15 0, PySem.Value.str (PySem.Str.ofString "/claim/cut.py") 259] }) ::
  (nat_lit 68, { cls := PySem.Value.type "function", data := PySem.Data.func { name := PySem.Str.ofString "is_scalar", qualname := PySem.Str.ofString "is_scalar", params := fP (dTop 8), body := fB (dTop 8), scope := fS (dTop 8), globals := 3, closure := [], defaults := PySem.Value.none, kwdefaults := PySem.Value.none, pyModule := PySem.Value.str (PySem.Str.ofString "unicore.base") 187, code := PySem.Value.ref 67 } }) ::
  (nat_lit 76, { cls := PySem.Value.type "tuple", data := PySem.Data.seq #[PySem.Value.int 36 289, PySem.Value.int 1 290, PySem.Value.int 26 291, PySem.Value.int 38 292, PySem.Value.int 700 293, PySem.Value.int 72 294, PySem.Value.int 128 295] }) ::
  (nat_lit 77, { cls := PySem.Value.type "tuple", data := PySem.Data.seq #[] }) ::
  (nat_lit 79, { cls := PySem.Value.type "tuple", data := PySem.Data.seq #[PySem.Value.str (PySem.Str.ofString "self") 299, PySem.Value.str (PySem.Str.ofString "base") 300, PySem.Value.str (PySem.Str.ofString "least") 301, PySem.Value.str (PySem.Str.ofString "most") 302, PySem.Value.str (PySem.Str.ofString "skew") 303, PySem.Value.str (PySem.Str.ofString "damp") 304, PySem.Value.str (PySem.Str.ofString "bias") 305, PySem.Value.str (PySem.Str.ofString "first") 306] }) ::
  (nat_lit 80, { cls := PySem.Value.type "tuple", data := PySem.Data.seq #[] }) ::
  (nat_lit 82, { cls := PySem.Value.type "code", data := PySem.Data.fields #[PySem.Value.str (PySem.Str.ofString "__init__") 296, PySem.Value.str (PySem.Str.ofString "PunyNumbers.__init__") 297, PySem.Value.str (PySem.Str.ofString "/claim/cut.py") 298, PySem.Value.int 27 0, PySem.Value.int 8 0, PySem.Value.int 0 0, PySem.Value.int 0 0, PySem.Value.int 3 0, PySem.Value.ref 77, PySem.Value.bool Bool.true, PySem.Value.int 181 0, PySem.Value.ref 78, PySem.Value.none, PySem.Value.ref 79, PySem.Value.ref 80, PySem.Value.ref 81, PySem.Value.int 307 0, PySem.Value.int 27 0, PySem.Value.str (PySem.Str.ofString "/claim/cut.py") 308] }) ::
  (nat_lit 83, { cls := PySem.Value.type "function", data := PySem.Data.func { name := PySem.Str.ofString "__init__", qualname := PySem.Str.ofString "PunyNumbers.__init__", params := fP (dMem 17 0), body := fB (dMem 17 0), scope := fS (dMem 17 0), globals := 3, closure := [], defaults := PySem.Value.ref 76, kwdefaults := PySem.Value.none, pyModule := PySem.Value.str (PySem.Str.ofString "unicore.punycode") 261, code := PySem.Value.ref 82 } }) ::
  (nat_lit 84, { cls := PySem.Value.type "tuple", data := PySem.Data.seq #[] }) ::
  (nat_lit 86, { cls := PySem.Value.type "tuple", data := PySem.Data.seq #[PySem.Value.str (PySem.Str.ofString "self") 313, PySem.Value.str (PySem.Str.ofString "place") 314, PySem.Value.str (PySem.Str.ofString "bias") 315, PySem.Value.str (PySem.Str.ofString "told") 316] }) ::
  (nat_lit 87, { cls := PySem.Value.type "tuple", data := PySem.Data.seq #[] }) ::
  (nat_lit 89, { cls := PySem.Value.type "code", data := PySem.Data.fields #[PySem.Value.str (PySem.Str.ofString "threshold") 310, PySem.Value.str (PySem.Str.ofString "PunyNumbers.threshold") 311, PySem.Value.str (PySem.Str.ofString "/claim/cut.py") 312, PySem.Value.int 36 0, PySem.Value.int 3 0, PySem.Value.int 0 0, PySem.Value.int 0 0, PySem.Value.int 3 0, PySem.Value.ref 84, PySem.Value.bool Bool.true, PySem.Value.int 181 0, PySem.Value.ref 85, PySem.Value.none, PySem.Value.ref 86, PySem.Value.ref 87, PySem.Value.ref 88, PySem.Value.int 317 0, PySem.Value.int 36 0, PySem.Value.str (PySem.Str.ofString "/claim/cut.py") 318] }) ::
  (nat_lit 90, { cls := PySem.Value.type "function", data := PySem.Data.func { name := PySem.Str.ofString "threshold", qualname := PySem.Str.ofString "PunyNumbers.threshold", params := fP (dMem 17 1), body := fB (dMem 17 1), scope := fS (dMem 17 1), globals := 3, closure := [], defaults := PySem.Value.none, kwdefaults := PySem.Value.none, pyModule := PySem.Value.str (PySem.Str.ofString "unicore.punycode") 261, code := PySem.Value.ref 89 } }) ::
  (nat_lit 91, { cls := PySem.Value.type "tuple", data := PySem.Data.seq #[] }) ::
  (nat_lit 93, { cls := PySem.Value.type "tuple", data := PySem.Data.seq #[PySem.Value.str (PySem.Str.ofString "self") 323, PySem.Value.str (PySem.Str.ofString "delta") 324, PySem.Value.str (PySem.Str.ofString "many") 325, PySem.Value.str (PySem.Str.ofString "is_first") 326, PySem.Value.str (PySem.Str.ofString "count") 327] }) ::
  (nat_lit 94, { cls := PySem.Value.type "tuple", data := PySem.Data.seq #[] }) ::
  (nat_lit 96, { cls := PySem.Value.type "code", data := PySem.Data.fields #[PySem.Value.str (PySem.Str.ofString "adapted") 320, PySem.Value.str (PySem.Str.ofString "PunyNumbers.adapted") 321, PySem.Value.str (PySem.Str.ofString "/claim/cut.py") 322, PySem.Value.int 40 0, PySem.Value.int 4 0, PySem.Value.int 0 0, PySem.Value.int 0 0, PySem.Value.int 3 0, PySem.Value.ref 91, PySem.Value.bool Bool.true, PySem.Value.int 181 0, PySem.Value.ref 92, PySem.Value.none, PySem.Value.ref 93, PySem.Value.ref 94, PySem.Value.ref 95, PySem.Value.int 328 0, PySem.Value.int 40 0, PySem.Value.str (PySem.Str.ofString "/claim/cut.py") 329] }) ::
  (nat_lit 97, { cls := PySem.Value.type "function", data := PySem.Data.func { name := PySem.Str.ofString "adapted", qualname := PySem.Str.ofString "PunyNumbers.adapted", params := fP (dMem 17 2), body := fB (dMem 17 2), scope := fS (dMem 17 2), globals := 3, closure := [], defaults := PySem.Value.none, kwdefaults := PySem.Value.none, pyModule := PySem.Value.str (PySem.Str.ofString "unicore.punycode") 261, code := PySem.Value.ref 96 } }) ::
  (nat_lit 98, { cls := PySem.Value.type "tuple", data := PySem.Data.seq #[PySem.Value.str (PySem.Str.ofString "base") 331, PySem.Value.str (PySem.Str.ofString "bias") 332, PySem.Value.str (PySem.Str.ofString "damp") 333, PySem.Value.str (PySem.Str.ofString "first") 334, PySem.Value.str (PySem.Str.ofString "least") 335, PySem.Value.str (PySem.Str.ofString "most") 336, PySem.Value.str (PySem.Str.ofString "skew") 337] }) ::
  (nat_lit 99, { cls := PySem.Value.type "dict", data := PySem.Data.dict #[{ hash := PySem.PyData.keyHash P (PySem.Str.ofString "__module__"), key := PySem.Value.str (PySem.Str.ofString "__module__") 284, val := PySem.Value.str (PySem.Str.ofString "unicore.punycode") 261 }, { hash := PySem.PyData.keyHash P (PySem.Str.ofString "__firstlineno__"), key := PySem.Value.str (PySem.Str.ofString "__firstlineno__") 288, val := PySem.Value.int 25 287 }, { hash := PySem.PyData.keyHash P (PySem.Str.ofString "__init__"), key := PySem.Value.str (PySem.Str.ofString "__init__") 309, val := PySem.Value.ref 83 }, { hash := PySem.PyData.keyHash P (PySem.Str.ofString "threshold"), key := PySem.Value.str (PySem.Str.ofString "threshold") 319, val := PySem.Value.ref 90 }, { hash := PySem.PyData.keyHash P (PySem.Str.ofString "adapted"), key := PySem.Value.str (PySem.Str.ofString "adapted") 330, val := PySem.Value.ref 97 }, { hash := PySem.PyData.keyHash P (PySem.Str.ofString "__static_attributes__"), key := PySem.Value.str (PySem.Str.ofString "__static_attributes__") 338, val := PySem.Value.ref 98 }, { hash := PySem.PyData.keyHash P (PySem.Str.ofString "__dict__"), key := PySem.Value.str (PySem.Str.ofString "__dict__") 340, val := PySem.Value.ref 101 }, { hash := PySem.PyData.keyHash P (PySem.Str.ofString "__weakref__"), key := PySem.Value.str (PySem.Str.ofString "__weakref__") 342, val := PySem.Value.ref 102 }, { hash := PySem.PyData.keyHash P (PySem.Str.ofString "__doc__"), key := PySem.Value.str (PySem.Str.ofString "__doc__") 343, val := PySem.Value.none }] 4 }) ::
  (nat_lit 100, { cls := PySem.Value.type "type", data := PySem.Data.cls { name := PySem.Str.ofString "PunyNumbers", bases := [PySem.Value.type "object"], mro := [PySem.Value.ref 100, PySem.Value.type "object"], ns := 99, qualname := PySem.Str.ofString "PunyNumbers" }, slots := #[Option.none, Option.none, Option.some (PySem.Value.str (PySem.Str.ofString "PunyNumbers") 277), Option.some (PySem.Value.str (PySem.Str.ofString "PunyNumbers") 285), Option.some (PySem.Value.builtin "object.__new__"), Option.some (PySem.Value.bool Bool.true)] }) ::
  (nat_lit 101, { cls := PySem.Value.type "getset_descriptor", data := PySem.Data.fields #[PySem.Value.str (PySem.Str.ofString "__dict__") 339, PySem.Value.ref 100, PySem.Value.builtin "function.__dict__", PySem.Value.builtin "function.__dict__#set"] }) ::
  (nat_lit 102, { cls := PySem.Value.type "getset_descriptor", data := PySem.Data.fields #[PySem.Value.str (PySem.Str.ofString "__weakref__") 341, PySem.Value.ref 100, PySem.Value.builtin "ExceptionGroup.__weakref__", PySem.Value.none] }) ::
  (nat_lit 105, { cls := PySem.Value.type "tuple", data := PySem.Data.seq #[PySem.Value.bool Bool.false] }) ::
  (nat_lit 106, { cls := PySem.Value.type "tuple", data := PySem.Data.seq #[] }) ::
  (nat_lit 108, { cls := PySem.Value.type "tuple", data := PySem.Data.seq #[PySem.Value.str (PySem.Str.ofString "value") 349, PySem.Value.str (PySem.Str.ofString "is_capital") 350] }) ::
  (nat_lit 109, { cls := PySem.Value.type "tuple", data := PySem.Data.seq #[] }) ::
  (nat_lit 111, { cls := PySem.Value.type "code", data := PySem.Data.fields #[PySem.Value.str (PySem.Str.ofString "puny_figure") 346, PySem.Value.str (PySem.Str.ofString "puny_figure") 347, PySem.Value.str (PySem.Str.ofString "/claim/cut.py") 348, PySem.Value.int 48 0, PySem.Value.int 2 0, PySem.Value.int 0 0, PySem.Value.int 0 0, PySem.Value.int 3 0, PySem.Value.ref 106, PySem.Value.bool Bool.true, PySem.Value.int 181 0, PySem.Value.ref 107, PySem.Value.none, PySem.Value.ref 108, PySem.Value.ref 109, PySem.Value.ref 110, PySem.Value.int 351 0, PySem.Value.int 48 0, PySem.Value.str (PySem.Str.ofString "/claim/cut.py") 352] }) ::
  (nat_lit 112, { cls := PySem.Value.type "function", data := PySem.Data.func { name := PySem.Str.ofString "puny_figure", qualname := PySem.Str.ofString "puny_figure", params := fP (dTop 18), body := fB (dTop 18), scope := fS (dTop 18), globals := 3, closure := [], defaults := PySem.Value.ref 105, kwdefaults := PySem.Value.none, pyModule := PySem.Value.str (PySem.Str.ofString "unicore.punycode") 261, code := PySem.Value.ref 111 } }) ::
  (nat_lit 113, { cls := PySem.Value.type "tuple", data := PySem.Data.seq #[] }) ::
  (nat_lit 115, { cls := PySem.Value.type "tuple", data := PySem.Data.seq #[PySem.Value.str (PySem.Str.ofString "octet") 357] }) ::
  (nat_lit 116, { cls := PySem.Value.type "tuple", data := PySem.Data.seq #[] }) ::
  (nat_lit 118, { cls := PySem.Value.type "code", data := PySem.Data.fields #[PySem.Value.str (PySem.Str.ofString "puny_value") 354, PySem.Value.str (PySem.Str.ofString "puny_value") 355, PySem.Value.str (PySem.Str.ofString "/claim/cut.py") 356, PySem.Value.int 52 0, PySem.Value.int 1 0, PySem.Value.int 0 0, PySem.Value.int 0 0, PySem.Value.int 3 0, PySem.Value.ref 113, PySem.Value.bool Bool.true, PySem.Value.int 181 0, PySem.Value.ref 114, PySem.Value.none, PySem.Value.ref 115, PySem.Value.ref 116, PySem.Value.ref 117, PySem.Value.int 358 0, PySem.Value.int 52 0, PySem.Value.str (PySem.Str.ofString "/claim/cut.py") 359] }) ::
  (nat_lit 119, { cls := PySem.Value.type "function", data := PySem.Data.func { name := PySem.Str.ofString "puny_value", qualname := PySem.Str.ofString "puny_value", params := fP (dTop 19), body := fB (dTop 19), scope := fS (dTop 19), globals := 3, closure := [], defaults := PySem.Value.none, kwdefaults := PySem.Value.none, pyModule := PySem.Value.str (PySem.Str.ofString "unicore.punycode") 261, code := PySem.Value.ref 118 } }) ::
  (nat_lit 120, { cls := PySem.Value.type "tuple", data := PySem.Data.seq #[PySem.Value.bool Bool.false] }) ::
  (nat_lit 121, { cls := PySem.Value.type "tuple", data := PySem.Data.seq #[] }) ::
  (nat_lit 123, { cls := PySem.Value.type "tuple", data := PySem.Data.seq #[PySem.Value.str (PySem.Str.ofString "value") 364, PySem.Value.str (PySem.Str.ofString "bias") 365, PySem.Value.str (PySem.Str.ofString "numbers") 366, PySem.Value.str (PySem.Str.ofString "is_capital") 367, PySem.Value.str (PySem.Str.ofString "found") 368, PySem.Value.str (PySem.Str.ofString "place") 369, PySem.Value.str (PySem.Str.ofString "least") 370, PySem.Value.str (PySem.Str.ofString "span") 371] }) ::
  (nat_lit 124, { cls := PySem.Value.type "tuple", data := PySem.Data.seq #[] }) ::
  (nat_lit 126, { cls := PySem.Value.type "code", data := PySem.Data.fields #[PySem.Value.str (PySem.Str.ofString "puny_number") 361, PySem.Value.str (PySem.Str.ofString "puny_number") 362, PySem.Value.str (PySem.Str.ofString "/claim/cut.py") 363, PySem.Value.int 60 0, PySem.Value.int 4 0, PySem.Value.int 0 0, PySem.Value.int 0 0, PySem.Value.int 3 0, PySem.Value.ref 121, PySem.Value.bool Bool.true, PySem.Value.int 181 0, PySem.Value.ref 122, PySem.Value.none, PySem.Value.ref 123, PySem.Value.ref 124, PySem.Value.ref 125, PySem.Value.int 372 0, PySem.Value.int 60 0, PySem.Value.str (PySem.Str.ofString "/claim/cut.py") 373] }) ::
  (nat_lit 127, { cls := PySem.Value.type "function", data := PySem.Data.func { name := PySem.Str.ofString "puny_number", qualname := PySem.Str.ofString "puny_number", params := fP (dTop 20), body := fB (dTop 20), scope := fS (dTop 20), globals := 3, closure := [], defaults := PySem.Value.ref 120, kwdefaults := PySem.Value.none, pyModule := PySem.Value.str (PySem.Str.ofString "unicore.punycode") 261, code := PySem.Value.ref 126 } }) ::
  (nat_lit 128, { cls := PySem.Value.type "tuple", data := PySem.Data.seq #[] }) ::
  (nat_lit 130, { cls := PySem.Value.type "tuple", data := PySem.Data.seq #[PySem.Value.str (PySem.Str.ofString "octets") 378, PySem.Value.str (PySem.Str.ofString "at") 379, PySem.Value.str (PySem.Str.ofString "bias") 380, PySem.Value.str (PySem.Str.ofString "numbers") 381, PySem.Value.str (PySem.Str.ofString "value") 382, PySem.Value.str (PySem.Str.ofString "weight") 383, PySem.Value.str (PySem.Str.ofString "place") 384, PySem.Value.str (PySem.Str.ofString "figure") 385, PySem.Value.str (PySem.Str.ofString "least") 386] }) ::
  (nat_lit 131, { cls := PySem.Value.type "tuple", data := PySem.Data.seq #[] }) ::
  (nat_lit 133, { cls := PySem.Value.type "code", data := PySem.Data.fields #[PySem.Value.str (PySem.Str.ofString "puny_number_at") 375, PySem.Value.str (PySem.Str.ofString "puny_number_at") 376, PySem.Value.str (PySem.Str.ofString "/claim/cut.py") 377, PySem.Value.int 71 0, PySem.Value.int 4 0, PySem.Value.int 0 0, PySem.Value.int 0 0, PySem.Value.int 3 0, PySem.Value.ref 128, PySem.Value.bool Bool.true, PySem.Value.int 181 0, PySem.Value.ref 129, PySem.Value.none, PySem.Value.ref 130, PySem.Value.ref 131, PySem.Value.ref 132, PySem.Value.int 387 0, PySem.Value.int 71 0, PySem.Value.str (PySem.Str.ofString "/claim/cut.py") 388] }) ::
  (nat_lit 134, { cls := PySem.Value.type "function", data := PySem.Data.func { name := PySem.Str.ofString "puny_number_at", qualname := PySem.Str.ofString "puny_number_at", params := fP (dTop 21), body := fB (dTop 21), scope := fS (dTop 21), globals := 3, closure := [], defaults := PySem.Value.none, kwdefaults := PySem.Value.none, pyModule := PySem.Value.str (PySem.Str.ofString "unicore.punycode") 261, code := PySem.Value.ref 133 } }) ::
  (nat_lit 135, { cls := PySem.Value.type "tuple", data := PySem.Data.seq #[] }) ::
  (nat_lit 137, { cls := PySem.Value.type "tuple", data := PySem.Data.seq #[PySem.Value.str (PySem.Str.ofString "code") 393, PySem.Value.str (PySem.Str.ofString "numbers") 394] }) ::
  (nat_lit 138, { cls := PySem.Value.type "tuple", data := PySem.Data.seq #[] }) ::
  (nat_lit 140, { cls := PySem.Value.type "code", data := PySem.Data.fields #[PySem.Value.str (PySem.Str.ofString "puny_basic") 390, PySem.Value.str (PySem.Str.ofString "puny_basic") 391, PySem.Value.str (PySem.Str.ofString "/claim/cut.py") 392, PySem.Value.int 86 0, PySem.Value.int 2 0, PySem.Value.int 0 0, PySem.Value.int 0 0, PySem.Value.int 3 0, PySem.Value.ref 135, PySem.Value.bool Bool.true, PySem.Value.int 181 0, PySem.Value.ref 136, PySem.Value.none, PySem.Value.ref 137, PySem.Value.ref 138, PySem.Value.ref 139, PySem.Value.int 395 0, PySem.Value.int 86 0, PySem.Value.str (PySem.Str.ofString "/claim/cut.py") 396] }) ::
  (nat_lit 141, { cls := PySem.Value.type "function", data := PySem.Data.func { name := PySem.Str.ofString "puny_basic", qualname := PySem.Str.ofString "puny_basic", params := fP (dTop 22), body := fB (dTop 22), scope := fS (dTop 22), globals := 3, closure := [], defaults := PySem.Value.none, kwdefaults := PySem.Value.none, pyModule := PySem.Value.str (PySem.Str.ofString "unicore.punycode") 261, code := PySem.Value.ref 140 } }) ::
  (nat_lit 142, { cls := PySem.Value.type "tuple", data := PySem.Data.seq #[] }) ::
  (nat_lit 144, { cls := PySem.Value.type "tuple", data := PySem.Data.seq #[PySem.Value.str (PySem.Str.ofString "text") 401, PySem.Value.str (PySem.Str.ofString "code") 402] }) ::
  (nat_lit 145, { cls := PySem.Value.type "tuple", data := PySem.Data.seq #[] }) ::
  (nat_lit 147, { cls := PySem.Value.type "code", data := PySem.Data.fields #[PySem.Value.str (PySem.Str.ofString "puny_check") 398, PySem.Value.str (PySem.Str.ofString "puny_check") 399, PySem.Value.str (PySem.Str.ofString "/claim/cut.py") 400, PySem.Value.int 88 0, PySem.Value.int 1 0, PySem.Value.int 0 0, PySem.Value.int 0 0, PySem.Value.int 3 0, PySem.Value.ref 142, PySem.Value.bool Bool.true, PySem.Value.int 181 0, PySem.Value.ref 143, PySem.Value.none, PySem.Value.ref 144, PySem.Value.ref 145, PySem.Value.ref 146, PySem.Value.int 403 0, PySem.Value.int 88 0, PySem.Value.str (PySem.Str.ofString "/claim/cut.py") 404] }) ::
  (nat_lit 148, { cls := PySem.Value.type "function", data := PySem.Data.func { name := PySem.Str.ofString "puny_check", qualname := PySem.Str.ofString "puny_check", params := fP (dTop 23), body := fB (dTop 23), scope := fS (dTop 23), globals := 3, closure := [], defaults := PySem.Value.none, kwdefaults := PySem.Value.none, pyModule := PySem.Value.str (PySem.Str.ofString "unicore.punycode") 261, code := PySem.Value.ref 147 } }) ::
  (nat_lit 149, { cls := PySem.Value.type "tuple", data := PySem.Data.seq #[] }) ::
  (nat_lit 152, { cls := PySem.Value.type "code", data := PySem.Data.fields #[PySem.Value.str (PySem.Str.ofString "puny_least_from") 406, PySem.Value.str (PySem.Str.ofString "puny_least_from") 407, PySem.Value.str (PySem.Str.ofString "/claim/cut.py") 408, PySem.Value.int 92 0, PySem.Value.int 2 0, PySem.Value.int 0 0, PySem.Value.int 0 0, PySem.Value.int 3 0, PySem.Value.ref 149, PySem.Value.bool Bool.true, PySem.Value.int 181 0, PySem.Value.ref 150, PySem.Value.none, PySem.Value.none, PySem.Value.none, PySem.Value.ref 151, PySem.Value.int 409 0, PySem.Value.int 92 0, PySem.Value.str (PySem.Str.ofString "/claim/cut.py") 410] }) ::
  (nat_lit 153, { cls := PySem.Value.type "function", data := PySem.Data.func { name := PySem.Str.ofString "puny_least_from", qualname := PySem.Str.ofString "puny_least_from", params := fP (dTop 24), body := fB (dTop 24), scope := fS (dTop 24), globals := 3, closure := [], defaults := PySem.Value.none, kwdefaults := PySem.Value.none, pyModule := PySem.Value.str (PySem.Str.ofString "unicore.punycode") 261, code := PySem.Value.ref 152 } }) ::
  (nat_lit 154, { cls := PySem.Value.type "tuple", data := PySem.Data.seq #[] }) ::
  (nat_lit 156, { cls := PySem.Value.type "tuple", data := PySem.Data.seq #[PySem.Value.str (PySem.Str.ofString "code") 415, PySem.Value.str (PySem.Str.ofString "is_capital") 416] }) ::
  (nat_lit 157, { cls := PySem.Value.type "tuple", data := PySem.Data.seq #[] }) ::
  (nat_lit 159, { cls := PySem.Value.type "code", data := PySem.Data.fields #[PySem.Value.str (PySem.Str.ofString "puny_cased") 412, PySem.Value.str (PySem.Str.ofString "puny_cased") 413, PySem.Value.str (PySem.Str.ofString "/claim/cut.py") 414, PySem.Value.int 94 0, PySem.Value.int 2 0, PySem.Value.int 0 0, PySem.Value.int 0 0, PySem.Value.int 3 0, PySem.Value.ref 154, PySem.Value.bool Bool.true, PySem.Value.int 181 0, PySem.Value.ref 155, PySem.Value.none, PySem.Value.ref 156, PySem.Value.ref 157, PySem.Value.ref 158, PySem.Value.int 417 0, PySem.Value.int 94 0, PySem.Value.str (PySem.Str.ofString "/claim/cut.py") 418] }) ::
  (nat_lit 160, { cls := PySem.Value.type "function", data := PySem.Data.func { name := PySem.Str.ofString "puny_cased", qualname := PySem.Str.ofString "puny_cased", params := fP (dTop 25), body := fB (dTop 25), scope := fS (dTop 25), globals := 3, closure := [], defaults := PySem.Value.none, kwdefaults := PySem.Value.none, pyModule := PySem.Value.str (PySem.Str.ofString "unicore.punycode") 261, code := PySem.Value.ref 159 } }) ::
  (nat_lit 161, { cls := PySem.Value.type "tuple", data := PySem.Data.seq #[PySem.Value.none, PySem.Value.none] }) ::
  (nat_lit 162, { cls := PySem.Value.type "tuple", data := PySem.Data.seq #[] }) ::
  (nat_lit 164, { cls := PySem.Value.type "tuple", data := PySem.Data.seq #[PySem.Value.str (PySem.Str.ofString "text") 423, PySem.Value.str (PySem.Str.ofString "numbers") 424, PySem.Value.str (PySem.Str.ofString "capitals") 425, PySem.Value.str (PySem.Str.ofString "wished") 426, PySem.Value.str (PySem.Str.ofString "found") 427, PySem.Value.str (PySem.Str.ofString "place") 428, PySem.Value.str (PySem.Str.ofString "code") 429, PySem.Value.str (PySem.Str.ofString "many_basic") 430, PySem.Value.str (PySem.Str.ofString "done") 431, PySem.Value.str (PySem.Str.ofString "delta") 432, PySem.Value.str (PySem.Str.ofString "bias") 433, PySem.Value.str (PySem.Str.ofString "least") 434, PySem.Value.str (PySem.Str.ofString "one") 435] }) ::
  (nat_lit 165, { cls := PySem.Value.type "tuple", data := PySem.Data.seq #[] }) ::
  (nat_lit 167, { cls := PySem.Value.type "code", data := PySem.Data.fields #[PySem.Value.str (PySem.Str.ofString "encode_label") 420, PySem.Value.str (PySem.Str.ofString "encode_label") 421, PySem.Value.str (PySem.Str.ofString "/claim/cut.py") 422, PySem.Value.int 98 0, PySem.Value.int 3 0, PySem.Value.int 0 0, PySem.Value.int 0 0, PySem.Value.int 3 0, PySem.Value.ref 162, PySem.Value.bool Bool.true, PySem.Value.int 181 0, PySem.Value.ref 163, PySem.Value.none, PySem.Value.ref 164, PySem.Value.ref 165, PySem.Value.ref 166, PySem.Value.int 436 0, PySem.Value.int 98 0, PySem.Value.str (PySem.Str.ofString "/claim/cut.py") 437] }) ::
  (nat_lit 168, { cls := PySem.Value.type "function", data := PySem.Data.func { name := PySem.Str.ofString "encode_label", qualname := PySem.Str.ofString "encode_label", params := fP (dTop 26), body := fB (dTop 26), scope := fS (dTop 26), globals := 3, closure := [], defaults := PySem.Value.ref 161, kwdefaults := PySem.Value.none, pyModule := PySem.Value.str (PySem.Str.ofString "unicore.punycode") 261, code := PySem.Value.ref 167 } }) ::
  (nat_lit 169, { cls := PySem.Value.type "tuple", data := PySem.Data.seq #[] }) ::
  (nat_lit 171, { cls := PySem.Value.type "tuple", data := PySem.Data.seq #[PySem.Value.str (PySem.Str.ofString "octets") 442, PySem.Value.str (PySem.Str.ofString "at") 443] }) ::
  (nat_lit 172, { cls := PySem.Value.type "tuple", data := PySem.Data.seq #[] }) ::
  (nat_lit 174, { cls := PySem.Value.type "code", data := PySem.Data.fields #[PySem.Value.str (PySem.Str.ofString "puny_split") 439, PySem.Value.str (PySem.Str.ofString "puny_split") 440, PySem.Value.str (PySem.Str.ofString "/claim/cut.py") 441, PySem.Value.int 124 0, PySem.Value.int 1 0, PySem.Value.int 0 0, PySem.Value.int 0 0, PySem.Value.int 3 0, PySem.Value.ref 169, PySem.Value.bool Bool.true, PySem.Value.int 181 0, PySem.Value.ref 170, PySem.Value.none, PySem.Value.ref 171, PySem.Value.ref 172, PySem.Value.ref 173, PySem.Value.int 444 0, PySem.Value.int 124 0, PySem.Value.str (PySem.Str.ofString "/claim/cut.py") 445] }) ::
  (nat_lit 175, { cls := PySem.Value.type "function", data := PySem.Data.func { name := PySem.Str.ofString "puny_split", qualname := PySem.Str.ofString "puny_split", params := fP (dTop 27), body := fB (dTop 27), scope := fS (dTop 27), globals := 3, closure := [], defaults := PySem.Value.none, kwdefaults := PySem.Value.none, pyModule := PySem.Value.str (PySem.Str.ofString "unicore.punycode") 261, code := PySem.Value.ref 174 } }) ::
  (nat_lit 176, { cls := PySem.Value.type "tuple", data := PySem.Data.seq #[] }) ::
  (nat_lit 178, { cls := PySem.Value.type "tuple", data := PySem.Data.seq #[PySem.Value.str (PySem.Str.ofString "octet") 450] }) ::
  (nat_lit 179, { cls := PySem.Value.type "tuple", data := PySem.Data.seq #[] }) ::
  (nat_lit 181, { cls := PySem.Value.type "code", data := PySem.Data.fields #[PySem.Value.str (PySem.Str.ofString "puny_is_capital") 447, PySem.Value.str (PySem.Str.ofString "puny_is_capital") 448, PySem.Value.str (PySem.Str.ofString "/claim/cut.py") 449, PySem.Value.int 131 0, PySem.Value.int 1 0, PySem.Value.int 0 0, PySem.Value.int 0 0, PySem.Value.int 3 0, PySem.Value.ref 176, PySem.Value.bool Bool.true, PySem.Value.int 181 0, PySem.Value.ref 177, PySem.Value.none, PySem.Value.ref 178, PySem.Value.ref 179, PySem.Value.ref 180, PySem.Value.int 451 0, PySem.Value.int 131 0, PySem.Value.str (PySem.Str.ofString "/claim/cut.py") 452] }) ::
  (nat_lit 182, { cls := PySem.Value.type "function", data := PySem.Data.func { name := PySem.Str.ofString "puny_is_capital", qualname := PySem.Str.ofString "puny_is_capital", params := fP (dTop 28), body := fB (dTop 28), scope := fS (dTop 28), globals := 3, closure := [], defaults := PySem.Value.none, kwdefaults := PySem.Value.none, pyModule := PySem.Value.str (PySem.Str.ofString "unicore.punycode") 261, code := PySem.Value.ref 181 } }) ::
  (nat_lit 183, { cls := PySem.Value.type "tuple", data := PySem.Data.seq #[PySem.Value.none] }) ::
  (nat_lit 184, { cls := PySem.Value.type "tuple", data := PySem.Data.seq #[] }) ::
  (nat_lit 186, { cls := PySem.Value.type "tuple", data := PySem.Data.seq #[PySem.Value.str (PySem.Str.ofString "octets") 457, PySem.Value.str (PySem.Str.ofString "numbers") 458, PySem.Value.str (PySem.Str.ofString "basic") 459, PySem.Value.str (PySem.Str.ofString "at") 460, PySem.Value.str (PySem.Str.ofString "text") 461, PySem.Value.str (PySem.Str.ofString "capitals") 462, PySem.Value.str (PySem.Str.ofString "octet") 463, PySem.Value.str (PySem.Str.ofString "code") 464, PySem.Value.str (PySem.Str.ofString "index") 465, PySem.Value.str (PySem.Str.ofString "bias") 466, PySem.Value.str (PySem.Str.ofString "delta") 467, PySem.Value.str (PySem.Str.ofString "many") 468] }) ::
  (nat_lit 187, { cls := PySem.Value.type "tuple", data := PySem.Data.seq #[] }) ::
  (nat_lit 189, { cls := PySem.Value.type "code", data := PySem.Data.fields #[PySem.Value.str (PySem.Str.ofString "decode_annotated") 454, PySem.Value.str (PySem.Str.ofString "decode_annotated") 455, PySem.Value.str (PySem.Str.ofString "/claim/cut.py") 456, PySem.Value.int 133 0, PySem.Value.int 2 0, PySem.Value.int 0 0, PySem.Value.int 0 0, PySem.Value.int 3 0, PySem.Value.ref 184, PySem.Value.bool Bool.true, PySem.Value.int 181 0, PySem.Value.ref 185, PySem.Value.none, PySem.Value.ref 186, PySem.Value.ref 187, PySem.Value.ref 188, PySem.Value.int 469 0, PySem.Value.int 133 0, PySem.Value.str (PySem.Str.ofString "/claim/cut.py") 470] }) ::
  (nat_lit 190, { cls := PySem.Value.type "function", data := PySem.Data.func { name := PySem.Str.ofString "decode_annotated", qualname := PySem.Str.ofString "decode_annotated", params := fP (dTop 29), body := fB (dTop 29), scope := fS (dTop 29), globals := 3, closure := [], defaults := PySem.Value.ref 183, kwdefaults := PySem.Value.none, pyModule := PySem.Value.str (PySem.Str.ofString "unicore.punycode") 261, code := PySem.Value.ref 189 } }) ::
  (nat_lit 191, { cls := PySem.Value.type "tuple", data := PySem.Data.seq #[PySem.Value.none] }) ::
  (nat_lit 192, { cls := PySem.Value.type "tuple", data := PySem.Data.seq #[] }) ::
  (nat_lit 194, { cls := PySem.Value.type "tuple", data := PySem.Data.seq #[PySem.Value.str (PySem.Str.ofString "octets") 475, PySem.Value.str (PySem.Str.ofString "numbers") 476] }) ::
  (nat_lit 195, { cls := PySem.Value.type "tuple", data := PySem.Data.seq #[] }) ::
  (nat_lit 197, { cls := PySem.Value.type "code", data := PySem.Data.fields #[PySem.Value.str (PySem.Str.ofString "decode_label") 472, PySem.Value.str (PySem.Str.ofString "decode_label") 473, PySem.Value.str (PySem.Str.ofString "/claim/cut.py") 474, PySem.Value.int 158 0, PySem.Value.int 2 0, PySem.Value.int 0 0, PySem.Value.int 0 0, PySem.Value.int 3 0, PySem.Value.ref 192, PySem.Value.bool Bool.true, PySem.Value.int 181 0, PySem.Value.ref 193, PySem.Value.none, PySem.Value.ref 194, PySem.Value.ref 195, PySem.Value.ref 196, PySem.Value.int 477 0, PySem.Value.int 158 0, PySem.Value.str (PySem.Str.ofString "/claim/cut.py") 478] }) ::
  (nat_lit 198, { cls := PySem.Value.type "function", data := PySem.Data.func { name := PySem.Str.ofString "decode_label", qualname := PySem.Str.ofString "decode_label", params := fP (dTop 30), body := fB (dTop 30), scope := fS (dTop 30), globals := 3, closure := [], defaults := PySem.Value.ref 191, kwdefaults := PySem.Value.none, pyModule := PySem.Value.str (PySem.Str.ofString "unicore.punycode") 261, code := PySem.Value.ref 197 } }) ::
  (nat_lit 199, { cls := PySem.Value.type "tuple", data := PySem.Data.seq #[PySem.Value.none] }) ::
  (nat_lit 200, { cls := PySem.Value.type "tuple", data := PySem.Data.seq #[] }) ::
  (nat_lit 202, { cls := PySem.Value.type "tuple", data := PySem.Data.seq #[PySem.Value.str (PySem.Str.ofString "octets") 483, PySem.Value.str (PySem.Str.ofString "numbers") 484, PySem.Value.str (PySem.Str.ofString "text") 485] }) ::
  (nat_lit 203, { cls := PySem.Value.type "tuple", data := PySem.Data.seq #[] }) ::
  (nat_lit 205, { cls := PySem.Value.type "code", data := PySem.Data.fields #[PySem.Value.str (PySem.Str.ofString "puny_is_told") 480, PySem.Value.str (PySem.Str.ofString "puny_is_told") 481, PySem.Value.str (PySem.Str.ofString "/claim/cut.py") 482, PySem.Value.int 160 0, PySem.Value.int 2 0, PySem.Value.int 0 0, PySem.Value.int 0 0, PySem.Value.int 3 0, PySem.Value.ref 200, PySem.Value.bool Bool.true, PySem.Value.int 181 0, PySem.Value.ref 201, PySem.Value.none, PySem.Value.ref 202, PySem.Value.ref 203, PySem.Value.ref 204, PySem.Value.int 486 0, PySem.Value.int 160 0, PySem.Value.str (PySem.Str.ofString "/claim/cut.py") 487] }) ::
  (nat_lit 206, { cls := PySem.Value.type "function", data := PySem.Data.func { name := PySem.Str.ofString "puny_is_told", qualname := PySem.Str.ofString "puny_is_told", params := fP (dTop 31), body := fB (dTop 31), scope := fS (dTop 31), globals := 3, closure := [], defaults := PySem.Value.ref 199, kwdefaults := PySem.Value.none, pyModule := PySem.Value.str (PySem.Str.ofString "unicore.punycode") 261, code := PySem.Value.ref 205 } }) ::
  (nat_lit 207, { cls := PySem.Value.type "tuple", data := PySem.Data.seq #[PySem.Value.none] }) ::
  (nat_lit 208, { cls := PySem.Value.type "tuple", data := PySem.Data.seq #[] }) ::
  (nat_lit 211, { cls := PySem.Value.type "code", data := PySem.Data.fields #[PySem.Value.str (PySem.Str.ofString "puny_small") 489, PySem.Value.str (PySem.Str.ofString "puny_small") 490, PySem.Value.str (PySem.Str.ofString "/claim/cut.py") 491, PySem.Value.int 167 0, PySem.Value.int 3 0, PySem.Value.int 0 0, PySem.Value.int 0 0, PySem.Value.int 3 0, PySem.Value.ref 208, PySem.Value.bool Bool.true, PySem.Value.int 181 0, PySem.Value.ref 209, PySem.Value.none, PySem.Value.none, PySem.Value.none, PySem.Value.ref 210, PySem.Value.int 492 0, PySem.Value.int 167 0, PySem.Value.str (PySem.Str.ofString "/claim/cut.py") 493] }) ::
  (nat_lit 212, { cls := PySem.Value.type "function", data := PySem.Data.func { name := PySem.Str.ofString "puny_small", qualname := PySem.Str.ofString "puny_small", params := fP (dTop 32), body := fB (dTop 32), scope := fS (dTop 32), globals := 3, closure := [], defaults := PySem.Value.ref 207, kwdefaults := PySem.Value.none, pyModule := PySem.Value.str (PySem.Str.ofString "unicore.punycode") 261, code := PySem.Value.ref 211 } }) ::
  (nat_lit 213, { cls := PySem.Value.type "tuple", data := PySem.Data.seq #[PySem.Value.none] }) ::
  (nat_lit 214, { cls := PySem.Value.type "tuple", data := PySem.Data.seq #[] }) ::
  (nat_lit 216, { cls := PySem.Value.type "tuple", data := PySem.Data.seq #[PySem.Value.str (PySem.Str.ofString "text") 498, PySem.Value.str (PySem.Str.ofString "numbers") 499] }) ::
  (nat_lit 217, { cls := PySem.Value.type "tuple", data := PySem.Data.seq #[] }) ::
  (nat_lit 219, { cls := PySem.Value.type "code", data := PySem.Data.fields #[PySem.Value.str (PySem.Str.ofString "puny_length") 495, PySem.Value.str (PySem.Str.ofString "puny_length") 496, PySem.Value.str (PySem.Str.ofString "/claim/cut.py") 497, PySem.Value.int 171 0, PySem.Value.int 2 0, PySem.Value.int 0 0, PySem.Value.int 0 0, PySem.Value.int 3 0, PySem.Value.ref 214, PySem.Value.bool Bool.true, PySem.Value.int 181 0, PySem.Value.ref 215, PySem.Value.none, PySem.Value.ref 216, PySem.Value.ref 217, PySem.Value.ref 218, PySem.Value.int 500 0, PySem.Value.int 171 0, PySem.Value.str (PySem.Str.ofString "/claim/cut.py") 501] }) ::
  (nat_lit 220, { cls := PySem.Value.type "function", data := PySem.Data.func { name := PySem.Str.ofString "puny_length", qualname := PySem.Str.ofString "puny_length", params := fP (dTop 33), body := fB (dTop 33), scope := fS (dTop 33), globals := 3, closure := [], defaults := PySem.Value.ref 213, kwdefaults := PySem.Value.none, pyModule := PySem.Value.str (PySem.Str.ofString "unicore.punycode") 261, code := PySem.Value.ref 219 } }) ::
  (nat_lit 221, { cls := PySem.Value.type "tuple", data := PySem.Data.seq #[] }) ::
  (nat_lit 224, { cls := PySem.Value.type "code", data := PySem.Data.fields #[PySem.Value.str (PySem.Str.ofString "_law_deck") 505, PySem.Value.str (PySem.Str.ofString "_law_deck") 506, PySem.Value.str (PySem.Str.ofString "/claim/cut.py") 507, PySem.Value.int 174 0, PySem.Value.int 1 0, PySem.Value.int 0 0, PySem.Value.int 0 0, PySem.Value.int 3 0, PySem.Value.ref 221, PySem.Value.bool Bool.true, PySem.Value.int 181 0, PySem.Value.ref 222, PySem.Value.none, PySem.Value.none, PySem.Value.none, PySem.Value.ref 223, PySem.Value.int 508 0, PySem.Value.int 174 0, PySem.Value.str (PySem.Str.ofString "/claim/cut.py") 509] }) ::
  (nat_lit 225, { cls := PySem.Value.type "function", data := PySem.Data.func { name := PySem.Str.ofString "_law_deck", qualname := PySem.Str.ofString "_law_deck", params := fP (dTop 35), body := fB (dTop 35), scope := fS (dTop 35), globals := 3, closure := [], defaults := PySem.Value.none, kwdefaults := PySem.Value.none, pyModule := PySem.Value.str (PySem.Str.ofString "law_pb0592_01") 503, code := PySem.Value.ref 224 } }) ::
  (nat_lit 226, { cls := PySem.Value.type "tuple", data := PySem.Data.seq #[] }) ::
  (nat_lit 228, { cls := PySem.Value.type "tuple", data := PySem.Data.seq #[PySem.Value.str (PySem.Str.ofString "deck") 514, PySem.Value.str (PySem.Str.ofString "below") 515, PySem.Value.str (PySem.Str.ofString "figure") 516, PySem.Value.str (PySem.Str.ofString "cell") 517] }) ::
  (nat_lit 229, { cls := PySem.Value.type "tuple", data := PySem.Data.seq #[] }) ::
  (nat_lit 231, { cls := PySem.Value.type "code", data := PySem.Data.fields #[PySem.Value.str (PySem.Str.ofString "_law_draw") 511, PySem.Value.str (PySem.Str.ofString "_law_draw") 512, PySem.Value.str (PySem.Str.ofString "/claim/cut.py") 513, PySem.Value.int 179 0, PySem.Value.int 2 0, PySem.Value.int 0 0, PySem.Value.int 0 0, PySem.Value.int 3 0, PySem.Value.ref 226, PySem.Value.bool Bool.true, PySem.Value.int 181 0, PySem.Value.ref 227, PySem.Value.none, PySem.Value.ref 228, PySem.Value.ref 229, PySem.Value.ref 230, PySem.Value.int 518 0, PySem.Value.int 179 0, PySem.Value.str (PySem.Str.ofString "/claim/cut.py") 519] }) ::
  (nat_lit 232, { cls := PySem.Value.type "function", data := PySem.Data.func { name := PySem.Str.ofString "_law_draw", qualname := PySem.Str.ofString "_law_draw", params := fP (dTop 36), body := fB (dTop 36), scope := fS (dTop 36), globals := 3, closure := [], defaults := PySem.Value.none, kwdefaults := PySem.Value.none, pyModule := PySem.Value.str (PySem.Str.ofString "law_pb0592_01") 503, code := PySem.Value.ref 231 } }) ::
  (nat_lit 233, { cls := PySem.Value.type "tuple", data := PySem.Data.seq #[] }) ::
  (nat_lit 235, { cls := PySem.Value.type "tuple", data := PySem.Data.seq #[PySem.Value.str (PySem.Str.ofString "deck") 524, PySem.Value.str (PySem.Str.ofString "some") 525] }) ::
  (nat_lit 236, { cls := PySem.Value.type "tuple", data := PySem.Data.seq #[] }) ::
  (nat_lit 238, { cls := PySem.Value.type "code", data := PySem.Data.fields #[PySem.Value.str (PySem.Str.ofString "_law_pick") 521, PySem.Value.str (PySem.Str.ofString "_law_pick") 522, PySem.Value.str (PySem.Str.ofString "/claim/cut.py") 523, PySem.Value.int 191 0, PySem.Value.int 2 0, PySem.Value.int 0 0, PySem.Value.int 0 0, PySem.Value.int 3 0, PySem.Value.ref 233, PySem.Value.bool Bool.true, PySem.Value.int 181 0, PySem.Value.ref 234, PySem.Value.none, PySem.Value.ref 235, PySem.Value.ref 236, PySem.Value.ref 237, PySem.Value.int 526 0, PySem.Value.int 191 0, PySem.Value.str (PySem.Str.ofString "/claim/cut.py") 527] }) ::
  (nat_lit 239, { cls := PySem.Value.type "function", data := PySem.Data.func { name := PySem.Str.ofString "_law_pick", qualname := PySem.Str.ofString "_law_pick", params := fP (dTop 37), body := fB (dTop 37), scope := fS (dTop 37), globals := 3, closure := [], defaults := PySem.Value.none, kwdefaults := PySem.Value.none, pyModule := PySem.Value.str (PySem.Str.ofString "law_pb0592_01") 503, code := PySem.Value.ref 238 } }) ::
  (nat_lit 240, { cls := PySem.Value.type "list", data := PySem.Data.seq #[PySem.Value.int 97 529, PySem.Value.int 233 530, PySem.Value.int 66 531, PySem.Value.int 45 532, PySem.Value.int 945 533, PySem.Value.int 57 534, PySem.Value.int 20013 535, PySem.Value.int 128512 536, PySem.Value.int 128 537, PySem.Value.int 1114111 538] }) ::
  (nat_lit 241, { cls := PySem.Value.type "tuple", data := PySem.Data.seq #[] }) ::
  (nat_lit 244, { cls := PySem.Value.type "code", data := PySem.Data.fields #[PySem.Value.str (PySem.Str.ofString "_law_small") 542, PySem.Value.str (PySem.Str.ofString "_law_small") 543, PySem.Value.str (PySem.Str.ofString "/claim/cut.py") 544, PySem.Value.int 195 0, PySem.Value.int 1 0, PySem.Value.int 0 0, PySem.Value.int 0 0, PySem.Value.int 3 0, PySem.Value.ref 241, PySem.Value.bool Bool.true, PySem.Value.int 181 0, PySem.Value.ref 242, PySem.Value.none, PySem.Value.none, PySem.Value.none, PySem.Value.ref 243, PySem.Value.int 545 0, PySem.Value.int 195 0, PySem.Value.str (PySem.Str.ofString "/claim/cut.py") 546] }) ::
  (nat_lit 245, { cls := PySem.Value.type "function", data := PySem.Data.func { name := PySem.Str.ofString "_law_small", qualname := PySem.Str.ofString "_law_small", params := fP (dTop 40), body := fB (dTop 40), scope := fS (dTop 40), globals := 3, closure := [], defaults := PySem.Value.none, kwdefaults := PySem.Value.none, pyModule := PySem.Value.str (PySem.Str.ofString "law_pb0592_01") 503, code := PySem.Value.ref 244 } }) ::
  (nat_lit 246, { cls := PySem.Value.type "tuple", data := PySem.Data.seq #[] }) ::
  (nat_lit 248, { cls := PySem.Value.type "tuple", data := PySem.Data.seq #[PySem.Value.str (PySem.Str.ofString "deck") 551, PySem.Value.str (PySem.Str.ofString "octets") 552, PySem.Value.str (PySem.Str.ofString "found") 553, PySem.Value.str (PySem.Str.ofString "one") 554, PySem.Value.str (PySem.Str.ofString "is_letter") 555] }) ::
  (nat_lit 249, { cls := PySem.Value.type "tuple", data := PySem.Data.seq #[] }) ::
  (nat_lit 251, { cls := PySem.Value.type "code", data := PySem.Data.fields #[PySem.Value.str (PySem.Str.ofString "_law_turned") 548, PySem.Value.str (PySem.Str.ofString "_law_turned") 549, PySem.Value.str (PySem.Str.ofString "/claim/cut.py") 550, PySem.Value.int 197 0, PySem.Value.int 2 0, PySem.Value.int 0 0, PySem.Value.int 0 0, PySem.Value.int 3 0, PySem.Value.ref 246, PySem.Value.bool Bool.true, PySem.Value.int 181 0, PySem.Value.ref 247, PySem.Value.none, PySem.Value.ref 248, PySem.Value.ref 249, PySem.Value.ref 250, PySem.Value.int 556 0, PySem.Value.int 197 0, PySem.Value.str (PySem.Str.ofString "/claim/cut.py") 557] }) ::
  (nat_lit 252, { cls := PySem.Value.type "function", data := PySem.Data.func { name := PySem.Str.ofString "_law_turned", qualname := PySem.Str.ofString "_law_turned", params := fP (dTop 41), body := fB (dTop 41), scope := fS (dTop 41), globals := 3, closure := [], defaults := PySem.Value.none, kwdefaults := PySem.Value.none, pyModule := PySem.Value.str (PySem.Str.ofString "law_pb0592_01") 503, code := PySem.Value.ref 251 } }) ::
  (nat_lit 253, { cls := PySem.Value.type "tuple", data := PySem.Data.seq #[] }) ::
  (nat_lit 255, { cls := PySem.Value.type "tuple", data := PySem.Data.seq #[PySem.Value.str (PySem.Str.ofString "octets") 562, PySem.Value.str (PySem.Str.ofString "found") 563] }) ::
  (nat_lit 256, { cls := PySem.Value.type "tuple", data := PySem.Data.seq #[] }) ::
  (nat_lit 258, { cls := PySem.Value.type "code", data := PySem.Data.fields #[PySem.Value.str (PySem.Str.ofString "_law_read") 559, PySem.Value.str (PySem.Str.ofString "_law_read") 560, PySem.Value.str (PySem.Str.ofString "/claim/cut.py") 561, PySem.Value.int 203 0, PySem.Value.int 1 0, PySem.Value.int 0 0, PySem.Value.int 0 0, PySem.Value.int 3 0, PySem.Value.ref 253, PySem.Value.bool Bool.true, PySem.Value.int 181 0, PySem.Value.ref 254, PySem.Value.none, PySem.Value.ref 255, PySem.Value.ref 256, PySem.Value.ref 257, PySem.Value.int 564 0, PySem.Value.int 203 0, PySem.Value.str (PySem.Str.ofString "/claim/cut.py") 565] }) ::
  (nat_lit 259, { cls := PySem.Value.type "function", data := PySem.Data.func { name := PySem.Str.ofString "_law_read", qualname := PySem.Str.ofString "_law_read", params := fP (dTop 42), body := fB (dTop 42), scope := fS (dTop 42), globals := 3, closure := [], defaults := PySem.Value.none, kwdefaults := PySem.Value.none, pyModule := PySem.Value.str (PySem.Str.ofString "law_pb0592_01") 503, code := PySem.Value.ref 258 } }) ::
  (nat_lit 260, { cls := PySem.Value.type "tuple", data := PySem.Data.seq #[] }) ::
  (nat_lit 263, { cls := PySem.Value.type "code", data := PySem.Data.fields #[PySem.Value.str (PySem.Str.ofString "_law_is_told") 567, PySem.Value.str (PySem.Str.ofString "_law_is_told") 568, PySem.Value.str (PySem.Str.ofString "/claim/cut.py") 569, PySem.Value.int 210 0, PySem.Value.int 1 0, PySem.Value.int 0 0, PySem.Value.int 0 0, PySem.Value.int 3 0, PySem.Value.ref 260, PySem.Value.bool Bool.true, PySem.Value.int 181 0, PySem.Value.ref 261, PySem.Value.none, PySem.Value.none, PySem.Value.none, PySem.Value.ref 262, PySem.Value.int 570 0, PySem.Value.int 210 0, PySem.Value.str (PySem.Str.ofString "/claim/cut.py") 571] }) ::
  (nat_lit 264, { cls := PySem.Value.type "function", data := PySem.Data.func { name := PySem.Str.ofString "_law_is_told", qualname := PySem.Str.ofString "_law_is_told", params := fP (dTop 43), body := fB (dTop 43), scope := fS (dTop 43), globals := 3, closure := [], defaults := PySem.Value.none, kwdefaults := PySem.Value.none, pyModule := PySem.Value.str (PySem.Str.ofString "law_pb0592_01") 503, code := PySem.Value.ref 263 } }) ::
  (nat_lit 265, { cls := PySem.Value.type "tuple", data := PySem.Data.seq #[] }) ::
  (nat_lit 268, { cls := PySem.Value.type "code", data := PySem.Data.fields #[PySem.Value.str (PySem.Str.ofString "law") 573, PySem.Value.str (PySem.Str.ofString "law") 574, PySem.Value.str (PySem.Str.ofString "/claim/cut.py") 575, PySem.Value.int 216 0, PySem.Value.int 1 0, PySem.Value.int 0 0, PySem.Value.int 0 0, PySem.Value.int 3 0, PySem.Value.ref 265, PySem.Value.bool Bool.true, PySem.Value.int 181 0, PySem.Value.ref 266, PySem.Value.none, PySem.Value.none, PySem.Value.none, PySem.Value.ref 267, PySem.Value.int 576 0, PySem.Value.int 216 0, PySem.Value.str (PySem.Str.ofString "/claim/cut.py") 577] }) ::
  (nat_lit 269, { cls := PySem.Value.type "function", data := PySem.Data.func { name := PySem.Str.ofString "law", qualname := PySem.Str.ofString "law", params := fP (dTop 44), body := fB (dTop 44), scope := fS (dTop 44), globals := 3, closure := [], defaults := PySem.Value.none, kwdefaults := PySem.Value.none, pyModule := PySem.Value.str (PySem.Str.ofString "law_pb0592_01") 503, code := PySem.Value.ref 268 } }) :: []
noncomputable abbrev hd.lo : List Str := [Str.ofString "UniError", Str.ofString "puny_figure", Str.ofString "puny_number", Str.ofString "encode_label",
  Str.ofString "decode_annotated", Str.ofString "decode_label", Str.ofString "puny_is_told", Str.ofString "puny_small", Str.ofString "puny_length", Str.ofString "_law_menu"]
noncomputable abbrev hd.hook := kHook hd.heap_39 [2, 3, 15, 22, 23, 25, 26, 28, 29, 30, 31, 32, 33, 36, 43, 44, 45, 48, 50, 51, 53, 54, 55, 57, 58, 60, 61, 62, 64, 65, 67, 68, 76, 77, 79, 80, 82, 83, 84, 86, 87, 89, 90, 91, 93, 94, 96, 97, 98, 99, 100, 101, 102, 105, 106, 108, 109, 111, 112, 113, 115, 116, 118, 119, 120, 121, 123, 124, 126, 127, 128, 130, 131, 133, 134, 135, 137, 138, 140, 141, 142, 144, 145, 147, 148, 149, 152, 153, 154, 156, 157, 159, 160, 161, 162, 164, 165, 167, 168, 169, 171, 172, 174, 175, 176, 178, 179, 181, 182, 183, 184, 186, 187, 189, 190, 191, 192, 194, 195, 197, 198, 199, 200, 202, 203, 205, 206, 207, 208, 211, 212, 213, 214, 216, 217, 219, 220, 221, 224, 225, 226, 228, 229, 231, 232, 233, 235, 236, 238, 239, 240, 241, 244, 245, 246, 248, 249, 251, 252, 253, 255, 256, 258, 259, 260, 263, 264, 265, 268, 269] (fun _ => by kernel_rfl)
noncomputable def hd.heap_end (P : Params) : Heap :=
  { objs := Array.mk (
  (PySem.W.boot_o_0 P) ::
  (PySem.W.boot_o_1 P) ::
  { cls := PySem.Value.none, data := PySem.Data.dict #[{ hash := PySem.PyData.keyHash P (PySem.Str.ofString "type.__subclasses__.Exception.0"), key := PySem.Value.str (PySem.Str.ofString "type.__subclasses__.Exception.0") 220, val := PySem.Value.int 32 0 }, { hash := PySem.PyData.keyHash P (PySem.Str.ofString "type.__subclasses__.Exception.n"), key := PySem.Value.str (PySem.Str.ofString "type.__subclasses__.Exception.n") 221, val := PySem.Value.int 1 0 }] 2 } ::
  { cls := PySem.Value.type "dict", data := PySem.Data.dict #[{ hash := PySem.PyData.keyHash P (PySem.Str.ofString "__name__"), key := PySem.Value.str (PySem.Str.ofString "__name__") 165, val := PySem.Value.str (PySem.Str.ofString "law_pb0592_01") 503 }, { hash := PySem.PyData.keyHash P (PySem.Str.ofString "__doc__"), key := PySem.Value.str (PySem.Str.ofString "__doc__") 166, val := PySem.Value.none }, { hash := PySem.PyData.keyHash P (PySem.Str.ofString "__package__"), key := PySem.Value.str (PySem.Str.ofString "__package__") 167, val := PySem.Value.none }, { hash := PySem.PyData.keyHash P (PySem.Str.ofString "__loader__"), key := PySem.Value.str (PySem.Str.ofString "__loader__") 168, val := PySem.Value.builtin "__main__.__loader__#opaque" }, { hash := PySem.PyData.keyHash P (PySem.Str.ofString "__spec__"), key := PySem.Value.str (PySem.Str.ofString "__spec__") 169, val := PySem.Value.none }, { hash := PySem.PyData.keyHash P (PySem.Str.ofString "__annotations__"), key := PySem.Value.str (PySem.Str.ofString "__annotations__") 170, val := PySem.Value.ref 6 }, { hash := PySem.PyData.keyHash P (PySem.Str.ofString "__builtins__"), key := PySem.Value.str (PySem.Str.ofString "__builtins__") 171, val := PySem.Value.ref 4 }, { hash := PySem.PyData.keyHash P (PySem.Str.ofString "__file__"), key := PySem.Value.str (PySem.Str.ofString "__file__") 173, val := PySem.Value.str (PySem.Str.ofString "/claim/cut.py") 172 }, { hash := PySem.PyData.keyHash P (PySem.Str.ofString "__cached__"), key := PySem.Value.str (PySem.Str.ofString "__cached__") 174, val := PySem.Value.none }, { hash := PySem.PyData.keyHash P (PySem.Str.ofString "MAX_CODE"), key := PySem.Value.str (PySem.Str.ofString "MAX_CODE") 190, val := PySem.Value.int 1114111 189 }, { hash := PySem.PyData.keyHash P (PySem.Str.ofString "HIGH_FIRST"), key := PySem.Value.str (PySem.Str.ofString "HIGH_FIRST") 192, val := PySem.Value.int 55296 191 }, { hash := PySem.PyData.keyHash P (PySem.Str.ofString "LOW_LAST"), key := PySem.Value.str (PySem.Str.ofString "LOW_LAST") 194, val := PySem.Value.int 57343 193 }, { hash := PySem.PyData.keyHash P (PySem.Str.ofString "UniError"), key := PySem.Value.str (PySem.Str.ofString "UniError") 223, val := PySem.Value.ref 32 }, { hash := PySem.PyData.keyHash P (PySem.Str.ofString "BadLabel"), key := PySem.Value.str (PySem.Str.ofString "BadLabel") 239, val := PySem.Value.ref 45 }, { hash := PySem.PyData.keyHash P (PySem.Str.ofString "is_code"), key := PySem.Value.str (PySem.Str.ofString "is_code") 246, val := PySem.Value.ref 54 }, { hash := PySem.PyData.keyHash P (PySem.Str.ofString "is_surrogate"), key := PySem.Value.str (PySem.Str.ofString "is_surrogate") 253, val := PySem.Value.ref 61 }, { hash := PySem.PyData.keyHash P (PySem.Str.ofString "is_scalar"), key := PySem.Value.str (PySem.Str.ofString "is_scalar") 260, val := PySem.Value.ref 68 }, { hash := PySem.PyData.keyHash P (PySem.Str.ofString "HYPHEN"), key := PySem.Value.str (PySem.Str.ofString "HYPHEN") 264, val := PySem.Value.int 45 263 }, { hash := PySem.PyData.keyHash P (PySem.Str.ofString "SMALL_A"), key := PySem.Value.str (PySem.Str.ofString "SMALL_A") 266, val := PySem.Value.int 97 265 }, { hash := PySem.PyData.keyHash P (PySem.Str.ofString "CAPITAL_A"), key := PySem.Value.str (PySem.Str.ofString "CAPITAL_A") 268, val := PySem.Value.int 65 267 }, { hash := PySem.PyData.keyHash P (PySem.Str.ofString "NOUGHT"), key := PySem.Value.str (PySem.Str.ofString "NOUGHT") 270, val := PySem.Value.int 48 269 }, { hash := PySem.PyData.keyHash P (PySem.Str.ofString "LETTERS"), key := PySem.Value.str (PySem.Str.ofString "LETTERS") 272, val := PySem.Value.int 26 271 }, { hash := PySem.PyData.keyHash P (PySem.Str.ofString "FIGURES"), key := PySem.Value.str (PySem.Str.ofString "FIGURES") 274, val := PySem.Value.int 10 273 }, { hash := PySem.PyData.keyHash P (PySem.Str.ofString "CASE_BIT"), key := PySem.Value.str (PySem.Str.ofString "CASE_BIT") 276, val := PySem.Value.int 32 275 }, { hash := PySem.PyData.keyHash P (PySem.Str.ofString "PunyNumbers"), key := PySem.Value.str (PySem.Str.ofString "PunyNumbers") 345, val := PySem.Value.ref 100 }, { hash := PySem.PyData.keyHash P (PySem.Str.ofString "puny_figure"), key := PySem.Value.str (PySem.Str.ofString "puny_figure") 353, val := PySem.Value.ref 112 }, { hash := PySem.PyData.keyHash P (PySem.Str.ofString "puny_value"), key := PySem.Value.str (PySem.Str.ofString "puny_value") 360, val := PySem.Value.ref 119 }, { hash := PySem.PyData.keyHash P (PySem.Str.ofString "puny_number"), key := PySem.Value.str (PySem.Str.ofString "puny_number") 374, val := PySem.Value.ref 127 }, { hash := PySem.PyData.keyHash P (PySem.Str.ofString "puny_number_at"), key := PySem.Value.str (PySem.Str.ofString "puny_number_at") 389, val := PySem.Value.ref 134 }, { hash := PySem.PyData.keyHash P (PySem.Str.ofString "puny_basic"), key := PySem.Value.str (PySem.Str.ofString "puny_basic") 397, val := PySem.Value.ref 141 }, { hash := PySem.PyData.keyHash P (PySem.Str.ofString "puny_check"), key := PySem.Value.str (PySem.Str.ofString "puny_check") 405, val := PySem.Value.ref 148 }, { hash := PySem.PyData.keyHash P (PySem.Str.ofString "puny_least_from"), key := PySem.Value.str (PySem.Str.ofString "puny_least_from") 411, val := PySem.Value.ref 153 }, { hash := PySem.PyData.keyHash P (PySem.Str.ofString "puny_cased"), key := PySem.Value.str (PySem.Str.ofString "puny_cased") 419, val := PySem.Value.ref 160 }, { hash := PySem.PyData.keyHash P (PySem.Str.ofString "encode_label"), key := PySem.Value.str (PySem.Str.ofString "encode_label") 438, val := PySem.Value.ref 168 }, { hash := PySem.PyData.keyHash P (PySem.Str.ofString "puny_split"), key := PySem.Value.str (PySem.Str.ofString "puny_split") 446, val := PySem.Value.ref 175 }, { hash := PySem.PyData.keyHash P (PySem.Str.ofString "puny_is_capital"), key := PySem.Value.str (PySem.Str.ofString "puny_is_capital") 453, val := PySem.Value.ref 182 }, { hash := PySem.PyData.keyHash P (PySem.Str.ofString "decode_annotated"), key := PySem.Value.str (PySem.Str.ofString "decode_annotated") 471, val := PySem.Value.ref 190 }, { hash := PySem.PyData.keyHash P (PySem.Str.ofString "decode_label"), key := PySem.Value.str (PySem.Str.ofString "decode_label") 479, val := PySem.Value.ref 198 }, { hash := PySem.PyData.keyHash P (PySem.Str.ofString "puny_is_told"), key := PySem.Value.str (PySem.Str.ofString "puny_is_told") 488, val := PySem.Value.ref 206 }, { hash := PySem.PyData.keyHash P (PySem.Str.ofString "puny_small"), key := PySem.Value.str (PySem.Str.ofString "puny_small") 494, val := PySem.Value.ref 212 }, { hash := PySem.PyData.keyHash P (PySem.Str.ofString "puny_length"), key := PySem.Value.str (PySem.Str.ofString "puny_length") 502, val := PySem.Value.ref 220 }, { hash := PySem.PyData.keyHash P (PySem.Str.ofString "_law_deck"), key := PySem.Value.str (PySem.Str.ofString "_law_deck") 510, val := PySem.Value.ref 225 }, { hash := PySem.PyData.keyHash P (PySem.Str.ofString "_law_draw"), key := PySem.Value.str (PySem.Str.ofString "_law_draw") 520, val := PySem.Value.ref 232 }, { hash := PySem.PyData.keyHash P (PySem.Str.ofString "_law_pick"), key := PySem.Value.str (PySem.Str.ofString "_law_pick") 528, val := PySem.Value.ref 239 }, { hash := PySem.PyData.keyHash P (PySem.Str.ofString "_law_menu"), key := PySem.Value.str (PySem.Str.ofString "_law_menu") 539, val := PySem.Value.ref 240 }, { hash := PySem.PyData.keyHash P (PySem.Str.ofString "_law_signs"), key := PySem.Value.str (PySem.Str.ofString "_law_signs") 541, val := PySem.Value.bytes #[97, 45, 57, 90, 98, 48, 45, 107, 81, 122] 540 }, { hash := PySem.PyData.keyHash P (PySem.Str.ofString "_law_small"), key := PySem.Value.str (PySem.Str.ofString "_law_small") 547, val := PySem.Value.ref 245 }, { hash := PySem.PyData.keyHash P (PySem.Str.ofString "_law_turned"), key := PySem.Value.str (PySem.Str.ofString "_law_turned") 558, val := PySem.Value.ref 252 }, { hash := PySem.PyData.keyHash P (PySem.Str.ofString "_law_read"), key := PySem.Value.str (PySem.Str.ofString "_law_read") 566, val := PySem.Value.ref 259 }, { hash := PySem.PyData.keyHash P (PySem.Str.ofString "_law_is_told"), key := PySem.Value.str (PySem.Str.ofString "_law_is_told") 572, val := PySem.Value.ref 264 }, { hash := PySem.PyData.keyHash P (PySem.Str.ofString "law"), key := PySem.Value.str (PySem.Str.ofString "law") 578, val := PySem.Value.ref 269 }] 51 } ::
  (PySem.W.boot_o_4 P) ::
  (PySem.W.boot_o_5 P) ::
  (PySem.W.boot_o_6 P) ::
  (PySem.W.boot_o_7 P) ::
  (PySem.W.boot_o_8 P) ::
  (PySem.W.boot_o_9 P) ::
  (PySem.W.boot_o_10 P) ::
  { cls := PySem.Value.type "tuple", data := PySem.Data.seq #[] } ::
  { cls := PySem.Value.none, data := PySem.Data.fields #[PySem.Value.int 5 0, PySem.Value.int 0 0, PySem.Value.ref 20, PySem.Value.int 9 0, PySem.Value.int 0 0, PySem.Value.ref 41, PySem.Value.int 11 0, PySem.Value.int 0 0, PySem.Value.ref 53, PySem.Value.int 13 0, PySem.Value.int 0 0, PySem.Value.ref 60, PySem.Value.int 15 0, PySem.Value.int 0 0, PySem.Value.ref 67, PySem.Value.int 25 0, PySem.Value.int 0 0, PySem.Value.ref 74, PySem.Value.int 48 0, PySem.Value.int 0 0, PySem.Value.ref 111, PySem.Value.int 52 0, PySem.Value.int 0 0, PySem.Value.ref 118, PySem.Value.int 60 0, PySem.Value.int 0 0, PySem.Value.ref 126, PySem.Value.int 71 0, PySem.Value.int 0 0, PySem.Value.ref 133, PySem.Value.int 86 0, PySem.Value.int 0 0, PySem.Value.ref 140, PySem.Value.int 88 0, PySem.Value.int 0 0, PySem.Value.ref 147, PySem.Value.int 92 0, PySem.Value.int 0 0, PySem.Value.ref 152, PySem.Value.int 94 0, PySem.Value.int 0 0, PySem.Value.ref 159, PySem.Value.int 98 0, PySem.Value.int 0 0, PySem.Value.ref 167, PySem.Value.int 124 0, PySem.Value.int 0 0, PySem.Value.ref 174, PySem.Value.int 131 0, PySem.Value.int 0 0, PySem.Value.ref 181, PySem.Value.int 133 0, PySem.Value.int 0 0, PySem.Value.ref 189, PySem.Value.int 158 0, PySem.Value.int 0 0, PySem.Value.ref 197, PySem.Value.int 160 0, PySem.Value.int 0 0, PySem.Value.ref 205, PySem.Value.int 167 0, PySem.Value.int 0 0, PySem.Value.ref 211, PySem.Value.int 171 0, PySem.Value.int 0 0, PySem.Value.ref 219, PySem.Value.int 174 0, PySem.Value.int 0 0, PySem.Value.ref 224, PySem.Value.int 179 0, PySem.Value.int 0 0, PySem.Value.ref 231, PySem.Value.int 191 0, PySem.Value.int 0 0, PySem.Value.ref 238, PySem.Value.int 195 0, PySem.Value.int 0 0, PySem.Value.ref 244, PySem.Value.int 197 0, PySem.Value.int 0 0, PySem.Value.ref 251, PySem.Value.int 203 0, PySem.Value.int 0 0, PySem.Value.ref 258, PySem.Value.int 210 0, PySem.Value.int 0 0, PySem.Value.ref 263, PySem.Value.int 216 0, PySem.Value.int 0 0, PySem.Value.ref 268] } ::
  { cls := PySem.Value.type "code", data := PySem.Data.fields #[PySem.Value.str (PySem.Str.ofString "<module>") 182, PySem.Value.str (PySem.Str.ofString "<module>") 183, PySem.Value.str (PySem.Str.ofString "/claim/cut.py") 184, PySem.Value.int 1 0, PySem.Value.int 0 0, PySem.Value.int 0 0, PySem.Value.int 0 0, PySem.Value.int 0 0, PySem.Value.ref 11, PySem.Value.bool Bool.false, PySem.Value.int 181 0, PySem.Value.ref 12, PySem.Value.none, PySem.Value.none, PySem.Value.none, PySem.Value.none, PySem.Value.int 185 0, PySem.Value.int 1 0, PySem.Value.str (PySem.Str.ofString "/claim/cut.py") 186] } ::
  { cls := PySem.Value.type "frame", slots := #[Option.some (PySem.Value.ref 13), Option.some (PySem.Value.ref 3), Option.some (PySem.Value.ref 3), Option.none, Option.some (PySem.Value.str (PySem.Str.ofString "__main__") 164), Option.none, Option.some (PySem.Value.ref 0)] } ::
  { cls := PySem.Value.type "tuple", data := PySem.Data.seq #[PySem.Value.type "Exception"] } ::
  { cls := PySem.Value.type "builtin_function_or_method", data := PySem.Data.fields #[PySem.Value.builtin "type.__prepare__", PySem.Value.type "type"] } ::
  { cls := PySem.Value.type "dict", data := PySem.Data.dict #[{ hash := PySem.PyData.keyHash P (PySem.Str.ofString "__module__"), key := PySem.Value.str (PySem.Str.ofString "__module__") 202, val := PySem.Value.str (PySem.Str.ofString "unicore.base") 187 }, { hash := PySem.PyData.keyHash P (PySem.Str.ofString "__qualname__"), key := PySem.Value.str (PySem.Str.ofString "__qualname__") 204, val := PySem.Value.str (PySem.Str.ofString "UniError") 203 }, { hash := PySem.PyData.keyHash P (PySem.Str.ofString "__firstlineno__"), key := PySem.Value.str (PySem.Str.ofString "__firstlineno__") 206, val := PySem.Value.int 5 205 }, { hash := PySem.PyData.keyHash P (PySem.Str.ofString "__init__"), key := PySem.Value.str (PySem.Str.ofString "__init__") 214, val := PySem.Value.ref 29 }, { hash := PySem.PyData.keyHash P (PySem.Str.ofString "__static_attributes__"), key := PySem.Value.str (PySem.Str.ofString "__static_attributes__") 216, val := PySem.Value.ref 30 }] 5 } ::
  { cls := PySem.Value.type "tuple", data := PySem.Data.seq #[] } ::
  { cls := PySem.Value.none, data := PySem.Data.fields #[PySem.Value.int 7 0, PySem.Value.int 4 0, PySem.Value.ref 28] } ::
  { cls := PySem.Value.type "code", data := PySem.Data.fields #[PySem.Value.str (PySem.Str.ofString "UniError") 197, PySem.Value.str (PySem.Str.ofString "UniError") 198, PySem.Value.str (PySem.Str.ofString "/claim/cut.py") 199, PySem.Value.int 5 0, PySem.Value.int 0 0, PySem.Value.int 0 0, PySem.Value.int 0 0, PySem.Value.int 0 0, PySem.Value.ref 18, PySem.Value.bool Bool.false, PySem.Value.int 181 0, PySem.Value.ref 19, PySem.Value.none, PySem.Value.none, PySem.Value.none, PySem.Value.none, PySem.Value.int 200 0, PySem.Value.int 5 0, PySem.Value.str (PySem.Str.ofString "/claim/cut.py") 201] } ::
  { cls := PySem.Value.type "frame", slots := #[Option.some (PySem.Value.ref 20), Option.some (PySem.Value.ref 3), Option.some (PySem.Value.ref 17), Option.none, Option.some (PySem.Value.str (PySem.Str.ofString "unicore.base") 187), Option.none, Option.some (PySem.Value.ref 0)] } ::
  { cls := PySem.Value.type "tuple", data := PySem.Data.seq #[PySem.Value.none] } ::
  { cls := PySem.Value.type "tuple", data := PySem.Data.seq #[] } ::
  { cls := PySem.Value.none, data := PySem.Data.fields #[] } ::
  { cls := PySem.Value.type "tuple", data := PySem.Data.seq #[PySem.Value.str (PySem.Str.ofString "self") 210, PySem.Value.str (PySem.Str.ofString "told") 211] } ::
  { cls := PySem.Value.type "tuple", data := PySem.Data.seq #[] } ::
  { cls := PySem.Value.none, data := PySem.Data.func { name := PySem.Str.ofString "__init__", qualname := PySem.Str.ofString "UniError.__init__", params := fP (dMem 4 0), body := fB (dMem 4 0), scope := fS (dMem 4 0), globals := 0, closure := [], defaults := PySem.Value.none, kwdefaults := PySem.Value.none } } ::
  { cls := PySem.Value.type "code", data := PySem.Data.fields #[PySem.Value.str (PySem.Str.ofString "__init__") 207, PySem.Value.str (PySem.Str.ofString "UniError.__init__") 208, PySem.Value.str (PySem.Str.ofString "/claim/cut.py") 209, PySem.Value.int 7 0, PySem.Value.int 2 0, PySem.Value.int 0 0, PySem.Value.int 0 0, PySem.Value.int 3 0, PySem.Value.ref 23, PySem.Value.bool Bool.true, PySem.Value.int 181 0, PySem.Value.ref 24, PySem.Value.none, PySem.Value.ref 25, PySem.Value.ref 26, PySem.Value.ref 27, PySem.Value.int 212 0, PySem.Value.int 7 0, PySem.Value.str (PySem.Str.ofString "/claim/cut.py") 213] } ::
  { cls := PySem.Value.type "function", data := PySem.Data.func { name := PySem.Str.ofString "__init__", qualname := PySem.Str.ofString "UniError.__init__", params := fP (dMem 4 0), body := fB (dMem 4 0), scope := fS (dMem 4 0), globals := 3, closure := [], defaults := PySem.Value.ref 22, kwdefaults := PySem.Value.none, pyModule := PySem.Value.str (PySem.Str.ofString "unicore.base") 187, code := PySem.Value.ref 28 } } ::
  { cls := PySem.Value.type "tuple", data := PySem.Data.seq #[PySem.Value.str (PySem.Str.ofString "told") 215] } ::
  { cls := PySem.Value.type "dict", data := PySem.Data.dict #[{ hash := PySem.PyData.keyHash P (PySem.Str.ofString "__module__"), key := PySem.Value.str (PySem.Str.ofString "__module__") 202, val := PySem.Value.str (PySem.Str.ofString "unicore.base") 187 }, { hash := PySem.PyData.keyHash P (PySem.Str.ofString "__firstlineno__"), key := PySem.Value.str (PySem.Str.ofString "__firstlineno__") 206, val := PySem.Value.int 5 205 }, { hash := PySem.PyData.keyHash P (PySem.Str.ofString "__init__"), key := PySem.Value.str (PySem.Str.ofString "__init__") 214, val := PySem.Value.ref 29 }, { hash := PySem.PyData.keyHash P (PySem.Str.ofString "__static_attributes__"), key := PySem.Value.str (PySem.Str.ofString "__static_attributes__") 216, val := PySem.Value.ref 30 }, { hash := PySem.PyData.keyHash P (PySem.Str.ofString "__weakref__"), key := PySem.Value.str (PySem.Str.ofString "__weakref__") 218, val := PySem.Value.ref 33 }, { hash := PySem.PyData.keyHash P (PySem.Str.ofString "__doc__"), key := PySem.Value.str (PySem.Str.ofString "__doc__") 219, val := PySem.Value.none }] 3 } ::
  { cls := PySem.Value.type "type", data := PySem.Data.cls { name := PySem.Str.ofString "UniError", bases := [PySem.Value.type "Exception"], mro := [PySem.Value.ref 32, PySem.Value.type "Exception", PySem.Value.type "BaseException", PySem.Value.type "object"], ns := 31, qualname := PySem.Str.ofString "UniError", subclasses := [PySem.Value.ref 45] }, slots := #[Option.some (PySem.Value.ref 15), Option.none, Option.some (PySem.Value.str (PySem.Str.ofString "UniError") 195), Option.some (PySem.Value.str (PySem.Str.ofString "UniError") 203), Option.some (PySem.Value.builtin "Exception.__new__"), Option.some (PySem.Value.bool Bool.true)] } ::
  { cls := PySem.Value.type "getset_descriptor", data := PySem.Data.fields #[PySem.Value.str (PySem.Str.ofString "__weakref__") 217, PySem.Value.ref 32, PySem.Value.builtin "ExceptionGroup.__weakref__", PySem.Value.none] } ::
  { cls := PySem.Value.type "super", data := PySem.Data.fields #[PySem.Value.ref 32, PySem.Value.ref 32, PySem.Value.ref 32] } ::
  { cls := PySem.Value.type "builtin_function_or_method", data := PySem.Data.fields #[PySem.Value.builtin "object.__init_subclass__", PySem.Value.ref 32] } ::
  { cls := PySem.Value.type "tuple", data := PySem.Data.seq #[PySem.Value.ref 32] } ::
  { cls := PySem.Value.type "builtin_function_or_method", data := PySem.Data.fields #[PySem.Value.builtin "type.__prepare__", PySem.Value.type "type"] } ::
  { cls := PySem.Value.type "dict", data := PySem.Data.dict #[{ hash := PySem.PyData.keyHash P (PySem.Str.ofString "__module__"), key := PySem.Value.str (PySem.Str.ofString "__module__") 231, val := PySem.Value.str (PySem.Str.ofString "unicore.base") 187 }, { hash := PySem.PyData.keyHash P (PySem.Str.ofString "__qualname__"), key := PySem.Value.str (PySem.Str.ofString "__qualname__") 233, val := PySem.Value.str (PySem.Str.ofString "BadLabel") 232 }, { hash := PySem.PyData.keyHash P (PySem.Str.ofString "__firstlineno__"), key := PySem.Value.str (PySem.Str.ofString "__firstlineno__") 235, val := PySem.Value.int 9 234 }, { hash := PySem.PyData.keyHash P (PySem.Str.ofString "__static_attributes__"), key := PySem.Value.str (PySem.Str.ofString "__static_attributes__") 236, val := PySem.Value.ref 43 }] 4 } ::
  { cls := PySem.Value.type "tuple", data := PySem.Data.seq #[] } ::
  { cls := PySem.Value.none, data := PySem.Data.fields #[] } ::
  { cls := PySem.Value.type "code", data := PySem.Data.fields #[PySem.Value.str (PySem.Str.ofString "BadLabel") 226, PySem.Value.str (PySem.Str.ofString "BadLabel") 227, PySem.Value.str (PySem.Str.ofString "/claim/cut.py") 228, PySem.Value.int 9 0, PySem.Value.int 0 0, PySem.Value.int 0 0, PySem.Value.int 0 0, PySem.Value.int 0 0, PySem.Value.ref 39, PySem.Value.bool Bool.false, PySem.Value.int 181 0, PySem.Value.ref 40, PySem.Value.none, PySem.Value.none, PySem.Value.none, PySem.Value.none, PySem.Value.int 229 0, PySem.Value.int 9 0, PySem.Value.str (PySem.Str.ofString "/claim/cut.py") 230] } ::
  { cls := PySem.Value.type "frame", slots := #[Option.some (PySem.Value.ref 41), Option.some (PySem.Value.ref 3), Option.some (PySem.Value.ref 38), Option.none, Option.some (PySem.Value.str (PySem.Str.ofString "unicore.base") 187), Option.none, Option.some (PySem.Value.ref 0)] } ::
  { cls := PySem.Value.type "tuple", data := PySem.Data.seq #[] } ::
  { cls := PySem.Value.type "dict", data := PySem.Data.dict #[{ hash := PySem.PyData.keyHash P (PySem.Str.ofString "__module__"), key := PySem.Value.str (PySem.Str.ofString "__module__") 231, val := PySem.Value.str (PySem.Str.ofString "unicore.base") 187 }, { hash := PySem.PyData.keyHash P (PySem.Str.ofString "__firstlineno__"), key := PySem.Value.str (PySem.Str.ofString "__firstlineno__") 235, val := PySem.Value.int 9 234 }, { hash := PySem.PyData.keyHash P (PySem.Str.ofString "__static_attributes__"), key := PySem.Value.str (PySem.Str.ofString "__static_attributes__") 236, val := PySem.Value.ref 43 }, { hash := PySem.PyData.keyHash P (PySem.Str.ofString "__doc__"), key := PySem.Value.str (PySem.Str.ofString "__doc__") 237, val := PySem.Value.none }] 2 } ::
  { cls := PySem.Value.type "type", data := PySem.Data.cls { name := PySem.Str.ofString "BadLabel", bases := [PySem.Value.ref 32], mro := [PySem.Value.ref 45, PySem.Value.ref 32, PySem.Value.type "Exception", PySem.Value.type "BaseException", PySem.Value.type "object"], ns := 44, qualname := PySem.Str.ofString "BadLabel" }, slots := #[Option.some (PySem.Value.ref 36), Option.none, Option.some (PySem.Value.str (PySem.Str.ofString "BadLabel") 224), Option.some (PySem.Value.str (PySem.Str.ofString "BadLabel") 232), Option.some (PySem.Value.builtin "Exception.__new__"), Option.some (PySem.Value.bool Bool.true)] } ::
  { cls := PySem.Value.type "super", data := PySem.Data.fields #[PySem.Value.ref 45, PySem.Value.ref 45, PySem.Value.ref 45] } ::
  { cls := PySem.Value.type "builtin_function_or_method", data := PySem.Data.fields #[PySem.Value.builtin "object.__init_subclass__", PySem.Value.ref 45] } ::
  { cls := PySem.Value.type "tuple", data := PySem.Data.seq #[] } ::
  { cls := PySem.Value.none, data := PySem.Data.fields #[] } ::
  { cls := PySem.Value.type "tuple", data := PySem.Data.seq #[PySem.Value.str (PySem.Str.ofString "number") 243] } ::
  { cls := PySem.Value.type "tuple", data := PySem.Data.seq #[] } ::
  { cls := PySem.Value.none, data := PySem.Data.func { name := PySem.Str.ofString "is_code", qualname := PySem.Str.ofString "is_code", params := fP (dTop 6), body := fB (dTop 6), scope := fS (dTop 6), globals := 0, closure := [], defaults := PySem.Value.none, kwdefaults := PySem.Value.none } } ::
  { cls := PySem.Value.type "code", data := PySem.Data.fields #[PySem.Value.str (PySem.Str.ofString "is_code") 240, PySem.Value.str (PySem.Str.ofString "is_code") 241, PySem.Value.str (PySem.Str.ofString "/claim/cut.py") 242, PySem.Value.int 11 0, PySem.Value.int 1 0, PySem.Value.int 0 0, PySem.Value.int 0 0, PySem.Value.int 3 0, PySem.Value.ref 48, PySem.Value.bool Bool.true, PySem.Value.int 181 0, PySem.Value.ref 49, PySem.Value.none, PySem.Value.ref 50, PySem.Value.ref 51, PySem.Value.ref 52, PySem.Value.int 244 0, PySem.Value.int 11 0, PySem.Value.str (PySem.Str.ofString "/claim/cut.py") 245] } ::
  { cls := PySem.Value.type "function", data := PySem.Data.func { name := PySem.Str.ofString "is_code", qualname := PySem.Str.ofString "is_code", params := fP (dTop 6), body := fB (dTop 6), scope := fS (dTop 6), globals := 3, closure := [], defaults := PySem.Value.none, kwdefaults := PySem.Value.none, pyModule := PySem.Value.str (PySem.Str.ofString "unicore.base") 187, code := PySem.Value.ref 53 } } ::
  { cls := PySem.Value.type "tuple", data := PySem.Data.seq #[] } ::
  { cls := PySem.Value.none, data := PySem.Data.fields #[] } ::
  { cls := PySem.Value.type "tuple", data := PySem.Data.seq #[PySem.Value.str (PySem.Str.ofString "code") 250] } ::
  { cls := PySem.Value.type "tuple", data := PySem.Data.seq #[] } ::
  { cls := PySem.Value.none, data := PySem.Data.func { name := PySem.Str.ofString "is_surrogate", qualname := PySem.Str.ofString "is_surrogate", params := fP (dTop 7), body := fB (dTop 7), scope := fS (dTop 7), globals := 0, closure := [], defaults := PySem.Value.none, kwdefaults := PySem.Value.none } } ::
  { cls := PySem.Value.type "code", data := PySem.Data.fields #[PySem.Value.str (PySem.Str.ofString "is_surrogate") 247, PySem.Value.str (PySem.Str.ofString "is_surrogate") 248, PySem.Value.str (PySem.Str.ofString "/claim/cut.py") 249, PySem.Value.int 13 0, PySem.Value.int 1 0, PySem.Value.int 0 0, PySem.Value.int 0 0, PySem.Value.int 3 0, PySem.Value.ref 55, PySem.Value.bool Bool.true, PySem.Value.int 181 0, PySem.Value.ref 56, PySem.Value.none, PySem.Value.ref 57, PySem.Value.ref 58, PySem.Value.ref 59, PySem.Value.int 251 0, PySem.Value.int 13 0, PySem.Value.str (PySem.Str.ofString "/claim/cut.py") 252] } ::
  { cls := PySem.Value.type "function", data := PySem.Data.func { name := PySem.Str.ofString "is_surrogate", qualname := PySem.Str.ofString "is_surrogate", params := fP (dTop 7), body := fB (dTop 7), scope := fS (dTop 7), globals := 3, closure := [], defaults := PySem.Value.none, kwdefaults := PySem.Value.none, pyModule := PySem.Value.str (PySem.Str.ofString "unicore.base") 187, code := PySem.Value.ref 60 } } ::
  { cls := PySem.Value.type "tuple", data := PySem.Data.seq #[] } ::
  { cls := PySem.Value.none, data := PySem.Data.fields #[] } ::
  { cls := PySem.Value.type "tuple", data := PySem.Data.seq #[PySem.Value.str (PySem.Str.ofString "number") 257] } ::
  { cls := PySem.Value.type "tuple", data := PySem.Data.seq #[] } ::
  { cls := PySem.Value.none, data := PySem.Data.func { name := PySem.Str.ofString "is_scalar", qualname := PySem.Str.ofString "is_scalar", params := fP (dTop 8), body := fB (dTop 8), scope := fS (dTop 8), globals := 0, closure := [], defaults := PySem.Value.none, kwdefaults := PySem.Value.none } } ::
  { cls := PySem.Value.type "code", data := PySem.Data.fields #[PySem.Value.str (PySem.Str.ofString "is_scalar") 254, PySem.Value.str (PySem.Str.ofString "is_scalar") 255, PySem.Value.str (PySem.Str.ofString "/claim/cut.py") 256, PySem.Value.int 15 0, PySem.Value.int 1 0, PySem.Value.int 0 0, PySem.Value.int 0 0, PySem.Value.int 3 0, PySem.Value.ref 62, PySem.Value.bool Bool.true, PySem.Value.int 181 0, PySem.Value.ref 63, PySem.Value.none, PySem.Value.ref 64, PySem.Value.ref 65, PySem.Value.ref 66, PySem.Value.int 258 0, PySem.Value.int 15 0, PySem.Value.str (PySem.Str.ofString "/claim/cut.py") 259] } ::
  { cls := PySem.Value.type "function", data := PySem.Data.func { name := PySem.Str.ofString "is_scalar", qualname := PySem.Str.ofString "is_scalar", params := fP (dTop 8), body := fB (dTop 8), scope := fS (dTop 8), globals := 3, closure := [], defaults := PySem.Value.none, kwdefaults := PySem.Value.none, pyModule := PySem.Value.str (PySem.Str.ofString "unicore.base") 187, code := PySem.Value.ref 67 } } ::
  { cls := PySem.Value.type "tuple", data := PySem.Data.seq #[] } ::
  { cls := PySem.Value.type "builtin_function_or_method", data := PySem.Data.fields #[PySem.Value.builtin "type.__prepare__", PySem.Value.type "type"] } ::
  { cls := PySem.Value.type "dict", data := PySem.Data.dict #[{ hash := PySem.PyData.keyHash P (PySem.Str.ofString "__module__"), key := PySem.Value.str (PySem.Str.ofString "__module__") 284, val := PySem.Value.str (PySem.Str.ofString "unicore.punycode") 261 }, { hash := PySem.PyData.keyHash P (PySem.Str.ofString "__qualname__"), key := PySem.Value.str (PySem.Str.ofString "__qualname__") 286, val := PySem.Value.str (PySem.Str.ofString "PunyNumbers") 285 }, { hash := PySem.PyData.keyHash P (PySem.Str.ofString "__firstlineno__"), key := PySem.Value.str (PySem.Str.ofString "__firstlineno__") 288, val := PySem.Value.int 25 287 }, { hash := PySem.PyData.keyHash P (PySem.Str.ofString "__init__"), key := PySem.Value.str (PySem.Str.ofString "__init__") 309, val := PySem.Value.ref 83 }, { hash := PySem.PyData.keyHash P (PySem.Str.ofString "threshold"), key := PySem.Value.str (PySem.Str.ofString "threshold") 319, val := PySem.Value.ref 90 }, { hash := PySem.PyData.keyHash P (PySem.Str.ofString "adapted"), key := PySem.Value.str (PySem.Str.ofString "adapted") 330, val := PySem.Value.ref 97 }, { hash := PySem.PyData.keyHash P (PySem.Str.ofString "__static_attributes__"), key := PySem.Value.str (PySem.Str.ofString "__static_attributes__") 338, val := PySem.Value.ref 98 }] 7 } ::
  { cls := PySem.Value.type "tuple", data := PySem.Data.seq #[] } ::
  { cls := PySem.Value.none, data := PySem.Data.fields #[PySem.Value.int 27 0, PySem.Value.int 4 0, PySem.Value.ref 82, PySem.Value.int 36 0, PySem.Value.int 4 0, PySem.Value.ref 89, PySem.Value.int 40 0, PySem.Value.int 4 0, PySem.Value.ref 96] } ::
  { cls := PySem.Value.type "code", data := PySem.Data.fields #[PySem.Value.str (PySem.Str.ofString "PunyNumbers") 279, PySem.Value.str (PySem.Str.ofString "PunyNumbers") 280, PySem.Value.str (PySem.Str.ofString "/claim/cut.py") 281, PySem.Value.int 25 0, PySem.Value.int 0 0, PySem.Value.int 0 0, PySem.Value.int 0 0, PySem.Value.int 0 0, PySem.Value.ref 72, PySem.Value.bool Bool.false, PySem.Value.int 181 0, PySem.Value.ref 73, PySem.Value.none, PySem.Value.none, PySem.Value.none, PySem.Value.none, PySem.Value.int 282 0, PySem.Value.int 25 0, PySem.Value.str (PySem.Str.ofString "/claim/cut.py") 283] } ::
  { cls := PySem.Value.type "frame", slots := #[Option.some (PySem.Value.ref 74), Option.some (PySem.Value.ref 3), Option.some (PySem.Value.ref 71), Option.none, Option.some (PySem.Value.str (PySem.Str.ofString "unicore.punycode") 261), Option.none, Option.some (PySem.Value.ref 0)] } ::
  { cls := PySem.Value.type "tuple", data := PySem.Data.seq #[PySem.Value.int 36 289, PySem.Value.int 1 290, PySem.Value.int 26 291, PySem.Value.int 38 292, PySem.Value.int 700 293, PySem.Value.int 72 294, PySem.Value.int 128 295] } ::
  { cls := PySem.Value.type "tuple", data := PySem.Data.seq #[] } ::
  { cls := PySem.Value.none, data := PySem.Data.fields #[] } ::
  { cls := PySem.Value.type "tuple", data := PySem.Data.seq #[PySem.Value.str (PySem.Str.ofString "self") 299, PySem.Value.str (PySem.Str.ofString "base") 300, PySem.Value.str (PySem.Str.ofString "least") 301, PySem.Value.str (PySem.Str.ofString "most") 302, PySem.Value.str (PySem.Str.ofString "skew") 303, PySem.Value.str (PySem.Str.ofString "damp") 304, PySem.Value.str (PySem.Str.ofString "bias") 305, PySem.Value.str (PySem.Str.ofString "first") 306] } ::
  { cls := PySem.Value.type "tuple", data := PySem.Data.seq #[] } ::
  { cls := PySem.Value.none, data := PySem.Data.func { name := PySem.Str.ofString "__init__", qualname := PySem.Str.ofString "PunyNumbers.__init__", params := fP (dMem 17 0), body := fB (dMem 17 0), scope := fS (dMem 17 0), globals := 0, closure := [], defaults := PySem.Value.none, kwdefaults := PySem.Value.none } } ::
  { cls := PySem.Value.type "code", data := PySem.Data.fields #[PySem.Value.str (PySem.Str.ofString "__init__") 296, PySem.Value.str (PySem.Str.ofString "PunyNumbers.__init__") 297, PySem.Value.str (PySem.Str.ofString "/claim/cut.py") 298, PySem.Value.int 27 0, PySem.Value.int 8 0, PySem.Value.int 0 0, PySem.Value.int 0 0, PySem.Value.int 3 0, PySem.Value.ref 77, PySem.Value.bool Bool.true, PySem.Value.int 181 0, PySem.Value.ref 78, PySem.Value.none, PySem.Value.ref 79, PySem.Value.ref 80, PySem.Value.ref 81, PySem.Value.int 307 0, PySem.Value.int 27 0, PySem.Value.str (PySem.Str.ofString "/claim/cut.py") 308] } ::
  { cls := PySem.Value.type "function", data := PySem.Data.func { name := PySem.Str.ofString "__init__", qualname := PySem.Str.ofString "PunyNumbers.__init__", params := fP (dMem 17 0), body := fB (dMem 17 0), scope := fS (dMem 17 0), globals := 3, closure := [], defaults := PySem.Value.ref 76, kwdefaults := PySem.Value.none, pyModule := PySem.Value.str (PySem.Str.ofString "unicore.punycode") 261, code := PySem.Value.ref 82 } } ::
  { cls := PySem.Value.type "tuple", data := PySem.Data.seq #[] } ::
  { cls := PySem.Value.none, data := PySem.Data.fields #[] } ::
  { cls := PySem.Value.type "tuple", data := PySem.Data.seq #[PySem.Value.str (PySem.Str.ofString "self") 313, PySem.Value.str (PySem.Str.ofString "place") 314, PySem.Value.str (PySem.Str.ofString "bias") 315, PySem.Value.str (PySem.Str.ofString "told") 316] } ::
  { cls := PySem.Value.type "tuple", data := PySem.Data.seq #[] } ::
  { cls := PySem.Value.none, data := PySem.Data.func { name := PySem.Str.ofString "threshold", qualname := PySem.Str.ofString "PunyNumbers.threshold", params := fP (dMem 17 1), body := fB (dMem 17 1), scope := fS (dMem 17 1), globals := 0, closure := [], defaults := PySem.Value.none, kwdefaults := PySem.Value.none } } ::
  { cls := PySem.Value.type "code", data := PySem.Data.fields #[PySem.Value.str (PySem.Str.ofString "threshold") 310, PySem.Value.str (PySem.Str.ofString "PunyNumbers.threshold") 311, PySem.Value.str (PySem.Str.ofString "/claim/cut.py") 312, PySem.Value.int 36 0, PySem.Value.int 3 0, PySem.Value.int 0 0, PySem.Value.int 0 0, PySem.Value.int 3 0, PySem.Value.ref 84, PySem.Value.bool Bool.true, PySem.Value.int 181 0, PySem.Value.ref 85, PySem.Value.none, PySem.Value.ref 86, PySem.Value.ref 87, PySem.Value.ref 88, PySem.Value.int 317 0, PySem.Value.int 36 0, PySem.Value.str (PySem.Str.ofString "/claim/cut.py") 318] } ::
  { cls := PySem.Value.type "function", data := PySem.Data.func { name := PySem.Str.ofString "threshold", qualname := PySem.Str.ofString "PunyNumbers.threshold", params := fP (dMem 17 1), body := fB (dMem 17 1), scope := fS (dMem 17 1), globals := 3, closure := [], defaults := PySem.Value.none, kwdefaults := PySem.Value.none, pyModule := PySem.Value.str (PySem.Str.ofString "unicore.punycode") 261, code := PySem.Value.ref 89 } } ::
  { cls := PySem.Value.type "tuple", data := PySem.Data.seq #[] } ::
  { cls := PySem.Value.none, data := PySem.Data.fields #[] } ::
  { cls := PySem.Value.type "tuple", data := PySem.Data.seq #[PySem.Value.str (PySem.Str.ofString "self") 323, PySem.Value.str (PySem.Str.ofString "delta") 324, PySem.Value.str (PySem.Str.ofString "many") 325, PySem.Value.str (PySem.Str.ofString "is_first") 326, PySem.Value.str (PySem.Str.ofString "count") 327] } ::
  { cls := PySem.Value.type "tuple", data := PySem.Data.seq #[] } ::
  { cls := PySem.Value.none, data := PySem.Data.func { name := PySem.Str.ofString "adapted", qualname := PySem.Str.ofString "PunyNumbers.adapted", params := fP (dMem 17 2), body := fB (dMem 17 2), scope := fS (dMem 17 2), globals := 0, closure := [], defaults := PySem.Value.none, kwdefaults := PySem.Value.none } } ::
  { cls := PySem.Value.type "code", data := PySem.Data.fields #[PySem.Value.str (PySem.Str.ofString "adapted") 320, PySem.Value.str (PySem.Str.ofString "PunyNumbers.adapted") 321, PySem.Value.str (PySem.Str.ofString "/claim/cut.py") 322, PySem.Value.int 40 0, PySem.Value.int 4 0, PySem.Value.int 0 0, PySem.Value.int 0 0, PySem.Value.int 3 0, PySem.Value.ref 91, PySem.Value.bool Bool.true, PySem.Value.int 181 0, PySem.Value.ref 92, PySem.Value.none, PySem.Value.ref 93, PySem.Value.ref 94, PySem.Value.ref 95, PySem.Value.int 328 0, PySem.Value.int 40 0, PySem.Value.str (PySem.Str.ofString "/claim/cut.py") 329] } ::
  { cls := PySem.Value.type "function", data := PySem.Data.func { name := PySem.Str.ofString "adapted", qualname := PySem.Str.ofString "PunyNumbers.adapted", params := fP (dMem 17 2), body := fB (dMem 17 2), scope := fS (dMem 17 2), globals := 3, closure := [], defaults := PySem.Value.none, kwdefaults := PySem.Value.none, pyModule := PySem.Value.str (PySem.Str.ofString "unicore.punycode") 261, code := PySem.Value.ref 96 } } ::
  { cls := PySem.Value.type "tuple", data := PySem.Data.seq #[PySem.Value.str (PySem.Str.ofString "base") 331, PySem.Value.str (PySem.Str.ofString "bias") 332, PySem.Value.str (PySem.Str.ofString "damp") 333, PySem.Value.str (PySem.Str.ofString "first") 334, PySem.Value.str (PySem.Str.ofString "least") 335, PySem.Value.str (PySem.Str.ofString "most") 336, PySem.Value.str (PySem.Str.ofString "skew") 337] } ::
  { cls := PySem.Value.type "dict", data := PySem.Data.dict #[{ hash := PySem.PyData.keyHash P (PySem.Str.ofString "__module__"), key := PySem.Value.str (PySem.Str.ofString "__module__") 284, val := PySem.Value.str (PySem.Str.ofString "unicore.punycode") 261 }, { hash := PySem.PyData.keyHash P (PySem.Str.ofString "__firstlineno__"), key := PySem.Value.str (PySem.Str.ofString "__firstlineno__") 288, val := PySem.Value.int 25 287 }, { hash := PySem.PyData.keyHash P (PySem.Str.ofString "__init__"), key := PySem.Value.str (PySem.Str.ofString "__init__") 309, val := PySem.Value.ref 83 }, { hash := PySem.PyData.keyHash P (PySem.Str.ofString "threshold"), key := PySem.Value.str (PySem.Str.ofString "threshold") 319, val := PySem.Value.ref 90 }, { hash := PySem.PyData.keyHash P (PySem.Str.ofString "adapted"), key := PySem.Value.str (PySem.Str.ofString "adapted") 330, val := PySem.Value.ref 97 }, { hash := PySem.PyData.keyHash P (PySem.Str.ofString "__static_attributes__"), key := PySem.Value.str (PySem.Str.ofString "__static_attributes__") 338, val := PySem.Value.ref 98 }, { hash := PySem.PyData.keyHash P (PySem.Str.ofString "__dict__"), key := PySem.Value.str (PySem.Str.ofString "__dict__") 340, val := PySem.Value.ref 101 }, { hash := PySem.PyData.keyHash P (PySem.Str.ofString "__weakref__"), key := PySem.Value.str (PySem.Str.ofString "__weakref__") 342, val := PySem.Value.ref 102 }, { hash := PySem.PyData.keyHash P (PySem.Str.ofString "__doc__"), key := PySem.Value.str (PySem.Str.ofString "__doc__") 343, val := PySem.Value.none }] 4 } ::
  { cls := PySem.Value.type "type", data := PySem.Data.cls { name := PySem.Str.ofString "PunyNumbers", bases := [PySem.Value.type "object"], mro := [PySem.Value.ref 100, PySem.Value.type "object"], ns := 99, qualname := PySem.Str.ofString "PunyNumbers" }, slots := #[Option.none, Option.none, Option.some (PySem.Value.str (PySem.Str.ofString "PunyNumbers") 277), Option.some (PySem.Value.str (PySem.Str.ofString "PunyNumbers") 285), Option.some (PySem.Value.builtin "object.__new__"), Option.some (PySem.Value.bool Bool.true)] } ::
  { cls := PySem.Value.type "getset_descriptor", data := PySem.Data.fields #[PySem.Value.str (PySem.Str.ofString "__dict__") 339, PySem.Value.ref 100, PySem.Value.builtin "function.__dict__", PySem.Value.builtin "function.__dict__#set"] } ::
  { cls := PySem.Value.type "getset_descriptor", data := PySem.Data.fields #[PySem.Value.str (PySem.Str.ofString "__weakref__") 341, PySem.Value.ref 100, PySem.Value.builtin "ExceptionGroup.__weakref__", PySem.Value.none] } ::
  { cls := PySem.Value.type "super", data := PySem.Data.fields #[PySem.Value.ref 100, PySem.Value.ref 100, PySem.Value.ref 100] } ::
  { cls := PySem.Value.type "builtin_function_or_method", data := PySem.Data.fields #[PySem.Value.builtin "object.__init_subclass__", PySem.Value.ref 100] } ::
  { cls := PySem.Value.type "tuple", data := PySem.Data.seq #[PySem.Value.bool Bool.false] } ::
  { cls := PySem.Value.type "tuple", data := PySem.Data.seq #[] } ::
  { cls := PySem.Value.none, data := PySem.Data.fields #[] } ::
  { cls := PySem.Value.type "tuple", data := PySem.Data.seq #[PySem.Value.str (PySem.Str.ofString "value") 349, PySem.Value.str (PySem.Str.ofString "is_capital") 350] } ::
  { cls := PySem.Value.type "tuple", data := PySem.Data.seq #[] } ::
  { cls := PySem.Value.none, data := PySem.Data.func { name := PySem.Str.ofString "puny_figure", qualname := PySem.Str.ofString "puny_figure", params := fP (dTop 18), body := fB (dTop 18), scope := fS (dTop 18), globals := 0, closure := [], defaults := PySem.Value.none, kwdefaults := PySem.Value.none } } ::
  { cls := PySem.Value.type "code", data := PySem.Data.fields #[PySem.Value.str (PySem.Str.ofString "puny_figure") 346, PySem.Value.str (PySem.Str.ofString "puny_figure") 347, PySem.Value.str (PySem.Str.ofString "/claim/cut.py") 348, PySem.Value.int 48 0, PySem.Value.int 2 0, PySem.Value.int 0 0, PySem.Value.int 0 0, PySem.Value.int 3 0, PySem.Value.ref 106, PySem.Value.bool Bool.true, PySem.Value.int 181 0, PySem.Value.ref 107, PySem.Value.none, PySem.Value.ref 108, PySem.Value.ref 109, PySem.Value.ref 110, PySem.Value.int 351 0, PySem.Value.int 48 0, PySem.Value.str (PySem.Str.ofString "/claim/cut.py") 352] } ::
  { cls := PySem.Value.type "function", data := PySem.Data.func { name := PySem.Str.ofString "puny_figure", qualname := PySem.Str.ofString "puny_figure", params := fP (dTop 18), body := fB (dTop 18), scope := fS (dTop 18), globals := 3, closure := [], defaults := PySem.Value.ref 105, kwdefaults := PySem.Value.none, pyModule := PySem.Value.str (PySem.Str.ofString "unicore.punycode") 261, code := PySem.Value.ref 111 } } ::
  { cls := PySem.Value.type "tuple", data := PySem.Data.seq #[] } ::
  { cls := PySem.Value.none, data := PySem.Data.fields #[] } ::
  { cls := PySem.Value.type "tuple", data := PySem.Data.seq #[PySem.Value.str (PySem.Str.ofString "octet") 357] } ::
  { cls := PySem.Value.type "tuple", data := PySem.Data.seq #[] } ::
  { cls := PySem.Value.none, data := PySem.Data.func { name := PySem.Str.ofString "puny_value", qualname := PySem.Str.ofString "puny_value", params := fP (dTop 19), body := fB (dTop 19), scope := fS (dTop 19), globals := 0, closure := [], defaults := PySem.Value.none, kwdefaults := PySem.Value.none } } ::
  { cls := PySem.Value.type "code", data := PySem.Data.fields #[PySem.Value.str (PySem.Str.ofString "puny_value") 354, PySem.Value.str (PySem.Str.ofString "puny_value") 355, PySem.Value.str (PySem.Str.ofString "/claim/cut.py") 356, PySem.Value.int 52 0, PySem.Value.int 1 0, PySem.Value.int 0 0, PySem.Value.int 0 0, PySem.Value.int 3 0, PySem.Value.ref 113, PySem.Value.bool Bool.true, PySem.Value.int 181 0, PySem.Value.ref 114, PySem.Value.none, PySem.Value.ref 115, PySem.Value.ref 116, PySem.Value.ref 117, PySem.Value.int 358 0, PySem.Value.int 52 0, PySem.Value.str (PySem.Str.ofString "/claim/cut.py") 359] } ::
  { cls := PySem.Value.type "function", data := PySem.Data.func { name := PySem.Str.ofString "puny_value", qualname := PySem.Str.ofString "puny_value", params := fP (dTop 19), body := fB (dTop 19), scope := fS (dTop 19), globals := 3, closure := [], defaults := PySem.Value.none, kwdefaults := PySem.Value.none, pyModule := PySem.Value.str (PySem.Str.ofString "unicore.punycode") 261, code := PySem.Value.ref 118 } } ::
  { cls := PySem.Value.type "tuple", data := PySem.Data.seq #[PySem.Value.bool Bool.false] } ::
  { cls := PySem.Value.type "tuple", data := PySem.Data.seq #[] } ::
  { cls := PySem.Value.none, data := PySem.Data.fields #[] } ::
  { cls := PySem.Value.type "tuple", data := PySem.Data.seq #[PySem.Value.str (PySem.Str.ofString "value") 364, PySem.Value.str (PySem.Str.ofString "bias") 365, PySem.Value.str (PySem.Str.ofString "numbers") 366, PySem.Value.str (PySem.Str.ofString "is_capital") 367, PySem.Value.str (PySem.Str.ofString "found") 368, PySem.Value.str (PySem.Str.ofString "place") 369, PySem.Value.str (PySem.Str.ofString "least") 370, PySem.Value.str (PySem.Str.ofString "span") 371] } ::
  { cls := PySem.Value.type "tuple", data := PySem.Data.seq #[] } ::
  { cls := PySem.Value.none, data := PySem.Data.func { name := PySem.Str.ofString "puny_number", qualname := PySem.Str.ofString "puny_number", params := fP (dTop 20), body := fB (dTop 20), scope := fS (dTop 20), globals := 0, closure := [], defaults := PySem.Value.none, kwdefaults := PySem.Value.none } } ::
  { cls := PySem.Value.type "code", data := PySem.Data.fields #[PySem.Value.str (PySem.Str.ofString "puny_number") 361, PySem.Value.str (PySem.Str.ofString "puny_number") 362, PySem.Value.str (PySem.Str.ofString "/claim/cut.py") 363, PySem.Value.int 60 0, PySem.Value.int 4 0, PySem.Value.int 0 0, PySem.Value.int 0 0, PySem.Value.int 3 0, PySem.Value.ref 121, PySem.Value.bool Bool.true, PySem.Value.int 181 0, PySem.Value.ref 122, PySem.Value.none, PySem.Value.ref 123, PySem.Value.ref 124, PySem.Value.ref 125, PySem.Value.int 372 0, PySem.Value.int 60 0, PySem.Value.str (PySem.Str.ofString "/claim/cut.py") 373] } ::
  { cls := PySem.Value.type "function", data := PySem.Data.func { name := PySem.Str.ofString "puny_number", qualname := PySem.Str.ofString "puny_number", params := fP (dTop 20), body := fB (dTop 20), scope := fS (dTop 20), globals := 3, closure := [], defaults := PySem.Value.ref 120, kwdefaults := PySem.Value.none, pyModule := PySem.Value.str (PySem.Str.ofString "unicore.punycode") 261, code := PySem.Value.ref 126 } } ::
  { cls := PySem.Value.type "tuple", data := PySem.Data.seq #[] } ::
  { cls := PySem.Value.none, data := PySem.Data.fields #[] } ::
  { cls := PySem.Value.type "tuple", data := PySem.Data.seq #[PySem.Value.str (PySem.Str.ofString "octets") 378, PySem.Value.str (PySem.Str.ofString "at") 379, PySem.Value.str (PySem.Str.ofString "bias") 380, PySem.Value.str (PySem.Str.ofString "numbers") 381, PySem.Value.str (PySem.Str.ofString "value") 382, PySem.Value.str (PySem.Str.ofString "weight") 383, PySem.Value.str (PySem.Str.ofString "place") 384, PySem.Value.str (PySem.Str.ofString "figure") 385, PySem.Value.str (PySem.Str.ofString "least") 386] } ::
  { cls := PySem.Value.type "tuple", data := PySem.Data.seq #[] } ::
  { cls := PySem.Value.none, data := PySem.Data.func { name := PySem.Str.ofString "puny_number_at", qualname := PySem.Str.ofString "puny_number_at", params := fP (dTop 21), body := fB (dTop 21), scope := fS (dTop 21), globals := 0, closure := [], defaults := PySem.Value.none, kwdefaults := PySem.Value.none } } ::
  { cls := PySem.Value.type "code", data := PySem.Data.fields #[PySem.Value.str (PySem.Str.ofString "puny_number_at") 375, PySem.Value.str (PySem.Str.ofString "puny_number_at") 376, PySem.Value.str (PySem.Str.ofString "/claim/cut.py") 377, PySem.Value.int 71 0, PySem.Value.int 4 0, PySem.Value.int 0 0, PySem.Value.int 0 0, PySem.Value.int 3 0, PySem.Value.ref 128, PySem.Value.bool Bool.true, PySem.Value.int 181 0, PySem.Value.ref 129, PySem.Value.none, PySem.Value.ref 130, PySem.Value.ref 131, PySem.Value.ref 132, PySem.Value.int 387 0, PySem.Value.int 71 0, PySem.Value.str (PySem.Str.ofString "/claim/cut.py") 388] } ::
  { cls := PySem.Value.type "function", data := PySem.Data.func { name := PySem.Str.ofString "puny_number_at", qualname := PySem.Str.ofString "puny_number_at", params := fP (dTop 21), body := fB (dTop 21), scope := fS (dTop 21), globals := 3, closure := [], defaults := PySem.Value.none, kwdefaults := PySem.Value.none, pyModule := PySem.Value.str (PySem.Str.ofString "unicore.punycode") 261, code := PySem.Value.ref 133 } } ::
  { cls := PySem.Value.type "tuple", data := PySem.Data.seq #[] } ::
  { cls := PySem.Value.none, data := PySem.Data.fields #[] } ::
  { cls := PySem.Value.type "tuple", data := PySem.Data.seq #[PySem.Value.str (PySem.Str.ofString "code") 393, PySem.Value.str (PySem.Str.ofString "numbers") 394] } ::
  { cls := PySem.Value.type "tuple", data := PySem.Data.seq #[] } ::
  { cls := PySem.Value.none, data := PySem.Data.func { name := PySem.Str.ofString "puny_basic", qualname := PySem.Str.ofString "puny_basic", params := fP (dTop 22), body := fB (dTop 22), scope := fS (dTop 22), globals := 0, closure := [], defaults := PySem.Value.none, kwdefaults := PySem.Value.none } } ::
  { cls := PySem.Value.type "code", data := PySem.Data.fields #[PySem.Value.str (PySem.Str.ofString "puny_basic") 390, PySem.Value.str (PySem.Str.ofString "puny_basic") 391, PySem.Value.str (PySem.Str.ofString "/claim/cut.py") 392, PySem.Value.int 86 0, PySem.Value.int 2 0, PySem.Value.int 0 0, PySem.Value.int 0 0, PySem.Value.int 3 0, PySem.Value.ref 135, PySem.Value.bool Bool.true, PySem.Value.int 181 0, PySem.Value.ref 136, PySem.Value.none, PySem.Value.ref 137, PySem.Value.ref 138, PySem.Value.ref 139, PySem.Value.int 395 0, PySem.Value.int 86 0, PySem.Value.str (PySem.Str.ofString "/claim/cut.py") 396] } ::
  { cls := PySem.Value.type "function", data := PySem.Data.func { name := PySem.Str.ofString "puny_basic", qualname := PySem.Str.ofString "puny_basic", params := fP (dTop 22), body := fB (dTop 22), scope := fS (dTop 22), globals := 3, closure := [], defaults := PySem.Value.none, kwdefaults := PySem.Value.none, pyModule := PySem.Value.str (PySem.Str.ofString "unicore.punycode") 261, code := PySem.Value.ref 140 } } ::
  { cls := PySem.Value.type "tuple", data := PySem.Data.seq #[] } ::
  { cls := PySem.Value.none, data := PySem.Data.fields #[] } ::
  { cls := PySem.Value.type "tuple", data := PySem.Data.seq #[PySem.Value.str (PySem.Str.ofString "text") 401, PySem.Value.str (PySem.Str.ofString "code") 402] } ::
  { cls := PySem.Value.type "tuple", data := PySem.Data.seq #[] } ::
  { cls := PySem.Value.none, data := PySem.Data.func { name := PySem.Str.ofString "puny_check", qualname := PySem.Str.ofString "puny_check", params := fP (dTop 23), body := fB (dTop 23), scope := fS (dTop 23), globals := 0, closure := [], defaults := PySem.Value.none, kwdefaults := PySem.Value.none } } ::
  { cls := PySem.Value.type "code", data := PySem.Data.fields #[PySem.Value.str (PySem.Str.ofString "puny_check") 398, PySem.Value.str (PySem.Str.ofString "puny_check") 399, PySem.Value.str (PySem.Str.ofString "/claim/cut.py") 400, PySem.Value.int 88 0, PySem.Value.int 1 0, PySem.Value.int 0 0, PySem.Value.int 0 0, PySem.Value.int 3 0, PySem.Value.ref 142, PySem.Value.bool Bool.true, PySem.Value.int 181 0, PySem.Value.ref 143, PySem.Value.none, PySem.Value.ref 144, PySem.Value.ref 145, PySem.Value.ref 146, PySem.Value.int 403 0, PySem.Value.int 88 0, PySem.Value.str (PySem.Str.ofString "/claim/cut.py") 404] } ::
  { cls := PySem.Value.type "function", data := PySem.Data.func { name := PySem.Str.ofString "puny_check", qualname := PySem.Str.ofString "puny_check", params := fP (dTop 23), body := fB (dTop 23), scope := fS (dTop 23), globals := 3, closure := [], defaults := PySem.Value.none, kwdefaults := PySem.Value.none, pyModule := PySem.Value.str (PySem.Str.ofString "unicore.punycode") 261, code := PySem.Value.ref 147 } } ::
  { cls := PySem.Value.type "tuple", data := PySem.Data.seq #[] } ::
  { cls := PySem.Value.none, data := PySem.Data.fields #[] } ::
  { cls := PySem.Value.none, data := PySem.Data.func { name := PySem.Str.ofString "puny_least_from", qualname := PySem.Str.ofString "puny_least_from", params := fP (dTop 24), body := fB (dTop 24), scope := fS (dTop 24), globals := 0, closure := [], defaults := PySem.Value.none, kwdefaults := PySem.Value.none } } ::
  { cls := PySem.Value.type "code", data := PySem.Data.fields #[PySem.Value.str (PySem.Str.ofString "puny_least_from") 406, PySem.Value.str (PySem.Str.ofString "puny_least_from") 407, PySem.Value.str (PySem.Str.ofString "/claim/cut.py") 408, PySem.Value.int 92 0, PySem.Value.int 2 0, PySem.Value.int 0 0, PySem.Value.int 0 0, PySem.Value.int 3 0, PySem.Value.ref 149, PySem.Value.bool Bool.true, PySem.Value.int 181 0, PySem.Value.ref 150, PySem.Value.none, PySem.Value.none, PySem.Value.none, PySem.Value.ref 151, PySem.Value.int 409 0, PySem.Value.int 92 0, PySem.Value.str (PySem.Str.ofString "/claim/cut.py") 410] } ::
  { cls := PySem.Value.type "function", data := PySem.Data.func { name := PySem.Str.ofString "puny_least_from", qualname := PySem.Str.ofString "puny_least_from", params := fP (dTop 24), body := fB (dTop 24), scope := fS (dTop 24), globals := 3, closure := [], defaults := PySem.Value.none, kwdefaults := PySem.Value.none, pyModule := PySem.Value.str (PySem.Str.ofString "unicore.punycode") 261, code := PySem.Value.ref 152 } } ::
  { cls := PySem.Value.type "tuple", data := PySem.Data.seq #[] } ::
  { cls := PySem.Value.none, data := PySem.Data.fields #[] } ::
  { cls := PySem.Value.type "tuple", data := PySem.Data.seq #[PySem.Value.str (PySem.Str.ofString "code") 415, PySem.Value.str (PySem.Str.ofString "is_capital") 416] } ::
  { cls := PySem.Value.type "tuple", data := PySem.Data.seq #[] } ::
  { cls := PySem.Value.none, data := PySem.Data.func { name := PySem.Str.ofString "puny_cased", qualname := PySem.Str.ofString "puny_cased", params := fP (dTop 25), body := fB (dTop 25), scope := fS (dTop 25), globals := 0, closure := [], defaults := PySem.Value.none, kwdefaults := PySem.Value.none } } ::
  { cls := PySem.Value.type "code", data := PySem.Data.fields #[PySem.Value.str (PySem.Str.ofString "puny_cased") 412, PySem.Value.str (PySem.Str.ofString "puny_cased") 413, PySem.Value.str (PySem.Str.ofString "/claim/cut.py") 414, PySem.Value.int 94 0, PySem.Value.int 2 0, PySem.Value.int 0 0, PySem.Value.int 0 0, PySem.Value.int 3 0, PySem.Value.ref 154, PySem.Value.bool Bool.true, PySem.Value.int 181 0, PySem.Value.ref 155, PySem.Value.none, PySem.Value.ref 156, PySem.Value.ref 157, PySem.Value.ref 158, PySem.Value.int 417 0, PySem.Value.int 94 0, PySem.Value.str (PySem.Str.ofString "/claim/cut.py") 418] } ::
  { cls := PySem.Value.type "function", data := PySem.Data.func { name := PySem.Str.ofString "puny_cased", qualname := PySem.Str.ofString "puny_cased", params := fP (dTop 25), body := fB (dTop 25), scope := fS (dTop 25), globals := 3, closure := [], defaults := PySem.Value.none, kwdefaults := PySem.Value.none, pyModule := PySem.Value.str (PySem.Str.ofString "unicore.punycode") 261, code := PySem.Value.ref 159 } } ::
  { cls := PySem.Value.type "tuple", data := PySem.Data.seq #[PySem.Value.none, PySem.Value.none] } ::
  { cls := PySem.Value.type "tuple", data := PySem.Data.seq #[] } ::
  { cls := PySem.Value.none, data := PySem.Data.fields #[] } ::
  { cls := PySem.Value.type "tuple", data := PySem.Data.seq #[PySem.Value.str (PySem.Str.ofString "text") 423, PySem.Value.str (PySem.Str.ofString "numbers") 424, PySem.Value.str (PySem.Str.ofString "capitals") 425, PySem.Value.str (PySem.Str.ofString "wished") 426, PySem.Value.str (PySem.Str.ofString "found") 427, PySem.Value.str (PySem.Str.ofString "place") 428, PySem.Value.str (PySem.Str.ofString "code") 429, PySem.Value.str (PySem.Str.ofString "many_basic") 430, PySem.Value.str (PySem.Str.ofString "done") 431, PySem.Value.str (PySem.Str.ofString "delta") 432, PySem.Value.str (PySem.Str.ofString "bias") 433, PySem.Value.str (PySem.Str.ofString "least") 434, PySem.Value.str (PySem.Str.ofString "one") 435] } ::
  { cls := PySem.Value.type "tuple", data := PySem.Data.seq #[] } ::
  { cls := PySem.Value.none, data := PySem.Data.func { name := PySem.Str.ofString "encode_label", qualname := PySem.Str.ofString "encode_label", params := fP (dTop 26), body := fB (dTop 26), scope := fS (dTop 26), globals := 0, closure := [], defaults := PySem.Value.none, kwdefaults := PySem.Value.none } } ::
  { cls := PySem.Value.type "code", data := PySem.Data.fields #[PySem.Value.str (PySem.Str.ofString "encode_label") 420, PySem.Value.str (PySem.Str.ofString "encode_label") 421, PySem.Value.str (PySem.Str.ofString "/claim/cut.py") 422, PySem.Value.int 98 0, PySem.Value.int 3 0, PySem.Value.int 0 0, PySem.Value.int 0 0, PySem.Value.int 3 0, PySem.Value.ref 162, PySem.Value.bool Bool.true, PySem.Value.int 181 0, PySem.Value.ref 163, PySem.Value.none, PySem.Value.ref 164, PySem.Value.ref 165, PySem.Value.ref 166, PySem.Value.int 436 0, PySem.Value.int 98 0, PySem.Value.str (PySem.Str.ofString "/claim/cut.py") 437] } ::
  { cls := PySem.Value.type "function", data := PySem.Data.func { name := PySem.Str.ofString "encode_label", qualname := PySem.Str.ofString "encode_label", params := fP (dTop 26), body := fB (dTop 26), scope := fS (dTop 26), globals := 3, closure := [], defaults := PySem.Value.ref 161, kwdefaults := PySem.Value.none, pyModule := PySem.Value.str (PySem.Str.ofString "unicore.punycode") 261, code := PySem.Value.ref 167 } } ::
  { cls := PySem.Value.type "tuple", data := PySem.Data.seq #[] } ::
  { cls := PySem.Value.none, data := PySem.Data.fields #[] } ::
  { cls := PySem.Value.type "tuple", data := PySem.Data.seq #[PySem.Value.str (PySem.Str.ofString "octets") 442, PySem.Value.str (PySem.Str.ofString "at") 443] } ::
  { cls := PySem.Value.type "tuple", data := PySem.Data.seq #[] } ::
  { cls := PySem.Value.none, data := PySem.Data.func { name := PySem.Str.ofString "puny_split", qualname := PySem.Str.ofString "puny_split", params := fP (dTop 27), body := fB (dTop 27), scope := fS (dTop 27), globals := 0, closure := [], defaults := PySem.Value.none, kwdefaults := PySem.Value.none } } ::
  { cls := PySem.Value.type "code", data := PySem.Data.fields #[PySem.Value.str (PySem.Str.ofString "puny_split") 439, PySem.Value.str (PySem.Str.ofString "puny_split") 440, PySem.Value.str (PySem.Str.ofString "/claim/cut.py") 441, PySem.Value.int 124 0, PySem.Value.int 1 0, PySem.Value.int 0 0, PySem.Value.int 0 0, PySem.Value.int 3 0, PySem.Value.ref 169, PySem.Value.bool Bool.true, PySem.Value.int 181 0, PySem.Value.ref 170, PySem.Value.none, PySem.Value.ref 171, PySem.Value.ref 172, PySem.Value.ref 173, PySem.Value.int 444 0, PySem.Value.int 124 0, PySem.Value.str (PySem.Str.ofString "/claim/cut.py") 445] } ::
  { cls := PySem.Value.type "function", data := PySem.Data.func { name := PySem.Str.ofString "puny_split", qualname := PySem.Str.ofString "puny_split", params := fP (dTop 27), body := fB (dTop 27), scope := fS (dTop 27), globals := 3, closure := [], defaults := PySem.Value.none, kwdefaults := PySem.Value.none, pyModule := PySem.Value.str (PySem.Str.ofString "unicore.punycode") 261, code := PySem.Value.ref 174 } } ::
  { cls := PySem.Value.type "tuple", data := PySem.Data.seq #[] } ::
  { cls := PySem.Value.none, data := PySem.Data.fields #[] } ::
  { cls := PySem.Value.type "tuple", data := PySem.Data.seq #[PySem.Value.str (PySem.Str.ofString "octet") 450] } ::
  { cls := PySem.Value.type "tuple", data := PySem.Data.seq #[] } ::
  { cls := PySem.Value.none, data := PySem.Data.func { name := PySem.Str.ofString "puny_is_capital", qualname := PySem.Str.ofString "puny_is_capital", params := fP (dTop 28), body := fB (dTop 28), scope := fS (dTop 28), globals := 0, closure := [], defaults := PySem.Value.none, kwdefaults := PySem.Value.none } } ::
  { cls := PySem.Value.type "code", data := PySem.Data.fields #[PySem.Value.str (PySem.Str.ofString "puny_is_capital") 447, PySem.Value.str (PySem.Str.ofString "puny_is_capital") 448, PySem.Value.str (PySem.Str.ofString "/claim/cut.py") 449, PySem.Value.int 131 0, PySem.Value.int 1 0, PySem.Value.int 0 0, PySem.Value.int 0 0, PySem.Value.int 3 0, PySem.Value.ref 176, PySem.Value.bool Bool.true, PySem.Value.int 181 0, PySem.Value.ref 177, PySem.Value.none, PySem.Value.ref 178, PySem.Value.ref 179, PySem.Value.ref 180, PySem.Value.int 451 0, PySem.Value.int 131 0, PySem.Value.str (PySem.Str.ofString "/claim/cut.py") 452] } ::
  { cls := PySem.Value.type "function", data := PySem.Data.func { name := PySem.Str.ofString "puny_is_capital", qualname := PySem.Str.ofString "puny_is_capital", params := fP (dTop 28), body := fB (dTop 28), scope := fS (dTop 28), globals := 3, closure := [], defaults := PySem.Value.none, kwdefaults := PySem.Value.none, pyModule := PySem.Value.str (PySem.Str.ofString "unicore.punycode") 261, code := PySem.Value.ref 181 } } ::
  { cls := PySem.Value.type "tuple", data := PySem.Data.seq #[PySem.Value.none] } ::
  { cls := PySem.Value.type "tuple", data := PySem.Data.seq #[] } ::
  { cls := PySem.Value.none, data := PySem.Data.fields #[] } ::
  { cls := PySem.Value.type "tuple", data := PySem.Data.seq #[PySem.Value.str (PySem.Str.ofString "octets") 457, PySem.Value.str (PySem.Str.ofString "numbers") 458, PySem.Value.str (PySem.Str.ofString "basic") 459, PySem.Value.str (PySem.Str.ofString "at") 460, PySem.Value.str (PySem.Str.ofString "text") 461, PySem.Value.str (PySem.Str.ofString "capitals") 462, PySem.Value.str (PySem.Str.ofString "octet") 463, PySem.Value.str (PySem.Str.ofString "code") 464, PySem.Value.str (PySem.Str.ofString "index") 465, PySem.Value.str (PySem.Str.ofString "bias") 466, PySem.Value.str (PySem.Str.ofString "delta") 467, PySem.Value.str (PySem.Str.ofString "many") 468] } ::
  { cls := PySem.Value.type "tuple", data := PySem.Data.seq #[] } ::
  { cls := PySem.Value.none, data := PySem.Data.func { name := PySem.Str.ofString "decode_annotated", qualname := PySem.Str.ofString "decode_annotated", params := fP (dTop 29), body := fB (dTop 29), scope := fS (dTop 29), globals := 0, closure := [], defaults := PySem.Value.none, kwdefaults := PySem.Value.none } } ::
  { cls := PySem.Value.type "code", data := PySem.Data.fields #[PySem.Value.str (PySem.Str.ofString "decode_annotated") 454, PySem.Value.str (PySem.Str.ofString "decode_annotated") 455, PySem.Value.str (PySem.Str.ofString "/claim/cut.py") 456, PySem.Value.int 133 0, PySem.Value.int 2 0, PySem.Value.int 0 0, PySem.Value.int 0 0, PySem.Value.int 3 0, PySem.Value.ref 184, PySem.Value.bool Bool.true, PySem.Value.int 181 0, PySem.Value.ref 185, PySem.Value.none, PySem.Value.ref 186, PySem.Value.ref 187, PySem.Value.ref 188, PySem.Value.int 469 0, PySem.Value.int 133 0, PySem.Value.str (PySem.Str.ofString "/claim/cut.py") 470] } ::
  { cls := PySem.Value.type "function", data := PySem.Data.func { name := PySem.Str.ofString "decode_annotated", qualname := PySem.Str.ofString "decode_annotated", params := fP (dTop 29), body := fB (dTop 29), scope := fS (dTop 29), globals := 3, closure := [], defaults := PySem.Value.ref 183, kwdefaults := PySem.Value.none, pyModule := PySem.Value.str (PySem.Str.ofString "unicore.punycode") 261, code := PySem.Value.ref 189 } } ::
  { cls := PySem.Value.type "tuple", data := PySem.Data.seq #[PySem.Value.none] } ::
  { cls := PySem.Value.type "tuple", data := PySem.Data.seq #[] } ::
  { cls := PySem.Value.none, data := PySem.Data.fields #[] } ::
  { cls := PySem.Value.type "tuple", data := PySem.Data.seq #[PySem.Value.str (PySem.Str.ofString "octets") 475, PySem.Value.str (PySem.Str.ofString "numbers") 476] } ::
  { cls := PySem.Value.type "tuple", data := PySem.Data.seq #[] } ::
  { cls := PySem.Value.none, data := PySem.Data.func { name := PySem.Str.ofString "decode_label", qualname := PySem.Str.ofString "decode_label", params := fP (dTop 30), body := fB (dTop 30), scope := fS (dTop 30), globals := 0, closure := [], defaults := PySem.Value.none, kwdefaults := PySem.Value.none } } ::
  { cls := PySem.Value.type "code", data := PySem.Data.fields #[PySem.Value.str (PySem.Str.ofString "decode_label") 472, PySem.Value.str (PySem.Str.ofString "decode_label") 473, PySem.Value.str (PySem.Str.ofString "/claim/cut.py") 474, PySem.Value.int 158 0, PySem.Value.int 2 0, PySem.Value.int 0 0, PySem.Value.int 0 0, PySem.Value.int 3 0, PySem.Value.ref 192, PySem.Value.bool Bool.true, PySem.Value.int 181 0, PySem.Value.ref 193, PySem.Value.none, PySem.Value.ref 194, PySem.Value.ref 195, PySem.Value.ref 196, PySem.Value.int 477 0, PySem.Value.int 158 0, PySem.Value.str (PySem.Str.ofString "/claim/cut.py") 478] } ::
  { cls := PySem.Value.type "function", data := PySem.Data.func { name := PySem.Str.ofString "decode_label", qualname := PySem.Str.ofString "decode_label", params := fP (dTop 30), body := fB (dTop 30), scope := fS (dTop 30), globals := 3, closure := [], defaults := PySem.Value.ref 191, kwdefaults := PySem.Value.none, pyModule := PySem.Value.str (PySem.Str.ofString "unicore.punycode") 261, code := PySem.Value.ref 197 } } ::
  { cls := PySem.Value.type "tuple", data := PySem.Data.seq #[PySem.Value.none] } ::
  { cls := PySem.Value.type "tuple", data := PySem.Data.seq #[] } ::
  { cls := PySem.Value.none, data := PySem.Data.fields #[] } ::
  { cls := PySem.Value.type "tuple", data := PySem.Data.seq #[PySem.Value.str (PySem.Str.ofString "octets") 483, PySem.Value.str (PySem.Str.ofString "numbers") 484, PySem.Value.str (PySem.Str.ofString "text") 485] } ::
  { cls := PySem.Value.type "tuple", data := PySem.Data.seq #[] } ::
  { cls := PySem.Value.none, data := PySem.Data.func { name := PySem.Str.ofString "puny_is_told", qualname := PySem.Str.ofString "puny_is_told", params := fP (dTop 31), body := fB (dTop 31), scope := fS (dTop 31), globals := 0, closure := [], defaults := PySem.Value.none, kwdefaults := PySem.Value.none } } ::
  { cls := PySem.Value.type "code", data := PySem.Data.fields #[PySem.Value.str (PySem.Str.ofString "puny_is_told") 480, PySem.Value.str (PySem.Str.ofString "puny_is_told") 481, PySem.Value.str (PySem.Str.ofString "/claim/cut.py") 482, PySem.Value.int 160 0, PySem.Value.int 2 0, PySem.Value.int 0 0, PySem.Value.int 0 0, PySem.Value.int 3 0, PySem.Value.ref 200, PySem.Value.bool Bool.true, PySem.Value.int 181 0, PySem.Value.ref 201, PySem.Value.none, PySem.Value.ref 202, PySem.Value.ref 203, PySem.Value.ref 204, PySem.Value.int 486 0, PySem.Value.int 160 0, PySem.Value.str (PySem.Str.ofString "/claim/cut.py") 487] } ::
  { cls := PySem.Value.type "function", data := PySem.Data.func { name := PySem.Str.ofString "puny_is_told", qualname := PySem.Str.ofString "puny_is_told", params := fP (dTop 31), body := fB (dTop 31), scope := fS (dTop 31), globals := 3, closure := [], defaults := PySem.Value.ref 199, kwdefaults := PySem.Value.none, pyModule := PySem.Value.str (PySem.Str.ofString "unicore.punycode") 261, code := PySem.Value.ref 205 } } ::
  { cls := PySem.Value.type "tuple", data := PySem.Data.seq #[PySem.Value.none] } ::
  { cls := PySem.Value.type "tuple", data := PySem.Data.seq #[] } ::
  { cls := PySem.Value.none, data := PySem.Data.fields #[] } ::
  { cls := PySem.Value.none, data := PySem.Data.func { name := PySem.Str.ofString "puny_small", qualname := PySem.Str.ofString "puny_small", params := fP (dTop 32), body := fB (dTop 32), scope := fS (dTop 32), globals := 0, closure := [], defaults := PySem.Value.none, kwdefaults := PySem.Value.none } } ::
  { cls := PySem.Value.type "code", data := PySem.Data.fields #[PySem.Value.str (PySem.Str.ofString "puny_small") 489, PySem.Value.str (PySem.Str.ofString "puny_small") 490, PySem.Value.str (PySem.Str.ofString "/claim/cut.py") 491, PySem.Value.int 167 0, PySem.Value.int 3 0, PySem.Value.int 0 0, PySem.Value.int 0 0, PySem.Value.int 3 0, PySem.Value.ref 208, PySem.Value.bool Bool.true, PySem.Value.int 181 0, PySem.Value.ref 209, PySem.Value.none, PySem.Value.none, PySem.Value.none, PySem.Value.ref 210, PySem.Value.int 492 0, PySem.Value.int 167 0, PySem.Value.str (PySem.Str.ofString "/claim/cut.py") 493] } ::
  { cls := PySem.Value.type "function", data := PySem.Data.func { name := PySem.Str.ofString "puny_small", qualname := PySem.Str.ofString "puny_small", params := fP (dTop 32), body := fB (dTop 32), scope := fS (dTop 32), globals := 3, closure := [], defaults := PySem.Value.ref 207, kwdefaults := PySem.Value.none, pyModule := PySem.Value.str (PySem.Str.ofString "unicore.punycode") 261, code := PySem.Value.ref 211 } } ::
  { cls := PySem.Value.type "tuple", data := PySem.Data.seq #[PySem.Value.none] } ::
  { cls := PySem.Value.type "tuple", data := PySem.Data.seq #[] } ::
  { cls := PySem.Value.none, data := PySem.Data.fields #[] } ::
  { cls := PySem.Value.type "tuple", data := PySem.Data.seq #[PySem.Value.str (PySem.Str.ofString "text") 498, PySem.Value.str (PySem.Str.ofString "numbers") 499] } ::
  { cls := PySem.Value.type "tuple", data := PySem.Data.seq #[] } ::
  { cls := PySem.Value.none, data := PySem.Data.func { name := PySem.Str.ofString "puny_length", qualname := PySem.Str.ofString "puny_length", params := fP (dTop 33), body := fB (dTop 33), scope := fS (dTop 33), globals := 0, closure := [], defaults := PySem.Value.none, kwdefaults := PySem.Value.none } } ::
  { cls := PySem.Value.type "code", data := PySem.Data.fields #[PySem.Value.str (PySem.Str.ofString "puny_length") 495, PySem.Value.str (PySem.Str.ofString "puny_length") 496, PySem.Value.str (PySem.Str.ofString "/claim/cut.py") 497, PySem.Value.int 171 0, PySem.Value.int 2 0, PySem.Value.int 0 0, PySem.Value.int 0 0, PySem.Value.int 3 0, PySem.Value.ref 214, PySem.Value.bool Bool.true, PySem.Value.int 181 0, PySem.Value.ref 215, PySem.Value.none, PySem.Value.ref 216, PySem.Value.ref 217, PySem.Value.ref 218, PySem.Value.int 500 0, PySem.Value.int 171 0, PySem.Value.str (PySem.Str.ofString "/claim/cut.py") 501] } ::
  { cls := PySem.Value.type "function", data := PySem.Data.func { name := PySem.Str.ofString "puny_length", qualname := PySem.Str.ofString "puny_length", params := fP (dTop 33), body := fB (dTop 33), scope := fS (dTop 33), globals := 3, closure := [], defaults := PySem.Value.ref 213, kwdefaults := PySem.Value.none, pyModule := PySem.Value.str (PySem.Str.ofString "unicore.punycode") 261, code := PySem.Value.ref 219 } } ::
  { cls := PySem.Value.type "tuple", data := PySem.Data.seq #[] } ::
  { cls := PySem.Value.none, data := PySem.Data.fields #[] } ::
  { cls := PySem.Value.none, data := PySem.Data.func { name := PySem.Str.ofString "_law_deck", qualname := PySem.Str.ofString "_law_deck", params := fP (dTop 35), body := fB (dTop 35), scope := fS (dTop 35), globals := 0, closure := [], defaults := PySem.Value.none, kwdefaults := PySem.Value.none } } ::
  { cls := PySem.Value.type "code", data := PySem.Data.fields #[PySem.Value.str (PySem.Str.ofString "_law_deck") 505, PySem.Value.str (PySem.Str.ofString "_law_deck") 506, PySem.Value.str (PySem.Str.ofString "/claim/cut.py") 507, PySem.Value.int 174 0, PySem.Value.int 1 0, PySem.Value.int 0 0, PySem.Value.int 0 0, PySem.Value.int 3 0, PySem.Value.ref 221, PySem.Value.bool Bool.true, PySem.Value.int 181 0, PySem.Value.ref 222, PySem.Value.none, PySem.Value.none, PySem.Value.none, PySem.Value.ref 223, PySem.Value.int 508 0, PySem.Value.int 174 0, PySem.Value.str (PySem.Str.ofString "/claim/cut.py") 509] } ::
  { cls := PySem.Value.type "function", data := PySem.Data.func { name := PySem.Str.ofString "_law_deck", qualname := PySem.Str.ofString "_law_deck", params := fP (dTop 35), body := fB (dTop 35), scope := fS (dTop 35), globals := 3, closure := [], defaults := PySem.Value.none, kwdefaults := PySem.Value.none, pyModule := PySem.Value.str (PySem.Str.ofString "law_pb0592_01") 503, code := PySem.Value.ref 224 } } ::
  { cls := PySem.Value.type "tuple", data := PySem.Data.seq #[] } ::
  { cls := PySem.Value.none, data := PySem.Data.fields #[] } ::
  { cls := PySem.Value.type "tuple", data := PySem.Data.seq #[PySem.Value.str (PySem.Str.ofString "deck") 514, PySem.Value.str (PySem.Str.ofString "below") 515, PySem.Value.str (PySem.Str.ofString "figure") 516, PySem.Value.str (PySem.Str.ofString "cell") 517] } ::
  { cls := PySem.Value.type "tuple", data := PySem.Data.seq #[] } ::
  { cls := PySem.Value.none, data := PySem.Data.func { name := PySem.Str.ofString "_law_draw", qualname := PySem.Str.ofString "_law_draw", params := fP (dTop 36), body := fB (dTop 36), scope := fS (dTop 36), globals := 0, closure := [], defaults := PySem.Value.none, kwdefaults := PySem.Value.none } } ::
  { cls := PySem.Value.type "code", data := PySem.Data.fields #[PySem.Value.str (PySem.Str.ofString "_law_draw") 511, PySem.Value.str (PySem.Str.ofString "_law_draw") 512, PySem.Value.str (PySem.Str.ofString "/claim/cut.py") 513, PySem.Value.int 179 0, PySem.Value.int 2 0, PySem.Value.int 0 0, PySem.Value.int 0 0, PySem.Value.int 3 0, PySem.Value.ref 226, PySem.Value.bool Bool.true, PySem.Value.int 181 0, PySem.Value.ref 227, PySem.Value.none, PySem.Value.ref 228, PySem.Value.ref 229, PySem.Value.ref 230, PySem.Value.int 518 0, PySem.Value.int 179 0, PySem.Value.str (PySem.Str.ofString "/claim/cut.py") 519] } ::
  { cls := PySem.Value.type "function", data := PySem.Data.func { name := PySem.Str.ofString "_law_draw", qualname := PySem.Str.ofString "_law_draw", params := fP (dTop 36), body := fB (dTop 36), scope := fS (dTop 36), globals := 3, closure := [], defaults := PySem.Value.none, kwdefaults := PySem.Value.none, pyModule := PySem.Value.str (PySem.Str.ofString "law_pb0592_01") 503, code := PySem.Value.ref 231 } } ::
  { cls := PySem.Value.type "tuple", data := PySem.Data.seq #[] } ::
  { cls := PySem.Value.none, data := PySem.Data.fields #[] } ::
  { cls := PySem.Value.type "tuple", data := PySem.Data.seq #[PySem.Value.str (PySem.Str.ofString "deck") 524, PySem.Value.str (PySem.Str.ofString "some") 525] } ::
  { cls := PySem.Value.type "tuple", data := PySem.Data.seq #[] } ::
  { cls := PySem.Value.none, data := PySem.Data.func { name := PySem.Str.ofString "_law_pick", qualname := PySem.Str.ofString "_law_pick", params := fP (dTop 37), body := fB (dTop 37), scope := fS (dTop 37), globals := 0, closure := [], defaults := PySem.Value.none, kwdefaults := PySem.Value.none } } ::
  { cls := PySem.Value.type "code", data := PySem.Data.fields #[PySem.Value.str (PySem.Str.ofString "_law_pick") 521, PySem.Value.str (PySem.Str.ofString "_law_pick") 522, PySem.Value.str (PySem.Str.ofString "/claim/cut.py") 523, PySem.Value.int 191 0, PySem.Value.int 2 0, PySem.Value.int 0 0, PySem.Value.int 0 0, PySem.Value.int 3 0, PySem.Value.ref 233, PySem.Value.bool Bool.true, PySem.Value.int 181 0, PySem.Value.ref 234, PySem.Value.none, PySem.Value.ref 235, PySem.Value.ref 236, PySem.Value.ref 237, PySem.Value.int 526 0, PySem.Value.int 191 0, PySem.Value.str (PySem.Str.ofString "/claim/cut.py") 527] } ::
  { cls := PySem.Value.type "function", data := PySem.Data.func { name := PySem.Str.ofString "_law_pick", qualname := PySem.Str.ofString "_law_pick", params := fP (dTop 37), body := fB (dTop 37), scope := fS (dTop 37), globals := 3, closure := [], defaults := PySem.Value.none, kwdefaults := PySem.Value.none, pyModule := PySem.Value.str (PySem.Str.ofString "law_pb0592_01") 503, code := PySem.Value.ref 238 } } ::
  { cls := PySem.Value.type "list", data := PySem.Data.seq #[PySem.Value.int 97 529, PySem.Value.int 233 530, PySem.Value.int 66 531, PySem.Value.int 45 532, PySem.Value.int 945 533, PySem.Value.int 57 534, PySem.Value.int 20013 535, PySem.Value.int 128512 536, PySem.Value.int 128 537, PySem.Value.int 1114111 538] } ::
  { cls := PySem.Value.type "tuple", data := PySem.Data.seq #[] } ::
  { cls := PySem.Value.none, data := PySem.Data.fields #[] } ::
  { cls := PySem.Value.none, data := PySem.Data.func { name := PySem.Str.ofString "_law_small", qualname := PySem.Str.ofString "_law_small", params := fP (dTop 40), body := fB (dTop 40), scope := fS (dTop 40), globals := 0, closure := [], defaults := PySem.Value.none, kwdefaults := PySem.Value.none } } ::
  { cls := PySem.Value.type "code", data := PySem.Data.fields #[PySem.Value.str (PySem.Str.ofString "_law_small") 542, PySem.Value.str (PySem.Str.ofString "_law_small") 543, PySem.Value.str (PySem.Str.ofString "/claim/cut.py") 544, PySem.Value.int 195 0, PySem.Value.int 1 0, PySem.Value.int 0 0, PySem.Value.int 0 0, PySem.Value.int 3 0, PySem.Value.ref 241, PySem.Value.bool Bool.true, PySem.Value.int 181 0, PySem.Value.ref 242, PySem.Value.none, PySem.Value.none, PySem.Value.none, PySem.Value.ref 243, PySem.Value.int 545 0, PySem.Value.int 195 0, PySem.Value.str (PySem.Str.ofString "/claim/cut.py") 546] } ::
  { cls := PySem.Value.type "function", data := PySem.Data.func { name := PySem.Str.ofString "_law_small", qualname := PySem.Str.ofString "_law_small", params := fP (dTop 40), body := fB (dTop 40), scope := fS (dTop 40), globals := 3, closure := [], defaults := PySem.Value.none, kwdefaults := PySem.Value.none, pyModule := PySem.Value.str (PySem.Str.ofString "law_pb0592_01") 503, code := PySem.Value.ref 244 } } ::
  { cls := PySem.Value.type "tuple", data := PySem.Data.seq #[] } ::
  { cls := PySem.Value.none, data := PySem.Data.fields #[] } ::
  { cls := PySem.Value.type "tuple", data := PySem.Data.seq #[PySem.Value.str (PySem.Str.ofString "deck") 551, PySem.Value.str (PySem.Str.ofString "octets") 552, PySem.Value.str (PySem.Str.ofString "found") 553, PySem.Value.str (PySem.Str.ofString "one") 554, PySem.Value.str (PySem.Str.ofString "is_letter") 555] } ::
  { cls := PySem.Value.type "tuple", data := PySem.Data.seq #[] } ::
  { cls := PySem.Value.none, data := PySem.Data.func { name := PySem.Str.ofString "_law_turned", qualname := PySem.Str.ofString "_law_turned", params := fP (dTop 41), body := fB (dTop 41), scope := fS (dTop 41), globals := 0, closure := [], defaults := PySem.Value.none, kwdefaults := PySem.Value.none } } ::
  { cls := PySem.Value.type "code", data := PySem.Data.fields #[PySem.Value.str (PySem.Str.ofString "_law_turned") 548, PySem.Value.str (PySem.Str.ofString "_law_turned") 549, PySem.Value.str (PySem.Str.ofString "/claim/cut.py") 550, PySem.Value.int 197 0, PySem.Value.int 2 0, PySem.Value.int 0 0, PySem.Value.int 0 0, PySem.Value.int 3 0, PySem.Value.ref 246, PySem.Value.bool Bool.true, PySem.Value.int 181 0, PySem.Value.ref 247, PySem.Value.none, PySem.Value.ref 248, PySem.Value.ref 249, PySem.Value.ref 250, PySem.Value.int 556 0, PySem.Value.int 197 0, PySem.Value.str (PySem.Str.ofString "/claim/cut.py") 557] } ::
  { cls := PySem.Value.type "function", data := PySem.Data.func { name := PySem.Str.ofString "_law_turned", qualname := PySem.Str.ofString "_law_turned", params := fP (dTop 41), body := fB (dTop 41), scope := fS (dTop 41), globals := 3, closure := [], defaults := PySem.Value.none, kwdefaults := PySem.Value.none, pyModule := PySem.Value.str (PySem.Str.ofString "law_pb0592_01") 503, code := PySem.Value.ref 251 } } ::
  { cls := PySem.Value.type "tuple", data := PySem.Data.seq #[] } ::
  { cls := PySem.Value.none, data := PySem.Data.fields #[] } ::
  { cls := PySem.Value.type "tuple", data := PySem.Data.seq #[PySem.Value.str (PySem.Str.ofString "octets") 562, PySem.Value.str (PySem.Str.ofString "found") 563] } ::
  { cls := PySem.Value.type "tuple", data := PySem.Data.seq #[] } ::
  { cls := PySem.Value.none, data := PySem.Data.func { name := PySem.Str.ofString "_law_read", qualname := PySem.Str.ofString "_law_read", params := fP (dTop 42), body := fB (dTop 42), scope := fS (dTop 42), globals := 0, closure := [], defaults := PySem.Value.none, kwdefaults := PySem.Value.none } } ::
  { cls := PySem.Value.type "code", data := PySem.Data.fields #[PySem.Value.str (PySem.Str.ofString "_law_read") 559, PySem.Value.str (PySem.Str.ofString "_law_read") 560, PySem.Value.str (PySem.Str.ofString "/claim/cut.py") 561, PySem.Value.int 203 0, PySem.Value.int 1 0, PySem.Value.int 0 0, PySem.Value.int 0 0, PySem.Value.int 3 0, PySem.Value.ref 253, PySem.Value.bool Bool.true, PySem.Value.int 181 0, PySem.Value.ref 254, PySem.Value.none, PySem.Value.ref 255, PySem.Value.ref 256, PySem.Value.ref 257, PySem.Value.int 564 0, PySem.Value.int 203 0, PySem.Value.str (PySem.Str.ofString "/claim/cut.py") 565] } ::
  { cls := PySem.Value.type "function", data := PySem.Data.func { name := PySem.Str.ofString "_law_read", qualname := PySem.Str.ofString "_law_read", params := fP (dTop 42), body := fB (dTop 42), scope := fS (dTop 42), globals := 3, closure := [], defaults := PySem.Value.none, kwdefaults := PySem.Value.none, pyModule := PySem.Value.str (PySem.Str.ofString "law_pb0592_01") 503, code := PySem.Value.ref 258 } } ::
  { cls := PySem.Value.type "tuple", data := PySem.Data.seq #[] } ::
  { cls := PySem.Value.none, data := PySem.Data.fields #[] } ::
  { cls := PySem.Value.none, data := PySem.Data.func { name := PySem.Str.ofString "_law_is_told", qualname := PySem.Str.ofString "_law_is_told", params := fP (dTop 43), body := fB (dTop 43), scope := fS (dTop 43), globals := 0, closure := [], defaults := PySem.Value.none, kwdefaults := PySem.Value.none } } ::
  { cls := PySem.Value.type "code", data := PySem.Data.fields #[PySem.Value.str (PySem.Str.ofString "_law_is_told") 567, PySem.Value.str (PySem.Str.ofString "_law_is_told") 568, PySem.Value.str (PySem.Str.ofString "/claim/cut.py") 569, PySem.Value.int 210 0, PySem.Value.int 1 0, PySem.Value.int 0 0, PySem.Value.int 0 0, PySem.Value.int 3 0, PySem.Value.ref 260, PySem.Value.bool Bool.true, PySem.Value.int 181 0, PySem.Value.ref 261, PySem.Value.none, PySem.Value.none, PySem.Value.none, PySem.Value.ref 262, PySem.Value.int 570 0, PySem.Value.int 210 0, PySem.Value.str (PySem.Str.ofString "/claim/cut.py") 571] } ::
  { cls := PySem.Value.type "function", data := PySem.Data.func { name := PySem.Str.ofString "_law_is_told", qualname := PySem.Str.ofString "_law_is_told", params := fP (dTop 43), body := fB (dTop 43), scope := fS (dTop 43), globals := 3, closure := [], defaults := PySem.Value.none, kwdefaults := PySem.Value.none, pyModule := PySem.Value.str (PySem.Str.ofString "law_pb0592_01") 503, code := PySem.Value.ref 263 } } ::
  { cls := PySem.Value.type "tuple", data := PySem.Data.seq #[] } ::
  { cls := PySem.Value.none, data := PySem.Data.fields #[] } ::
  { cls := PySem.Value.none, data := PySem.Data.func { name := PySem.Str.ofString "law", qualname := PySem.Str.ofString "law", params := fP (dTop 44), body := fB (dTop 44), scope := fS (dTop 44), globals := 0, closure := [], defaults := PySem.Value.none, kwdefaults := PySem.Value.none } } ::
  { cls := PySem.Value.type "code", data := PySem.Data.fields #[PySem.Value.str (PySem.Str.ofString "law") 573, PySem.Value.str (PySem.Str.ofString "law") 574, PySem.Value.str (PySem.Str.ofString "/claim/cut.py") 575, PySem.Value.int 216 0, PySem.Value.int 1 0, PySem.Value.int 0 0, PySem.Value.int 0 0, PySem.Value.int 3 0, PySem.Value.ref 265, PySem.Value.bool Bool.true, PySem.Value.int 181 0, PySem.Value.ref 266, PySem.Value.none, PySem.Value.none, PySem.Value.none, PySem.Value.ref 267, PySem.Value.int 576 0, PySem.Value.int 216 0, PySem.Value.str (PySem.Str.ofString "/claim/cut.py") 577] } ::
  { cls := PySem.Value.type "function", data := PySem.Data.func { name := PySem.Str.ofString "law", qualname := PySem.Str.ofString "law", params := fP (dTop 44), body := fB (dTop 44), scope := fS (dTop 44), globals := 3, closure := [], defaults := PySem.Value.none, kwdefaults := PySem.Value.none, pyModule := PySem.Value.str (PySem.Str.ofString "law_pb0592_01") 503, code := PySem.Value.ref 268 } } :: []) }
/-- the state behind the top -/
noncomputable abbrev hd.fin (w : World) (os : OsState) : Shared := ⟨hd.heap_end w.params, #[], {}, 579, os⟩
theorem hd.run : ∀ (w : World) (os : OsState), topRun treeTable PySem.Challenge.rw_pb0592_01.row.prog w 11 (some (Value.ref 6)) 3582 ⟨boot_heap w.params, Array.mk [], boot_drawn, boot_toks, os⟩ (topStub PySem.Challenge.rw_pb0592_01.row.prog) = some (hd.fin w os) := by
  intro w os
  rw [PySem.W.Fast.te14082659384304107361, PySem.W.Fast.te14364793385576792824]
  kernel_rfl
theorem hd.size : ∀ w : World, ((boot_heap w.params).isNs mainGlobals && (Array.mk [] : Array GenState).size == 0, (boot_heap w.params).objs.size, (boot_heap w.params).nsMap mainGlobals "__annotations__") = (true, 11, some (Value.ref 6)) := by
  intro w; kernel_rfl
theorem hd.kept : ∀ (w : World) (os : OsState), (staticsOk (importedModules PySem.Challenge.rw_pb0592_01.row.prog.main.body) (boot_heap w.params) (hd.heap_end w.params) && namesBound PySem.Challenge.rw_pb0592_01.row.prog (hd.heap_end w.params) && gensDone (hd.fin w os) && laidKept (boot_heap w.params) (hd.heap_end w.params)) = true := by
  intro w os
  rw [PySem.W.Fast.te5923862056798008813]
  kernel_rfl
theorem hd.looks : ∀ (w : World) (os : OsState), openSeen hd.view_39 hd.lo (importedModules PySem.Challenge.rw_pb0592_01.row.prog.main.body) (fun s => xlAt hd.view_39 [] s && recOk (RowW.records PySem.Challenge.rw_pb0592_01.row.toRowW) s) true (hd.fin w os) = openGood hd.view_39 hd.lo := by
  intro w os
  rw [PySem.W.Fast.te4187177175401517315, PySem.W.Fast.te5923862056798008813]
  kernel_rfl
theorem hd.obs : ∀ (w : World) (os : OsState), Hook.obs hd.hook (hd.fin w os) = Hook.val hd.hook w := by
  intro w os
  kernel_rfl
theorem hd.left : LeftO PySem.Challenge.rw_pb0592_01.row.prog hd.view_39 hd.lo (fun s => xlAt hd.view_39 [] s && recOk (RowW.records PySem.Challenge.rw_pb0592_01.row.toRowW) s) (Hook.obs hd.hook) (Hook.val hd.hook) 3582 :=
  LeftO.of_pieces (H₀ := boot_heap) (H₁ := hd.heap_end) (gs₀ := Array.mk []) (gs₁ := #[]) (d₀ := boot_drawn) (d₁ := {}) (k₀ := boot_toks) (k₁ := 579) (m₀ := 11) (ann := some (Value.ref 6)) (M := 3582)
    (boot_open (p := PySem.Challenge.rw_pb0592_01.row.prog) (N := 3582) (by kernel_rfl) (by kernel_rfl) (fun s => by rfl)) hd.size hd.run rfl
    (fun w => funext fun os => Prod.ext (hd.kept w os) (Prod.ext (hd.looks w os) (hd.obs w os)))
theorem hd.road : noRoadLSs { strict := !(importedModules PySem.Challenge.rw_pb0592_01.row.prog.main.body).all cThrough.contains, foot := none, bare := (["vars", "dir", "locals"] : List Str).filter (readsOut PySem.Challenge.rw_pb0592_01.row.prog PySem.Challenge.rw_pb0592_01.row.prog.main.body) } PySem.Challenge.rw_pb0592_01.row.prog.main.body = true := by
  rw [PySem.W.Fast.te8326940854005059898, PySem.W.Fast.te13343964577679436407, PySem.W.Fast.te5923862056798008813]
  kernel_rfl
theorem hd.meet : (namesMeet PySem.Challenge.rw_pb0592_01.row.prog PySem.Challenge.rw_pb0592_01.row.prog.main.body fun _ n => attrL n) = true := by
  rw [PySem.W.Fast.te17119622794617984870, PySem.W.Fast.te17868728402115742887]
  kernel_rfl
theorem hd.open : looksOpen PySem.Challenge.rw_pb0592_01.row.prog = true := by
  unfold looksOpen
  refine look_both (look_both ?_ hd.road) hd.meet
  rw [PySem.W.Fast.te8377067652309620493]
  kernel_rfl
theorem hd.row : PySem.Challenge.rw_pb0592_01.row.wellSaid = true := by
  unfold OpenRow.wellSaid OpenRow.partSaid
  iterate 15 (refine look_both ?_ ?_)
  · exact hd.open
  all_goals kernel_rfl
theorem hd.w16 : namesMeet PySem.Challenge.rw_pb0592_01.prog PySem.Challenge.rw_pb0592_01.above (fun _ n => !PySem.Challenge.rw_pb0592_01.own.contains n) = true := by
  rw [PySem.W.Fast.te17119622794617984870]
  kernel_rfl
theorem hd.w17 : (namesMeet PySem.Challenge.rw_pb0592_01.prog PySem.Challenge.rw_pb0592_01.footing fun sc n => sc.kind == .module || sc.names.lookup n != some .globalExplicit) = true := by
  rw [PySem.W.Fast.te17119622794617984870]
  kernel_rfl
theorem hd.w9 : (PySem.Challenge.rw_pb0592_01.bound'.all fun n => !builtinNamed n || PySem.Challenge.rw_pb0592_01.about == [n] || !PySem.Challenge.rw_pb0592_01.reads n) = true := by
  rw [PySem.W.Fast.te6984425678791042302]
  kernel_rfl
theorem hd.w7 : PySem.Challenge.rw_pb0592_01.namesIt = true := by
  rw [PySem.W.Fast.te16286561074155671207]
  kernel_rfl
theorem hd.w5 : noRoadLSs { strict := true, foot := some PySem.Challenge.rw_pb0592_01.bound', writes := PySem.Challenge.rw_pb0592_01.writes, may := PySem.Challenge.rw_pb0592_01.may } PySem.Challenge.rw_pb0592_01.footing = true := by
  rw [PySem.W.Fast.te8326940854005059898, PySem.W.Fast.te9572597257264208301]
  kernel_rfl
theorem hd.w15 : (PySem.Challenge.rw_pb0592_01.own.all fun n => !builtinNamed n) = true := by
  kernel_rfl
theorem hd.w2 : noClassBlock PySem.Challenge.rw_pb0592_01.prog PySem.Challenge.rw_pb0592_01.footing = true := by
  rw [PySem.W.Fast.te8179353310426384613]
  kernel_rfl
theorem hd.said : PySem.Challenge.rw_pb0592_01.wellSaid = true := by
  unfold OpenLaw.wellSaid
  iterate 18 (refine look_both ?_ ?_)
  · exact hd.row
  all_goals first | with_reducible exact hd.w16 | with_reducible exact hd.w17 | with_reducible exact hd.w9 | with_reducible exact hd.w7 | with_reducible exact hd.w5 | with_reducible exact hd.w15 | with_reducible exact hd.w2 | (rw [PySem.W.Fast.te10501279942588096481]; kernel_rfl) | (rw [PySem.W.Fast.te9558739934217749035]; kernel_rfl) | (rw [PySem.W.Fast.te17119622794617984870]; kernel_rfl) | kernel_rfl
theorem hd.whole : PySem.Challenge.rw_pb0592_01.row.prog.tablesWhole = true := by
  kernel_rfl
theorem hd.fill : PySem.Challenge.rw_pb0592_01.Holds → hd.heap_39 = hd.heap_39 := by
  k_fill
  intro _
  rfl
def adL : Nat → Int → Int → Int
  | 0, d, c => 36 * c + (36 * d).fdiv (d + 38)
  | f + 1, d, c => if 455 < d then adL f (d.fdiv 35) (c + 1) else 36 * c + (36 * d).fdiv (d + 38)
def adapt (d many : Int) (first : Bool) : Int :=
  let a := if first then d.fdiv 700 else d.fdiv 2
  let b := a + a.fdiv many
  adL (b.toNat + 1) b 0
theorem adL_go {n : Nat} {d c : Int} (h : 455 < d) (hn : d.toNat < n) : ∃ k, (d.fdiv 35).toNat < k ∧ adL n d c = adL k (d.fdiv 35) (c + 1) := by
  cases n with
  | zero => omega
  | succ k =>
    refine ⟨k, ?_, by rw [adL, if_pos h]⟩
    have : d.fdiv 35 = d / 35 := Int.fdiv_eq_ediv_of_nonneg _ (by decide)
    omega
theorem ad_less {c : Int} (h : 455 < c) : (c.fdiv 35).toNat < c.toNat := by
  rw [Int.fdiv_eq_ediv_of_nonneg _ (by decide)]
  omega
theorem adL_end {n : Nat} {d c : Int} (h : ¬ 455 < d) : adL n d c = 36 * c + (36 * d).fdiv (d + 38) := by
  cases n with
  | zero => rfl
  | succ k => rw [adL, if_neg h]
def thr (p b : Int) : Int := if 36 * p - b < 1 then 1 else if 26 < 36 * p - b then 26 else 36 * p - b
theorem thr_lo (p b : Int) : 1 ≤ thr p b := by unfold thr; split <;> (try split) <;> omega
theorem thr_hi (p b : Int) : thr p b ≤ 26 := by unfold thr; split <;> (try split) <;> omega
def fig (v : Int) (c : Bool) : Int := if 26 ≤ v then 48 + v - 26 else (if c then 65 else 97) + v
def valOf (o : Int) : Option Int := if 97 ≤ o ∧ o < 123 then some (o - 97) else if 65 ≤ o ∧ o < 91 then some (o - 65) else if 48 ≤ o ∧ o < 58 then some (o - 48 + 26) else none
def isCode (i : Int) : Bool := decide (0 ≤ i ∧ i ≤ 1114111)
def isSurr (i : Int) : Bool := decide (55296 ≤ i ∧ i ≤ 57343)
def isScalar (i : Int) : Bool := isCode i && !isSurr i
def isCap (o : Int) : Bool := decide (65 ≤ o ∧ o < 91)
def pnum (b : Int) : Nat → Int → Int → List Int
  | 0, _, _ => []
  | f + 1, v, p => if v < thr p b then [fig v false] else fig (thr p b + (v - thr p b).fmod (36 - thr p b)) false :: pnum b f ((v - thr p b).fdiv (36 - thr p b)) (p + 1)
def pnumT (v b : Int) : List Int := pnum b 41 v 1
/-- what is left of a number's figures -/
def PnW (R : List Int) (b v p : Int) (fs : List Int) : Prop := ∃ k : Nat, v < 2 ^ k ∧ fs.length + k = 40 ∧ fs ++ pnum b (k + 1) v p = R
theorem PnW.start {v b : Int} (h : v < 2 ^ 40) : PnW (pnumT v b) b v 1 [] := ⟨40, h, rfl, rfl⟩
theorem PnW.len {R : List Int} {b v p : Int} {fs : List Int} (h : PnW R b v p fs) : fs.length ≤ 40 := by obtain ⟨k, _, h, _⟩ := h; omega
theorem PnW.fin {R : List Int} {b v p : Int} {fs : List Int} (h : PnW R b v p fs) (hv : v < thr p b) : fs ++ [fig v false] = R := by
  obtain ⟨k, _, _, h⟩ := h
  rw [pnum, if_pos hv] at h
  exact h
theorem PnW.go {R : List Int} {b v p : Int} {fs : List Int} (h : PnW R b v p fs) (hv : ¬ v < thr p b) :
    PnW R b ((v - thr p b).fdiv (36 - thr p b)) (p + 1) (fs ++ [fig (thr p b + (v - thr p b).fmod (36 - thr p b)) false]) := by
  obtain ⟨k, h1, h2, h3⟩ := h
  have hl := thr_lo p b
  have hh := thr_hi p b
  rw [pnum, if_neg hv] at h3
  cases k with
  | zero => simp at h1; omega
  | succ k =>
    refine ⟨k, ?_, by simp; omega, by rw [List.append_assoc]; exact h3⟩
    rw [Int.fdiv_eq_ediv_of_nonneg _ (by omega)]
    refine Int.ediv_lt_of_lt_mul (by omega) ?_
    have e : (2 : Int) ^ (k + 1) = 2 * 2 ^ k := by rw [Int.pow_succ]; omega
    have hp : (0 : Int) < 2 ^ k := Int.pow_pos (by decide)
    have : (2 : Int) ^ k * 10 ≤ 2 ^ k * (36 - thr p b) := Int.mul_le_mul_of_nonneg_left (by omega) (by omega)
    omega
theorem pn_less {v p b : Int} (hv : ¬ v < thr p b) : 0 ≤ (v - thr p b).fdiv (36 - thr p b) ∧ ((v - thr p b).fdiv (36 - thr p b)).toNat < v.toNat := by
  have hl := thr_lo p b
  have hh := thr_hi p b
  rw [Int.fdiv_eq_ediv_of_nonneg _ (by omega)]
  have h0 : 0 ≤ (v - thr p b) / (36 - thr p b) := Int.ediv_nonneg (by omega) (by omega)
  have h1 : (v - thr p b) / (36 - thr p b) ≤ v - thr p b := Int.ediv_le_self _ (by omega)
  omega
def numAt (os : List Int) (bias : Int) : Nat → Int → Int → Int → Int → Option (Int × Int)
  | 0, _, _, _, _ => none
  | f + 1, a, v, wt, p => match valOf (os.getD a.toNat 0) with
    | none => none
    | some fg => if 36 ≤ fg then none else if fg < thr p bias then some (v + fg * wt, a + 1) else numAt os bias f (a + 1) (v + fg * wt) (wt * (36 - thr p bias)) (p + 1)
def numAtT (os : List Int) (bias a : Int) : Option (Int × Int) := numAt os bias (os.length - a.toNat) a 0 1 1
def NaW (os : List Int) (bias : Int) (R : Option (Int × Int)) (a v wt p : Int) : Prop := numAt os bias (os.length - a.toNat) a v wt p = R
theorem NaW.start (os : List Int) (bias a : Int) : NaW os bias (numAtT os bias a) a 0 1 1 := rfl
theorem NaW.short {os : List Int} {bias : Int} {R : Option (Int × Int)} {a v wt p : Int} (h : NaW os bias R a v wt p) (ha : (os.length : Int) ≤ a) : R = none := by
  unfold NaW at h
  rw [show os.length - a.toNat = 0 by omega] at h
  exact h.symm
theorem NaW.step {os : List Int} {bias : Int} {R : Option (Int × Int)} {a v wt p : Int} (h : NaW os bias R a v wt p) (ha : ¬ (os.length : Int) ≤ a) (h0 : 0 ≤ a) :
    match valOf (os.getD a.toNat 0) with
    | none => R = none
    | some fg => if 36 ≤ fg then R = none else if fg < thr p bias then R = some (v + fg * wt, a + 1) else NaW os bias R (a + 1) (v + fg * wt) (wt * (36 - thr p bias)) (p + 1) := by
  unfold NaW at h ⊢
  rw [show os.length - a.toNat = (os.length - (a + 1).toNat) + 1 by omega, numAt] at h
  cases hv : valOf (os.getD a.toNat 0) with
  | none => rw [hv] at h; exact h.symm
  | some fg =>
    rw [hv] at h
    dsimp only at h ⊢
    split
    · rw [if_pos (by assumption)] at h; exact h.symm
    · rw [if_neg (by assumption)] at h
      split
      · rw [if_pos (by assumption)] at h; exact h.symm
      · rw [if_neg (by assumption)] at h; exact h
theorem valOf_rng {o fg : Int} (h : valOf o = some fg) : 0 ≤ fg ∧ fg < 36 := by
  unfold valOf at h
  (repeat' split at h) <;> first | (obtain rfl := Option.some.inj h; omega) | cases h
theorem fig_rng {v : Int} (h0 : 0 ≤ v) (h1 : v < 36) : 48 ≤ fig v false ∧ fig v false ≤ 122 := by
  unfold fig; split <;> (try simp only [Bool.false_eq_true, if_false]) <;> omega
def leastOf (i : Int) : List Int → Option Int
  | [] => none
  | a :: r => match leastOf i r with
    | none => if i ≤ a then some a else none
    | some m => if i ≤ a ∧ a < m then some a else some m
theorem leastOf_spec (i : Int) : ∀ ns : List Int, match leastOf i ns with
    | none => ∀ a ∈ ns, ¬ i ≤ a
    | some m => m ∈ ns ∧ i ≤ m ∧ ∀ a ∈ ns, i ≤ a → m ≤ a
  | [] => by intro a h; cases h
  | a :: r => by
    have ih := leastOf_spec i r
    unfold leastOf
    cases hr : leastOf i r with
    | none =>
      rw [hr] at ih
      dsimp only at ih ⊢
      by_cases h : i ≤ a
      · rw [if_pos h]
        refine ⟨List.mem_cons_self .., h, fun b hb hib => ?_⟩
        rcases List.mem_cons.mp hb with rfl | hb
        · exact Int.le_refl _
        · exact absurd hib (ih b hb)
      · rw [if_neg h]
        intro b hb
        rcases List.mem_cons.mp hb with rfl | hb
        · exact h
        · exact ih b hb
    | some m =>
      rw [hr] at ih
      dsimp only at ih ⊢
      obtain ⟨h1, h2, h3⟩ := ih
      by_cases h : i ≤ a ∧ a < m
      · rw [if_pos h]
        refine ⟨List.mem_cons_self .., h.1, fun b hb hib => ?_⟩
        rcases List.mem_cons.mp hb with rfl | hb
        · exact Int.le_refl _
        · have := h3 b hb hib; omega
      · rw [if_neg h]
        refine ⟨List.mem_cons_of_mem _ h1, h2, fun b hb hib => ?_⟩
        rcases List.mem_cons.mp hb with rfl | hb
        · omega
        · exact h3 b hb hib
theorem leastOf_is {i M : Int} {ns : List Int} (h1 : M ∈ ns) (h2 : i ≤ M) (h3 : ∀ a ∈ ns, i ≤ a → M ≤ a) : leastOf i ns = some M := by
  have h := leastOf_spec i ns
  cases hr : leastOf i ns with
  | none => rw [hr] at h; exact absurd h2 (h M h1)
  | some m =>
    rw [hr] at h
    obtain ⟨a, b, c⟩ := h
    have := h3 m a b
    have := c M h1 h2
    have e : m = M := by omega
    rw [e]
def splAt (os : List Int) : Nat → Nat
  | 0 => 0
  | n + 1 => if os.getD (n + 1) 0 = 45 then n + 1 else splAt os n
def splA (os : List Int) : Nat := splAt os (os.length - 1)
def splN (os : List Int) : Int := if splA os = 0 then 0 else (splA os : Int) + 1
theorem splAt_le (os : List Int) : ∀ n, splAt os n ≤ n
  | 0 => Nat.le_refl _
  | n + 1 => by
    unfold splAt
    split
    · exact Nat.le_refl _
    · exact Nat.le_succ_of_le (splAt_le os n)
theorem splAt_go {os : List Int} {a : Int} (h0 : 0 < a) (h : os.getD a.toNat 0 ≠ 45) : splAt os a.toNat = splAt os (a - 1).toNat := by
  rw [show a.toNat = (a - 1).toNat + 1 by omega] at h ⊢
  rw [splAt, if_neg h]
theorem splAt_hit {os : List Int} {a : Int} (h0 : 0 < a) (h : os.getD a.toNat 0 = 45) : splAt os a.toNat = a.toNat := by
  rw [show a.toNat = (a - 1).toNat + 1 by omega] at h ⊢
  rw [splAt, if_pos h]
theorem splA_lt {os : List Int} (h : splA os ≠ 0) : splA os < os.length := by
  have := splAt_le os (os.length - 1)
  unfold splA at h ⊢
  omega
theorem numAt_ok (os : List Int) (bias : Int) : ∀ (f : Nat) (a v wt p : Int) (r : Int × Int), numAt os bias f a v wt p = some r → 0 ≤ a → f = os.length - a.toNat → 0 ≤ v → 0 ≤ wt → a < r.2 ∧ r.2 ≤ os.length ∧ 0 ≤ r.1
  | 0, _, _, _, _, _, h, _, _, _, _ => by cases h
  | f + 1, a, v, wt, p, r, h, ha, hf, hv, hw => by
    rw [numAt] at h
    have hl := thr_hi p bias
    cases hx : valOf (os.getD a.toNat 0) with
    | none => rw [hx] at h; cases h
    | some fg =>
      rw [hx] at h
      dsimp only at h
      have hr := valOf_rng hx
      have hm : 0 ≤ fg * wt := Int.mul_nonneg hr.1 hw
      by_cases h1 : 36 ≤ fg
      · rw [if_pos h1] at h; cases h
      · rw [if_neg h1] at h
        by_cases h2 : fg < thr p bias
        · rw [if_pos h2] at h
          obtain rfl := Option.some.inj h
          dsimp only
          omega
        · rw [if_neg h2] at h
          have := numAt_ok os bias f _ _ _ _ r h (by omega) (by omega) (by omega) (Int.mul_nonneg hw (by omega))
          omega
theorem numAtT_ok {os : List Int} {bias a v a' : Int} (h : numAtT os bias a = some (v, a')) (ha : 0 ≤ a) : a < a' ∧ a' ≤ os.length ∧ 0 ≤ v :=
  numAt_ok os bias _ _ _ _ _ _ h ha rfl (by decide) (by decide)
def decL (os : List Int) (nb : Int) : Nat → Int → Int → Int → Int → List Int → Option (List Int)
  | 0, _, _, _, _, ts => some ts
  | f + 1, a, code, index, bias, ts => if a < os.length then
      match numAtT os bias a with
      | none => none
      | some (d, a') =>
        if 1114111 < code + (index + d).fdiv (ts.length + 1) then none
        else if isScalar (code + (index + d).fdiv (ts.length + 1)) = true then
          decL os nb f a' (code + (index + d).fdiv (ts.length + 1)) ((index + d).fmod (ts.length + 1) + 1) (adapt d (ts.length + 1) (decide (index = 0) && decide ((ts.length : Int) = nb)))
            (ts.take ((index + d).fmod (ts.length + 1)).toNat ++ [code + (index + d).fdiv (ts.length + 1)] ++ ts.drop ((index + d).fmod (ts.length + 1)).toNat)
        else none
    else some ts
def decF (os : List Int) : Option (List Int) :=
  if (os.take (splA os)).all (fun n => decide (n < 128)) then decL os (splA os) os.length (splN os) 128 0 72 (os.take (splA os)) else none
def DeW (os : List Int) (nb : Int) (R : Option (List Int)) (a code index bias : Int) (ts : List Int) : Prop := ∃ n : Nat, os.length - a.toNat ≤ n ∧ decL os nb n a code index bias ts = R
theorem DeW.fin {os : List Int} {nb : Int} {R : Option (List Int)} {a code index bias : Int} {ts : List Int} (h : DeW os nb R a code index bias ts) (ha : ¬ a < os.length) : R = some ts := by
  obtain ⟨n, _, h⟩ := h
  cases n with
  | zero => exact h.symm
  | succ n => rw [decL, if_neg ha] at h; exact h.symm
theorem DeW.step {os : List Int} {nb : Int} {R : Option (List Int)} {a code index bias : Int} {ts : List Int} (h : DeW os nb R a code index bias ts) (ha : a < os.length) (h0 : 0 ≤ a) :
    match numAtT os bias a with
    | none => R = none
    | some (d, a') =>
      if 1114111 < code + (index + d).fdiv (ts.length + 1) then R = none
      else if isScalar (code + (index + d).fdiv (ts.length + 1)) = true then
        DeW os nb R a' (code + (index + d).fdiv (ts.length + 1)) ((index + d).fmod (ts.length + 1) + 1) (adapt d (ts.length + 1) (decide (index = 0) && decide ((ts.length : Int) = nb)))
          (ts.take ((index + d).fmod (ts.length + 1)).toNat ++ [code + (index + d).fdiv (ts.length + 1)] ++ ts.drop ((index + d).fmod (ts.length + 1)).toNat)
      else R = none := by
  obtain ⟨n, hn, h⟩ := h
  cases n with
  | zero => omega
  | succ n =>
    rw [decL, if_pos ha] at h
    cases hx : numAtT os bias a with
    | none => rw [hx] at h; exact h.symm
    | some r =>
      obtain ⟨d, a'⟩ := r
      rw [hx] at h
      dsimp only at h ⊢
      have ok := numAtT_ok hx h0
      by_cases h1 : 1114111 < code + (index + d).fdiv (ts.length + 1)
      · rw [if_pos h1] at h ⊢; exact h.symm
      · rw [if_neg h1] at h ⊢
        by_cases h2 : isScalar (code + (index + d).fdiv (ts.length + 1)) = true
        · rw [if_pos h2] at h ⊢
          exact ⟨n, by omega, h⟩
        · rw [if_neg h2] at h ⊢
          exact h.symm
theorem dec_start {os : List Int} (h : ∀ n ∈ os.take (splA os), n < 128) : DeW os (splA os) (decF os) (splN os) 128 0 72 (os.take (splA os)) := by
  refine ⟨os.length, by omega, ?_⟩
  unfold decF
  rw [if_pos (List.all_eq_true.mpr fun n hn => decide_eq_true (h n hn))]
theorem dec_bad {os : List Int} {n : Int} (hn : n ∈ os.take (splA os)) (h : ¬ n < 128) : decF os = none := by
  unfold decF
  rw [if_neg fun q => h (of_decide_eq_true (List.all_eq_true.mp q n hn))]
theorem splN_rng (os : List Int) : 0 ≤ splN os ∧ splN os ≤ os.length ∧ ((splA os : Nat) : Int) ≤ splN os := by
  unfold splN
  split
  · rename_i h; rw [h]; simp
  · rename_i h; have := splA_lt h; omega
theorem splA_le (os : List Int) : splA os ≤ os.length := by
  have := splAt_le os (os.length - 1)
  unfold splA
  omega
structure EnS where
  d : Int
  b : Int
  n : Int
  fs : List Int
def encTurn (many code : Int) (c : EnS) (one : Int) : EnS :=
  if one < code then ⟨c.d + 1, c.b, c.n, c.fs⟩ else if one = code then ⟨0, adapt c.d (c.n + 1) (decide (c.n = many)), c.n + 1, c.fs ++ pnumT c.d c.b⟩ else c
def encIn (many code : Int) (c : EnS) (ns : List Int) : EnS := ns.foldl (encTurn many code) c
theorem encIn_snoc {many code : Int} {c : EnS} {pre : List Int} {n : Int} : encIn many code c (pre ++ [n]) = encTurn many code (encIn many code c pre) n := by
  simp [encIn, List.foldl_append]
def cntB (code : Int) (ns : List Int) : Nat := ns.countP (fun n => decide (n < code))
def cntE (code : Int) (ns : List Int) : Nat := ns.countP (fun n => decide (n = code))
def byt (fs : List Int) : Prop := ∀ x ∈ fs, 0 ≤ x ∧ x < 256
theorem pnum_len (b : Int) : ∀ (f : Nat) (v p : Int), (pnum b f v p).length ≤ f
  | 0, _, _ => Nat.le_refl _
  | f + 1, v, p => by
    rw [pnum]
    split
    · simp
    · have := pnum_len b f ((v - thr p b).fdiv (36 - thr p b)) (p + 1)
      simp only [List.length_cons]
      omega
theorem pnum_rng (b : Int) : ∀ (f : Nat) (v p : Int), 0 ≤ v → byt (pnum b f v p)
  | 0, _, _, _ => by intro x h; cases h
  | f + 1, v, p, h0 => by
    have hl := thr_lo p b
    have hh := thr_hi p b
    rw [pnum]
    split
    · intro x h
      have := fig_rng (v := v) h0 (by omega)
      rw [List.mem_singleton.mp h]
      omega
    · intro x h
      rcases List.mem_cons.mp h with rfl | h
      · have e : (v - thr p b).fmod (36 - thr p b) = (v - thr p b) % (36 - thr p b) := Int.fmod_eq_emod_of_nonneg _ (by omega)
        have a1 := Int.emod_nonneg (v - thr p b) (b := 36 - thr p b) (by omega)
        have a2 := Int.emod_lt_of_pos (v - thr p b) (b := 36 - thr p b) (by omega)
        have := fig_rng (v := thr p b + (v - thr p b).fmod (36 - thr p b)) (by omega) (by omega)
        omega
      · refine pnum_rng b f _ _ ?_ x h
        exact Int.fdiv_nonneg (by omega) (by omega)
theorem pnumT_len (v b : Int) : (pnumT v b).length ≤ 41 := pnum_len _ _ _ _
theorem encIn_ok {many code : Int} : ∀ (pre : List Int) (c : EnS), 0 ≤ c.d → byt c.fs →
    0 ≤ (encIn many code c pre).d ∧ (encIn many code c pre).d ≤ c.d + pre.length ∧ (encIn many code c pre).n = c.n + cntE code pre ∧ (encIn many code c pre).fs.length ≤ c.fs.length + 41 * cntE code pre ∧ byt (encIn many code c pre).fs ∧ ∃ t, (encIn many code c pre).fs = c.fs ++ t
  | [], c, h0, hb => by simp [encIn, cntE, h0, hb]
  | a :: r, c, h0, hb => by
    have e : encIn many code c (a :: r) = encIn many code (encTurn many code c a) r := rfl
    rw [e]
    have hc : cntE code (a :: r) = cntE code r + (if a = code then 1 else 0) := by
      unfold cntE
      rw [List.countP_cons]
      simp
    rw [hc]
    by_cases h1 : a < code
    · have ht : encTurn many code c a = ⟨c.d + 1, c.b, c.n, c.fs⟩ := by rw [encTurn, if_pos h1]
      rw [ht, if_neg (by omega)]
      obtain ⟨q1, q2, q3, q4, q5, q6⟩ := encIn_ok (many := many) (code := code) r ⟨c.d + 1, c.b, c.n, c.fs⟩ (by dsimp only; omega) hb
      dsimp only at q2 q3 q4
      simp only [List.length_cons]
      exact ⟨q1, by omega, by omega, by omega, q5, q6⟩
    · by_cases h2 : a = code
      · have ht : encTurn many code c a = ⟨0, adapt c.d (c.n + 1) (decide (c.n = many)), c.n + 1, c.fs ++ pnumT c.d c.b⟩ := by rw [encTurn, if_neg h1, if_pos h2]
        rw [ht, if_pos h2]
        have hl := pnumT_len c.d c.b
        obtain ⟨q1, q2, q3, q4, q5, q6⟩ := encIn_ok (many := many) (code := code) r ⟨0, adapt c.d (c.n + 1) (decide (c.n = many)), c.n + 1, c.fs ++ pnumT c.d c.b⟩ (by dsimp only; omega) (by
          intro x hx
          rcases List.mem_append.mp hx with hx | hx
          · exact hb x hx
          · exact pnum_rng _ _ _ _ h0 x hx)
        dsimp only at q2 q3 q4 q6
        simp only [List.length_cons]
        rw [List.length_append] at q4
        obtain ⟨t, q6⟩ := q6
        exact ⟨q1, by omega, by omega, by omega, q5, _, by rw [q6, List.append_assoc]⟩
      · have ht : encTurn many code c a = c := by rw [encTurn, if_neg h1, if_neg h2]
        rw [ht, if_neg h2]
        obtain ⟨q1, q2, q3, q4, q5, q6⟩ := encIn_ok (many := many) (code := code) r c h0 hb
        simp only [List.length_cons]
        exact ⟨q1, by omega, by omega, by omega, q5, q6⟩
def encL (ns : List Int) (many : Int) : Nat → Int → EnS → List Int
  | 0, _, c => c.fs
  | f + 1, code, c => if c.n < ns.length then
      match leastOf code ns with
      | none => c.fs
      | some m => encL ns many f (m + 1) ⟨(encIn many m ⟨c.d + (m - code) * (c.n + 1), c.b, c.n, c.fs⟩ ns).d + 1, (encIn many m ⟨c.d + (m - code) * (c.n + 1), c.b, c.n, c.fs⟩ ns).b, (encIn many m ⟨c.d + (m - code) * (c.n + 1), c.b, c.n, c.fs⟩ ns).n, (encIn many m ⟨c.d + (m - code) * (c.n + 1), c.b, c.n, c.fs⟩ ns).fs⟩
    else c.fs
def encB (ns : List Int) : List Int := ns.filter (fun n => decide (n < 128))
def encH (ns : List Int) : List Int := if 0 < (encB ns).length then encB ns ++ [45] else encB ns
def encF (ns : List Int) : List Int := encL ns (encB ns).length ns.length 128 ⟨0, 72, (encB ns).length, encH ns⟩
structure EnI (ns : List Int) (many : Int) (R : List Int) (code : Int) (c : EnS) : Prop where
  n : c.n = cntB code ns
  d0 : 0 ≤ c.d
  d1 : c.d ≤ code * (ns.length + 1)
  c0 : 0 ≤ code
  c1 : code ≤ 1114112
  l : (c.fs.length : Int) ≤ ns.length + 1 + 41 * c.n
  by' : byt c.fs
  w : ∃ k : Nat, ns.length - c.n.toNat ≤ k ∧ encL ns many k code c = R
theorem cntB_le (code : Int) (ns : List Int) : cntB code ns ≤ ns.length := List.countP_le_length
theorem EnI.n0 {ns : List Int} {many : Int} {R : List Int} {code : Int} {c : EnS} (h : EnI ns many R code c) : 0 ≤ c.n ∧ c.n ≤ ns.length := by
  have := cntB_le code ns
  rw [h.n]
  omega
theorem EnI.fin {ns : List Int} {many : Int} {R : List Int} {code : Int} {c : EnS} (h : EnI ns many R code c) (hn : ¬ c.n < ns.length) : R = c.fs := by
  obtain ⟨k, _, e⟩ := h.w
  cases k with
  | zero => exact e.symm
  | succ k => rw [encL, if_neg hn] at e; exact e.symm
theorem EnI.more {ns : List Int} {many : Int} {R : List Int} {code : Int} {c : EnS} (h : EnI ns many R code c) (hn : c.n < ns.length) : ∃ j ∈ ns, code ≤ j := by
  apply Classical.byContradiction
  intro q
  have : ∀ a ∈ ns, decide (a < code) = true := fun a ha => decide_eq_true (Int.not_le.mp fun z => q ⟨a, ha, z⟩)
  have e : cntB code ns = ns.length := List.countP_eq_length.mpr this
  rw [h.n, e] at hn
  omega
theorem cnt_add (m : Int) (ns : List Int) : cntB (m + 1) ns = cntB m ns + cntE m ns := by
  unfold cntB cntE
  induction ns with
  | nil => rfl
  | cons a r ih =>
    rw [List.countP_cons, List.countP_cons, List.countP_cons, ih]
    by_cases h1 : a < m
    · rw [if_pos (decide_eq_true (by omega)), if_pos (decide_eq_true h1), if_neg (by simp; omega)]; omega
    · by_cases h2 : a = m
      · rw [if_pos (decide_eq_true (by omega)), if_neg (by simp; omega), if_pos (decide_eq_true h2)]; omega
      · rw [if_neg (by simp; omega), if_neg (by simp; omega), if_neg (by simp [h2])]; omega
theorem cnt_least {code m : Int} {ns : List Int} (h : code ≤ m) (hl : ∀ a ∈ ns, code ≤ a → m ≤ a) : cntB m ns = cntB code ns := by
  unfold cntB
  apply List.countP_congr
  intro a ha
  have := hl a ha
  simp only [decide_eq_true_eq]
  constructor
  · intro z
    apply Int.not_le.mp
    intro q
    have := this q
    omega
  · intro z; omega
theorem EnI.d {ns : List Int} {many : Int} {R : List Int} {code m : Int} {c : EnS} (h : EnI ns many R code c) (hm : code ≤ m) : 0 ≤ c.d + (m - code) * (c.n + 1) ∧ c.d + (m - code) * (c.n + 1) ≤ m * (ns.length + 1) := by
  have hn := h.n0
  have h0 := h.d0
  have h1 := h.d1
  have a1 : 0 ≤ (m - code) * (c.n + 1) := Int.mul_nonneg (by omega) (by omega)
  have a2 : (m - code) * (c.n + 1) ≤ (m - code) * (ns.length + 1) := Int.mul_le_mul_of_nonneg_left (by omega) (by omega)
  rw [Int.sub_mul m code (ns.length + 1)] at a2
  omega
theorem mul_cap {m : Int} {n : Nat} (h : m ≤ 1114111) (h0 : 0 ≤ m) (hn : n ≤ 4096) : m * (n + 1) ≤ 4564512767 := by
  have : m * (n + 1) ≤ 1114111 * (n + 1) := Int.mul_le_mul_of_nonneg_right h (by omega)
  omega
theorem EnI.step {ns : List Int} {many : Int} {R : List Int} {code m : Int} {c : EnS} (h : EnI ns many R code c) (hn : c.n < ns.length) (hm : leastOf code ns = some m) (hs : ∀ i ∈ ns, i ≤ 1114111) :
    EnI ns many R (m + 1) ⟨(encIn many m ⟨c.d + (m - code) * (c.n + 1), c.b, c.n, c.fs⟩ ns).d + 1, (encIn many m ⟨c.d + (m - code) * (c.n + 1), c.b, c.n, c.fs⟩ ns).b, (encIn many m ⟨c.d + (m - code) * (c.n + 1), c.b, c.n, c.fs⟩ ns).n, (encIn many m ⟨c.d + (m - code) * (c.n + 1), c.b, c.n, c.fs⟩ ns).fs⟩ ∧
      c.n < (encIn many m ⟨c.d + (m - code) * (c.n + 1), c.b, c.n, c.fs⟩ ns).n := by
  have sp := leastOf_spec code ns
  rw [hm] at sp
  obtain ⟨s1, s2, s3⟩ := sp
  have hd := h.d s2
  have h4 := h.n0
  obtain ⟨q1, q2, q3, q4, q5, _⟩ := encIn_ok (many := many) (code := m) ns ⟨c.d + (m - code) * (c.n + 1), c.b, c.n, c.fs⟩ hd.1 h.by'
  dsimp only at q2 q3 q4
  have hE : 0 < cntE m ns := List.countP_pos_iff.mpr ⟨m, s1, by simp⟩
  have hl := h.l
  have hs1 := hs m s1
  have hc0 := h.c0
  refine ⟨⟨?_, by dsimp only; omega, ?_, by omega, by omega, ?_, q5, ?_⟩, by omega⟩
  · dsimp only
    rw [q3, cnt_add, cnt_least s2 s3, h.n]
    omega
  · dsimp only
    rw [Int.add_mul]
    omega
  · dsimp only
    omega
  · obtain ⟨k, k1, k2⟩ := h.w
    cases k with
    | zero => omega
    | succ k =>
      rw [encL, if_pos hn, hm] at k2
      exact ⟨k, by dsimp only; omega, k2⟩
theorem least_fits {code m : Int} {ns : List Int} (h : leastOf code ns = some m) (hs : ∀ i ∈ ns, i ≤ 1114111) : code ≤ m ∧ m ≤ 1114111 := by
  have sp := leastOf_spec code ns
  rw [h] at sp
  exact ⟨sp.2.1, hs m sp.1⟩
theorem byt_B {ns : List Int} (hs : ∀ i ∈ ns, 0 ≤ i) : byt (encB ns) := by
  intro x hx
  have := List.mem_filter.mp hx
  have h2 := of_decide_eq_true this.2
  have := hs x this.1
  omega
theorem en_start {ns : List Int} (hs : ∀ i ∈ ns, 0 ≤ i) : EnI ns (encB ns).length (encF ns) 128 ⟨0, 72, (encB ns).length, encH ns⟩ := by
  have e : cntB 128 ns = (encB ns).length := List.countP_eq_length_filter
  have hle : (encB ns).length ≤ ns.length := List.length_filter_le _ _
  refine ⟨by rw [e], Int.le_refl _, by dsimp only; omega, by decide, by decide, ?_, ?_, ns.length, by omega, rfl⟩
  · dsimp only
    unfold encH
    split
    · rw [List.length_append]; simp only [List.length_singleton]; omega
    · omega
  · dsimp only
    unfold encH
    split
    · intro x hx
      rcases List.mem_append.mp hx with hx | hx
      · exact byt_B hs x hx
      · rw [List.mem_singleton.mp hx]; decide
    · exact byt_B hs
theorem decL_ok (os : List Int) (nb : Int) : ∀ (f : Nat) (a code index bias : Int) (ts ns : List Int), decL os nb f a code index bias ts = some ns → 0 ≤ a → a ≤ os.length → (ts.length : Int) ≤ a → (∀ t ∈ ts, isScalar t = true) →
    ns.length ≤ os.length ∧ ∀ t ∈ ns, isScalar t = true
  | 0, a, code, index, bias, ts, ns, h, h0, h1, h2, h3 => by
    rw [decL] at h
    obtain rfl := Option.some.inj h
    exact ⟨by omega, h3⟩
  | f + 1, a, code, index, bias, ts, ns, h, h0, h1, h2, h3 => by
    rw [decL] at h
    by_cases ha : a < os.length
    · rw [if_pos ha] at h
      cases hx : numAtT os bias a with
      | none => rw [hx] at h; cases h
      | some r =>
        obtain ⟨d, a'⟩ := r
        rw [hx] at h
        have ok := numAtT_ok hx h0
        dsimp only at h ok
        by_cases q1 : 1114111 < code + (index + d).fdiv (ts.length + 1)
        · rw [if_pos q1] at h; cases h
        · rw [if_neg q1] at h
          by_cases q2 : isScalar (code + (index + d).fdiv (ts.length + 1)) = true
          · rw [if_pos q2] at h
            refine decL_ok os nb f _ _ _ _ _ ns h (by omega) (by omega) ?_ ?_
            · simp only [List.length_append, List.length_take, List.length_drop, List.length_singleton]
              omega
            · intro t ht
              rcases List.mem_append.mp ht with ht | ht
              · rcases List.mem_append.mp ht with ht | ht
                · exact h3 t (List.mem_of_mem_take ht)
                · rw [List.mem_singleton.mp ht]; exact q2
              · exact h3 t (List.mem_of_mem_drop ht)
          · rw [if_neg q2] at h; cases h
    · rw [if_neg ha] at h
      obtain rfl := Option.some.inj h
      exact ⟨by omega, h3⟩
theorem scal_low {n : Int} (h0 : 0 ≤ n) (h : n < 128) : isScalar n = true := by
  unfold isScalar isCode isSurr
  rw [decide_eq_true (by omega), decide_eq_false (by omega)]
  rfl
theorem decF_ok {os ns : List Int} (h : decF os = some ns) (hb : ∀ n ∈ os, 0 ≤ n) : ns.length ≤ os.length ∧ ∀ t ∈ ns, isScalar t = true := by
  unfold decF at h
  by_cases q : (os.take (splA os)).all (fun n => decide (n < 128)) = true
  · rw [if_pos q] at h
    have r := splN_rng os
    refine decL_ok os _ _ _ _ _ _ _ ns h r.1 r.2.1 ?_ ?_
    · rw [List.length_take]; omega
    · intro t ht
      exact scal_low (hb t (List.mem_of_mem_take ht)) (of_decide_eq_true (List.all_eq_true.mp q t ht))
  · rw [if_neg q] at h; cases h
theorem EnI.run {ns : List Int} {many : Int} {R : List Int} (hs : ∀ i ∈ ns, i ≤ 1114111) : ∀ (k : Nat) (code : Int) (c : EnS), EnI ns many R code c → ns.length - c.n.toNat ≤ k → byt R ∧ ∃ t, R = c.fs ++ t
  | 0, code, c, h, hk => by
    have h0 := h.n0
    rw [h.fin (by omega)]
    exact ⟨h.by', [], (List.append_nil _).symm⟩
  | k + 1, code, c, h, hk => by
    by_cases hn : c.n < ns.length
    · obtain ⟨j, hj, hc⟩ := h.more hn
      cases hm : leastOf code ns with
      | none =>
        have sp := leastOf_spec code ns
        rw [hm] at sp
        exact absurd hc (sp j hj)
      | some m =>
        have st := h.step hn hm hs
        have h0 := h.n0
        obtain ⟨r1, t, r2⟩ := EnI.run hs k _ _ st.1 (by dsimp only; omega)
        have hd := h.d (least_fits hm hs).1
        obtain ⟨_, _, _, _, _, t', e⟩ := encIn_ok (many := many) (code := m) ns ⟨c.d + (m - code) * (c.n + 1), c.b, c.n, c.fs⟩ hd.1 h.by'
        refine ⟨r1, t' ++ t, ?_⟩
        rw [r2]
        dsimp only at e ⊢
        rw [e, List.append_assoc]
    · rw [h.fin hn]
      exact ⟨h.by', [], (List.append_nil _).symm⟩
theorem encF_ok {ns : List Int} (h : ∀ i ∈ ns, isScalar i = true) : byt (encF ns) ∧ (encB ns).length ≤ (encF ns).length := by
  have hs : ∀ i ∈ ns, 0 ≤ i ∧ i ≤ 1114111 := fun i hi => by
    have := h i hi
    simp only [isScalar, isCode, Bool.and_eq_true, decide_eq_true_eq] at this
    exact this.1
  obtain ⟨r1, t, r2⟩ := EnI.run (fun i hi => (hs i hi).2) _ _ _ (en_start fun i hi => (hs i hi).1) (Nat.le_refl _)
  refine ⟨r1, ?_⟩
  rw [r2]
  dsimp only
  unfold encH
  split <;> simp only [List.length_append] <;> omega
def casedF (i : Int) : Int := if 65 ≤ i ∧ i ≤ 90 then i + 32 else i
def smallF (o : List Int) (ts : List Int) : List Int := o.take (encB ts).length ++ (o.drop (encB ts).length).map casedF
def toldF (os : List Int) : Bool := match decF os with
  | none => false
  | some ts => decide (smallF (encF ts) ts = smallF os ts)
def lawTold (os : List Int) : Bool := match decF os with
  | none => false
  | some ts => decide (os.take (encB ts).length = (encF ts).take (encB ts).length) && decide ((os.drop (encB ts).length).map casedF = ((encF ts).drop (encB ts).length).map casedF)
theorem told_same {os : List Int} (hb : ∀ n ∈ os, 0 ≤ n) : toldF os = lawTold os := by
  unfold toldF lawTold
  cases h : decF os with
  | none => rfl
  | some ts =>
    dsimp only
    obtain ⟨l1, sc⟩ := decF_ok h hb
    have l2 := (encF_ok sc).2
    have l3 : (encB ts).length ≤ os.length := Nat.le_trans (List.length_filter_le _ _) l1
    rw [← Bool.decide_and]
    apply decide_eq_decide.mpr
    unfold smallF
    constructor
    · intro e
      obtain ⟨a, b⟩ := List.append_inj e (by rw [List.length_take, List.length_take]; omega)
      exact ⟨a.symm, b.symm⟩
    · rintro ⟨a, b⟩
      rw [a, b]
def greatF : List Int := (encF [233, 945]).map (fun one => if 97 ≤ one ∧ one ≤ 122 then one - 32 else one)
theorem great_dec : decF greatF = some [233, 945] := by decide +kernel
theorem great_told : toldF greatF = true := by decide +kernel
noncomputable abbrev PR : Program := PySem.Challenge.rw_pb0592_01.row.prog
noncomputable abbrev LO : List Str := looseW hd.view_39
    [Str.ofString "UniError", Str.ofString "puny_figure", Str.ofString "puny_number", Str.ofString "encode_label",
      Str.ofString "decode_annotated", Str.ofString "decode_label", Str.ofString "puny_is_told",
      Str.ofString "puny_small", Str.ofString "puny_length", Str.ofString "_law_menu"]
abbrev Led := List (Addr × Obj)

theorem ex_int {e e' : Int} {t : Tok} (h : e = e') : ∃ t', Value.int e t = .int e' t' := ⟨t, by rw [h]⟩
theorem ex_bytes {e e' : Array UInt8} {t : Tok} (h : e = e') : ∃ t', Value.bytes e t = .bytes e' t' := ⟨t, by rw [h]⟩
/-- a goal at which the walk is to stop -/
def Halt (P : Prop) : Prop := P
theorem halt {P : Prop} (h : Halt P) : P := h
theorem Halt.go {P : Prop} (h : P) : Halt P := h

/-- the dict of a PunyNumbers with the law's own numbers -/
abbrev numD (w : World) (k1 k2 k3 k4 k5 k6 k7 : Tok) : Obj :=
  dictOf [⟨PyData.keyHash w.params (Str.ofString "base"), .str (Str.ofString "base") k1, .int 36 289⟩, ⟨PyData.keyHash w.params (Str.ofString "least"), .str (Str.ofString "least") k2, .int 1 290⟩,
    ⟨PyData.keyHash w.params (Str.ofString "most"), .str (Str.ofString "most") k3, .int 26 291⟩, ⟨PyData.keyHash w.params (Str.ofString "skew"), .str (Str.ofString "skew") k4, .int 38 292⟩,
    ⟨PyData.keyHash w.params (Str.ofString "damp"), .str (Str.ofString "damp") k5, .int 700 293⟩, ⟨PyData.keyHash w.params (Str.ofString "bias"), .str (Str.ofString "bias") k6, .int 72 294⟩,
    ⟨PyData.keyHash w.params (Str.ofString "first"), .str (Str.ofString "first") k7, .int 128 295⟩] 7
abbrev numsL (w : World) (x dx : Addr) (k1 k2 k3 k4 k5 k6 k7 : Tok) : Led := [(x, instObj 100 dx), (dx, numD w k1 k2 k3 k4 k5 k6 k7)]

/-- where a call stands: the caller's frame, with n frames of room -/
structure Site (n : Nat) (w : World) (mean : ExcName → Option Value) (mg mb : Str → Option Value) (dp un : Nat) (cs : Scope) (A₀ : Around) (base h₀ : Heap) (outer : List Env) (L : Addr) (m : Str → Option Value) (s : Shared) : Prop where
  B : Below A₀ base outer h₀
  F : Fr h₀ L s.heap m
  X : (hd.heap_39 w.params).In h₀
  T : Top hd.view_39 LO mean mg mb h₀
  k : cs.kind = .function
  d : dp + n < recursionLimit
  u : un + 20 * n < cLine
  XB : (hd.heap_39 w.params).In base
  TB : Top hd.view_39 LO mean mg mb base

/-- what a def's call may rely on, and what it hands back, writing into nothing that stood -/
abbrev Spec (w : World) (n : Nat) (f : Addr) (own : Led) (vs : List Value) (pre : Heap → Prop) (post : Heap → Value → Heap → Prop) : Prop :=
  ∀ (mean : ExcName → Option Value) (mg mb : Str → Option Value) (dp un : Nat) (gd : Option (List Code)) (cn : Str) (cs : Scope) (a : Addr) (ccd : Value) (cl : List (Str × Addr)) (outer : List Env) (A₀ : Around) (base h₀ : Heap) (L : Addr) (m : Str → Option Value) (s : Shared) (Q E : Value → Shared → Prop),
    Site n w mean mg mb dp un cs A₀ base h₀ outer L m s → News h₀ L s.heap own → pre s.heap →
    (∀ v h' tk', s.heap.StaysIn h' → post s.heap v h' → Q v { s with heap := h', toks := tk' }) →
    wpAny (model PR w) (ktrTop dp un gd cn cs L a ccd cl outer) (call (.ref f) vs) Q E s

section
variable {n : Nat} {w : World} {mean : ExcName → Option Value} {mg mb : Str → Option Value} {dp un : Nat} {gd : Option (List Code)} {cn : Str} {cs : Scope} {a : Addr} {ccd : Value} {cl : List (Str × Addr)} {outer : List Env} {A₀ : Around} {base h₀ : Heap} {L : Addr} {m : Str → Option Value} {s : Shared} {Q E : Value → Shared → Prop} {own : Led}

/-- a def is entered: g is the caller's heap less what is the callee's own to tell -/
theorem enterX {R : Result → Shared → Prop} {name qual : Str} {params : Arguments} {body : List Stmt} {scope : Scope} {dV kV doc pm cdv ct oc : Value} {an od : Option Addr} {osl : Array (Option Value)} {f : Addr} {vs : List Value} {binds : List (Str × Value)}
    (S : Site n w mean mg mb dp un cs A₀ base h₀ outer L m s) (N : News h₀ L s.heap own)
    (ho : (hd.heap_39 w.params).lookup f = some ⟨oc, od, .func (fnOf name qual params body scope dV kV doc pm an cdv ct), osl⟩) (hcd : codeIn (hd.heap_39 w.params) cdv qual = true)
    (hroom : (ktrTop dp un gd cn cs L a ccd cl outer).depth < recursionLimit)
    (hbind : (hd.heap_39 w.params).In s.heap → BindsTo s (fnOf name qual params body scope dV kV doc pm an cdv ct) ⟨vs, []⟩ binds) (hloc : ∀ y ∈ binds, scope.names.lookup y.1 = some .local)
    (h : ∀ g L' h₁, Fr g L' h₁ (fun y => binds.reverse.lookup y) → News g L' h₁ own → Below (ktrTop dp un gd cn cs L a ccd cl outer) base (envX cn cs L a ccd cl :: outer) g → (hd.heap_39 w.params).In g → Top hd.view_39 LO mean mg mb g →
      g.StaysIn s.heap → (∀ b o, s.heap.get? b = some o → (∀ p ∈ own, p.1 ≠ b) → g.get? b = some o) → (∀ p ∈ own, p.1 < L') → s.heap.get? L' = none →
      wpAny (model PR w) ((ktrTop dp un gd cn cs L a ccd cl outer).deeper (envOf qual scope L' f cdv)) (execs body (envOf qual scope L' f cdv))
        (fun fl s' => R (.ok (.ret (match fl with | .ret v => v | _ => .none))) s')
        (fun e s' => wpAny (model PR w) ((ktrTop dp un gd cn cs L a ccd cl outer).deeper (envOf qual scope L' f cdv)) (leaving (envOf qual scope L' f cdv) e) (fun _ s'' => R (.error e) s'') (fun e' s'' => R (.error e') s'') s')
        { s with heap := h₁, toks := s.toks + binds.length })
    (hco : scope.isCoroutine = false) (hgen : scope.isGenerator = false) (hk : scope.kind = .function)
    (hcell : ∀ x ∈ scope.names, x.2 ≠ .cell) :
    codeAny (model PR w) (ktrTop dp un gd cn cs L a ccd cl outer) (.call (.ref f) ⟨vs, []⟩) R s := by
  obtain ⟨FG, BG, st, lv⟩ := groundX (A := ktrTop dp un gd cn cs L a ccd cl outer) (env := envX cn cs L a ccd cl) (R := fun _ _ => True) S.B S.F N rfl rfl S.k
  have X := S.X.keeps S.F.keep
  refine codeAny_call_def (fd := fnOf name qual params body scope dV kV doc pm an cdv ct) (body := body) (binds := binds) hroom (X _ _ ho) rfl (S.T.nolimit.keeps S.F.keep) (codeRec_of X hcd) rfl (hbind X) hcell hloc (fun h₁ hns hk₁ => ?_) hco hgen hk
  exact h _ s.heap.objs.size h₁ ⟨hns, fun b o e => hk₁ b o (of_hideAll _ e), Nat.le_of_eq (hideAll_size _ _)⟩
    (fun p hp => ⟨hk₁ _ _ (N p hp).1, Nat.ne_of_lt (Heap.lt_size (N p hp).1), hideAll_none _ (List.mem_map_of_mem hp)⟩) BG (S.X.keeps st) (S.T.keeps st) (fun b o e => of_hideAll _ e)
    (fun b o e q => hideAll_get _ e fun hm => by obtain ⟨p, hp, rfl⟩ := List.mem_map.mp hm; exact q p hp rfl) (fun p hp => Heap.lt_size (N p hp).1) (Heap.get?_none_of_le (Nat.le_refl _))

/-- a def is entered: g is the caller's heap less what is the callee's own to tell -/
theorem enter {name qual : Str} {params : Arguments} {body : List Stmt} {scope : Scope} {dV kV doc pm cdv ct oc : Value} {an od : Option Addr} {osl : Array (Option Value)} {f : Addr} {vs : List Value} {binds : List (Str × Value)}
    (S : Site n w mean mg mb dp un cs A₀ base h₀ outer L m s) (N : News h₀ L s.heap own)
    (ho : (hd.heap_39 w.params).lookup f = some ⟨oc, od, .func (fnOf name qual params body scope dV kV doc pm an cdv ct), osl⟩) (hcd : codeIn (hd.heap_39 w.params) cdv qual = true)
    (hroom : (ktrTop dp un gd cn cs L a ccd cl outer).depth < recursionLimit)
    (hbind : (hd.heap_39 w.params).In s.heap → BindsTo s (fnOf name qual params body scope dV kV doc pm an cdv ct) ⟨vs, []⟩ binds) (hloc : ∀ y ∈ binds, scope.names.lookup y.1 = some .local)
    (h : ∀ g L' h₁, Fr g L' h₁ (fun y => binds.reverse.lookup y) → News g L' h₁ own → Below (ktrTop dp un gd cn cs L a ccd cl outer) base (envX cn cs L a ccd cl :: outer) g → (hd.heap_39 w.params).In g → Top hd.view_39 LO mean mg mb g →
      g.StaysIn s.heap → (∀ b o, s.heap.get? b = some o → (∀ p ∈ own, p.1 ≠ b) → g.get? b = some o) → (∀ p ∈ own, p.1 < L') → s.heap.get? L' = none →
      wpAny (model PR w) ((ktrTop dp un gd cn cs L a ccd cl outer).deeper (envOf qual scope L' f cdv)) (execs body (envOf qual scope L' f cdv))
        (fun fl s' => Q (match fl with | .ret v => v | _ => .none) s')
        (fun e s' => wpAny (model PR w) ((ktrTop dp un gd cn cs L a ccd cl outer).deeper (envOf qual scope L' f cdv)) (leaving (envOf qual scope L' f cdv) e) (fun _ s'' => E e s'') (fun e' s'' => E e' s'') s')
        { s with heap := h₁, toks := s.toks + binds.length })
    (hco : scope.isCoroutine = false) (hgen : scope.isGenerator = false) (hk : scope.kind = .function)
    (hcell : ∀ x ∈ scope.names, x.2 ≠ .cell) :
    wpAny (model PR w) (ktrTop dp un gd cn cs L a ccd cl outer) (call (.ref f) vs) Q E s :=
  wpAny_call (enterX S N ho hcd hroom hbind hloc h hco hgen hk hcell)

/-- the same for a def with cells -/
theorem enterC {name qual : Str} {params : Arguments} {body : List Stmt} {scope : Scope} {dV kV doc pm cdv ct oc : Value} {an od : Option Addr} {osl : Array (Option Value)} {f : Addr} {vs : List Value} {binds : List (Str × Value)}
    (S : Site n w mean mg mb dp un cs A₀ base h₀ outer L m s) (N : News h₀ L s.heap own)
    (ho : (hd.heap_39 w.params).lookup f = some ⟨oc, od, .func (fnOf name qual params body scope dV kV doc pm an cdv ct), osl⟩) (hcd : codeIn (hd.heap_39 w.params) cdv qual = true)
    (hroom : (ktrTop dp un gd cn cs L a ccd cl outer).depth < recursionLimit)
    (hbind : (hd.heap_39 w.params).In s.heap → BindsTo s (fnOf name qual params body scope dV kV doc pm an cdv ct) ⟨vs, []⟩ binds)
    (hkind : (binds.all fun y => scope.names.lookup y.1 == some .local || scope.names.lookup y.1 == some .cell) = true)
    (hnd : ((cellsFrom 0 scope.names []).map (·.1)).Nodup)
    (h : ∀ g L' h₁ tk cells, Fr g L' h₁ (bindL (envOfC qual scope L' f cdv).kindOf binds fun _ => none) → News g L' h₁ (cells ++ own) →
      CellsAre (bindC (envOfC qual scope L' f cdv).kindOf binds fun _ => none) (cellsFrom (L' + 1) scope.names []) cells → Below (ktrTop dp un gd cn cs L a ccd cl outer) base (envX cn cs L a ccd cl :: outer) g → (hd.heap_39 w.params).In g → Top hd.view_39 LO mean mg mb g →
      g.StaysIn s.heap → (∀ b o, s.heap.get? b = some o → (∀ p ∈ own, p.1 ≠ b) → g.get? b = some o) → (∀ p ∈ own, p.1 < L') → s.heap.get? L' = none →
      wpAny (model PR w) ((ktrTop dp un gd cn cs L a ccd cl outer).deeper (envOfC qual scope L' f cdv)) (execs body (envOfC qual scope L' f cdv))
        (fun fl s' => Q (match fl with | .ret v => v | _ => .none) s')
        (fun e s' => wpAny (model PR w) ((ktrTop dp un gd cn cs L a ccd cl outer).deeper (envOfC qual scope L' f cdv)) (leaving (envOfC qual scope L' f cdv) e) (fun _ s'' => E e s'') (fun e' s'' => E e' s'') s')
        { s with heap := h₁, toks := tk })
    (hco : scope.isCoroutine = false) (hgen : scope.isGenerator = false) (hk : scope.kind = .function) :
    wpAny (model PR w) (ktrTop dp un gd cn cs L a ccd cl outer) (call (.ref f) vs) Q E s := by
  refine wpAny_call ?_
  obtain ⟨FG, BG, st, lv⟩ := groundX (A := ktrTop dp un gd cn cs L a ccd cl outer) (env := envX cn cs L a ccd cl) (R := fun _ _ => True) S.B S.F N rfl rfl S.k
  have X := S.X.keeps S.F.keep
  refine codeAny_call_function (fd := fnOf name qual params body scope dV kV doc pm an cdv ct) hroom (X _ _ ho) rfl hco hgen rfl (codeRec_of X hcd) (hbind X _ _ _ _ ?_)
  refine wpAny_newFunctionEnv_cells hk (kindsX hkind _) fun env' he s' x => ?_
  subst he
  refine ⟨(S.T.nolimit.keeps S.F.keep).keeps x.toInCall.keep, codeAny_func ?_⟩
  obtain ⟨h₁, tk, rfl, _⟩ := x.done
  have hk₁ := x.toInCall.keep
  obtain ⟨cells, NC, Y⟩ := Cl.news (h₀ := s.heap) (Nat.le_refl _) fun n c hm => ⟨x.cell n c (lookup_of_mem_nodup (cellsFrom_names scope.names 0 (s.heap.objs.size + 1) [] [] rfl ▸ hnd) hm), x.above n c hm⟩
  refine h _ s.heap.objs.size h₁ tk cells ⟨x.toInCall.ns, fun b o e => hk₁ b o (of_hideAll _ e), Nat.le_of_eq (hideAll_size _ _)⟩ (fun p hp => ?_) Y BG (S.X.keeps st) (S.T.keeps st) (fun b o e => of_hideAll _ e)
    (fun b o e q => hideAll_get _ e fun hm => by obtain ⟨p, hp, rfl⟩ := List.mem_map.mp hm; exact q p hp rfl) (fun p hp => Heap.lt_size (N p hp).1) (Heap.get?_none_of_le (Nat.le_refl _))
  rcases List.mem_append.mp hp with hp | hp
  · refine ⟨(NC p hp).1, (NC p hp).2.1, ?_⟩
    cases q : (hideAll s.heap (own.map (·.1))).get? p.1 with
    | none => rfl
    | some o => have := of_hideAll _ q; rw [(NC p hp).2.2] at this; cases this
  · exact ⟨hk₁ _ _ (N p hp).1, Nat.ne_of_lt (Heap.lt_size (N p hp).1), hideAll_none _ (List.mem_map_of_mem hp)⟩

theorem stays_of {h₀ h g h' : Heap} {L : Addr} (N : News h₀ L h own) (hup : ∀ b o, h.get? b = some o → (∀ p ∈ own, p.1 ≠ b) → g.get? b = some o) (k : ∀ b o, g.get? b = some o → h'.get? b = some o)
    (N' : ∀ p ∈ own, h'.get? p.1 = some p.2) : h.StaysIn h' := fun b o e => by
  by_cases q : ∃ p ∈ own, p.1 = b
  · obtain ⟨p, hp, rfl⟩ := q
    have e1 := (N p hp).1
    rw [e] at e1; cases e1
    exact N' p hp
  · exact k b o (hup b o e fun p hp z => q ⟨p, hp, z⟩)

theorem fr_stays {h h' : Heap} (F : Fr h₀ L h m) (st : h.StaysIn h') : Fr h₀ L h' m := ⟨F.ns.keeps st, fun b o e => st b o (F.keep b o e), F.above⟩
theorem news_stays {h h' : Heap} (N : News h₀ L h own) (st : h.StaysIn h') : News h₀ L h' own := fun p hp => ⟨st _ _ (N p hp).1, (N p hp).2⟩
/-- a new object of the heap goes onto the ledger -/
theorem news_add {h h' : Heap} {l : Addr} {o : Obj} (F : Fr h₀ L h m) (N : News h₀ L h own) (st : h.StaysIn h') (e : h'.get? l = some o) (en : h.get? l = none) :
    News h₀ L h' ((l, o) :: own) ∧ (∀ p ∈ own, p.1 ≠ l) := by
  refine ⟨fun p hp => ?_, fun p hp q => ?_⟩
  · rcases List.mem_cons.mp hp with rfl | hp
    · refine ⟨e, fun q => ?_, ?_⟩
      · obtain ⟨oL, _, _, hL, _⟩ := F.ns
        rw [← q, en] at hL; cases hL
      · cases q : h₀.get? l with
        | none => rfl
        | some o' => have := F.keep _ _ q; rw [en] at this; cases this
    · exact news_stays N st p hp
  · have := (N p hp).1; rw [q, en] at this; cases this
/-- an address that the callee made was not there ahead of the call -/
theorem fresh_of {h g h' : Heap} {L' l : Addr} {o : Obj} {led : Led} (hup : ∀ b o, h.get? b = some o → (∀ p ∈ own, p.1 ≠ b) → g.get? b = some o) (N : News g L' h' led) (hm : (l, o) ∈ led) (hne : ∀ p ∈ own, p.1 ≠ l) : h.get? l = none := by
  cases q : h.get? l with
  | none => rfl
  | some o' => have := hup _ _ q hne; rw [(N _ hm).2.2] at this; cases this
theorem isList_up {h g : Heap} {l : Addr} {vs : Array Value} (hup : ∀ b o, h.get? b = some o → (∀ p ∈ own, p.1 ≠ b) → g.get? b = some o) (hl : h.IsList l vs) (hne : ∀ p ∈ own, p.1 ≠ l) : g.IsList l vs := by
  obtain ⟨o, e, r⟩ := hl
  exact ⟨o, hup _ _ e hne, r⟩
theorem allNe_nil {l : Addr} : ∀ p ∈ ([] : Led), p.1 ≠ l := fun _ h => nomatch h
def AllNe (d : Nat) : Led → Prop
  | [] => True
  | p :: r => @Ne Nat p.1 d ∧ AllNe d r
theorem allNe_of {d : Addr} : ∀ {l : Led}, (∀ p ∈ l, p.1 ≠ d) → AllNe d l
  | [], _ => trivial
  | p :: _, h => ⟨h p (.head _), allNe_of fun q hq => h q (.tail _ hq)⟩

theorem use {f : Addr} {vs : List Value} {pre : Heap → Prop} {post : Heap → Value → Heap → Prop} {news : Led} (C : Spec w n f own vs pre post) (S : Site n w mean mg mb dp un cs A₀ base h₀ outer L m s)
    (N : News h₀ L s.heap news) (ho : ∀ p ∈ own, p ∈ news) (hp : pre s.heap)
    (h : ∀ v h' tk', post s.heap v h' → s.heap.StaysIn h' → Fr h₀ L h' m → News h₀ L h' news → Q v { s with heap := h', toks := tk' }) :
    wpAny (model PR w) (ktrTop dp un gd cn cs L a ccd cl outer) (call (.ref f) vs) Q E s :=
  C mean mg mb dp un gd cn cs a ccd cl outer A₀ base h₀ L m s Q E S (fun p hp => N p (ho p hp)) hp fun v h' tk' st q => h v h' tk' q st (fr_stays S.F st) (news_stays N st)
theorem useI {f : Addr} {vs : List Value} {pre : Heap → Prop} {e : Int} {news : Led} (C : Spec w n f own vs pre (fun _ v _ => ∃ t, v = .int e t)) (S : Site n w mean mg mb dp un cs A₀ base h₀ outer L m s)
    (N : News h₀ L s.heap news) (ho : ∀ p ∈ own, p ∈ news) (hp : pre s.heap)
    (h : ∀ t h' tk', s.heap.StaysIn h' → Fr h₀ L h' m → News h₀ L h' news → Q (.int e t) { s with heap := h', toks := tk' }) :
    wpAny (model PR w) (ktrTop dp un gd cn cs L a ccd cl outer) (call (.ref f) vs) Q E s :=
  use C S N ho hp fun v h' tk' q st F N => by obtain ⟨t, rfl⟩ := q; exact h t h' tk' st F N
theorem useL {f : Addr} {vs : List Value} {pre : Heap → Prop} {ok : List Int → Prop} {news : Led} (C : Spec w n f own vs pre (fun h v h' => ∃ l ws ns nn, v = .ref l ∧ h'.get? l = some (listOf ws.toArray nn) ∧ h.get? l = none ∧ IntsAre ws ns ∧ ok ns)) (S : Site n w mean mg mb dp un cs A₀ base h₀ outer L m s)
    (N : News h₀ L s.heap news) (ho : ∀ p ∈ own, p ∈ news) (hp : pre s.heap)
    (h : ∀ l ws ns nn h' tk', Fr h₀ L h' m → News h₀ L h' ((l, listOf ws.toArray nn) :: news) → (∀ p ∈ news, p.1 ≠ l) → IntsAre ws ns → ok ns → Q (.ref l) { s with heap := h', toks := tk' }) :
    wpAny (model PR w) (ktrTop dp un gd cn cs L a ccd cl outer) (call (.ref f) vs) Q E s :=
  use C S N ho hp fun v h' tk' q st F' N' => by
    obtain ⟨l, ws, ns, nn, rfl, e, en, hi, hk⟩ := q
    obtain ⟨N2, hne⟩ := news_add S.F N st e en
    exact h l ws ns nn h' tk' F' N2 hne hi hk
theorem useO {f : Addr} {vs : List Value} {pre : Heap → Prop} {e : Option Int} {news : Led} (C : Spec w n f own vs pre (fun _ v _ => (e = none ∧ v = .none) ∨ ∃ i t, e = some i ∧ v = .int i t)) (S : Site n w mean mg mb dp un cs A₀ base h₀ outer L m s)
    (N : News h₀ L s.heap news) (ho : ∀ p ∈ own, p ∈ news) (hp : pre s.heap)
    (h0 : ∀ h' tk', e = none → Fr h₀ L h' m → News h₀ L h' news → Q .none { s with heap := h', toks := tk' })
    (h1 : ∀ i t h' tk', e = some i → Fr h₀ L h' m → News h₀ L h' news → Q (.int i t) { s with heap := h', toks := tk' }) :
    wpAny (model PR w) (ktrTop dp un gd cn cs L a ccd cl outer) (call (.ref f) vs) Q E s :=
  use C S N ho hp fun v h' tk' q st F' N' => by
    rcases q with ⟨q, rfl⟩ | ⟨i, t, q, rfl⟩
    · exact h0 h' tk' q F' N'
    · exact h1 i t h' tk' q F' N'
theorem useB {f : Addr} {vs : List Value} {pre : Heap → Prop} {e : Bool} {news : Led} (C : Spec w n f own vs pre (fun _ v _ => v = .bool e)) (S : Site n w mean mg mb dp un cs A₀ base h₀ outer L m s)
    (N : News h₀ L s.heap news) (ho : ∀ p ∈ own, p ∈ news) (hp : pre s.heap)
    (h : ∀ h' tk', s.heap.StaysIn h' → Fr h₀ L h' m → News h₀ L h' news → Q (.bool e) { s with heap := h', toks := tk' }) :
    wpAny (model PR w) (ktrTop dp un gd cn cs L a ccd cl outer) (call (.ref f) vs) Q E s :=
  use C S N ho hp fun v h' tk' q st F N => by subst q; exact h h' tk' st F N
end
theorem rm0 {dp n : Nat} (h : dp + n < recursionLimit) : dp < recursionLimit := Nat.lt_of_le_of_lt (Nat.le_add_right dp n) h
theorem rm1 {dp n k : Nat} (h : dp + n < recursionLimit) (hk : Nat.ble (1 + k) n = true) : dp + 1 + k < recursionLimit :=
  Nat.lt_of_le_of_lt (Nat.add_assoc dp 1 k ▸ Nat.add_le_add_left (Nat.le_of_ble_eq_true hk) dp) h
theorem um1 {un n k : Nat} (h : un + 20 * n < cLine) (hk : Nat.ble (3 + 20 * k) (20 * n) = true) : un + 3 + 20 * k < cLine :=
  Nat.lt_of_le_of_lt (Nat.add_assoc un 3 (20 * k) ▸ Nat.add_le_add_left (Nat.le_of_ble_eq_true hk) un) h
set_option maxHeartbeats 1000000
local macro_rules | `(tactic| k_room) => `(tactic| ktr_room)
local macro_rules | `(tactic| walk_at "exec While Compare cons nil") => `(tactic| refine halt ?_)
local macro_rules | `(tactic| walk_at "exec While Constant cons nil") => `(tactic| refine halt ?_)
local macro_rules | `(tactic| walk_at "exec While BoolOp cons nil") => `(tactic| refine halt ?_)
local macro_rules | `(tactic| walk_at "KswEnd") => `(tactic| refine halt ?_)
local macro_rules | `(tactic| walk_at "M_SITE") => `(tactic| exact ⟨by k_asm, by k_asm, by k_asm, by k_asm, by first | rfl | assumption, by ktr_room, by ktr_units, by k_asm, by k_asm⟩)
local macro_rules | `(tactic| walk_at "M_OWN") => `(tactic| first | exact List.forall_mem_nil _ | (refine List.forall_mem_cons.mpr ⟨by k_mem, ?_⟩; walk_at "M_OWN"))
local macro_rules | `(tactic| walk_at "M_PRE") => `(tactic| ((try dsimp only); repeat' (first | exact True.intro | assumption | omega | is_list | refine And.intro ?_ ?_)))
local macro_rules | `(tactic| walk_at "pyIter ref") => `(tactic| ((with_reducible show wpAny _ _ (pyIter (Value.ref _)) (fun it s₂ => LoopAtV _ _ _ _ _ _ _ _ _ it s₂) _ _); refine halt ?_))
local macro_rules | `(tactic| walk_at "pyIter bytes") => `(tactic| ((with_reducible show wpAny _ _ (pyIter (Value.bytes _ _)) (fun it s₂ => LoopAtV _ _ _ _ _ _ _ _ _ it s₂) _ _); refine halt ?_))
local macro_rules | `(tactic| walk_at "pyIter ref") => `(tactic| ((with_reducible show wpAny _ _ (pyIter (Value.ref _)) (fun it s₂ => PairAt3 _ _ _ _ _ _ _ _ _ _ it s₂) _ _); refine halt ?_))
local macro_rules | `(tactic| ktr_room) => `(tactic| first | (refine' rm1 ?h ?k; (case h => assumption); (case k => exact Eq.refl true)) | fail)
local macro_rules | `(tactic| ktr_room) => `(tactic| first | (refine' rm0 ?h; (case h => assumption)) | fail)
local macro_rules | `(tactic| ktr_units) => `(tactic| first | (refine' um1 ?h ?k; (case h => assumption); (case k => exact Eq.refl true)) | fail)
local macro_rules | `(tactic| walk_at "eval Name") => `(tactic| (k_here; k_dflt (refine' nameX_L ?F ?v ?_ ?a ?b; (case F => k_asm); (case a => exact @rfl _ PySem.ScopeKind.function); (case b => exact @rfl _ (some PySem.NameKind.local)); (case v => exact @rfl _ (some _)); k_whole)))
local macro_rules | `(tactic| walk_at "M_ASK") => `(tactic| ((case kS => walk_at "M_SITE"); (case kN => k_asm); (case ko => walk_at "M_OWN"); (case kp => walk_at "M_PRE")))
local macro_rules | `(tactic| walk_at "M_ASKL") => `(tactic| ((case kS => walk_at "M_SITE"); (case kN => k_asm); (case ko => walk_at "M_OWN"); (case kp => walk_at "M_PREL")))
local macro_rules | `(tactic| walk_at "M_B0") => `(tactic| (k_whole; intro t9 h9 tk9 st9 F9 N9; clear st9; (try dsimp only); (try k_sweep)))
local macro_rules | `(tactic| walk_at "M_B1") => `(tactic| (k_whole; intro h9 tk9 st9 F9 N9; clear st9; (try dsimp only); (try k_sweep)))
local macro_rules | `(tactic| walk_at "M_B2") => `(tactic| (k_whole; intro l9 ws9 ns9 nn9 h9 tk9 F9 N9 ne9 hi9 ok9; (replace ne9 := allNe_of ne9); (simp only [AllNe, and_true] at ne9); (try dsimp only at ok9); (try dsimp only); (try k_sweep)))
local macro_rules | `(tactic| walk_at "M_B3") => `(tactic| (k_whole; intro t9 h9 tk9 st9 F9 N9; (try dsimp only); (try k_sweep)))
local macro_rules | `(tactic| walk_at "M_B4") => `(tactic| (k_whole; intro B9 t9 h9 tk9 e9 g9 F9 N9; (try dsimp only); (try k_sweep)))
local macro_rules | `(tactic| walk_at "M_B5") => `(tactic| ((case' ka => intro h9 tk9 e9 F9 N9; (try dsimp only); (try k_sweep)); (case' kb => intro i9 t9 h9 tk9 e9 F9 N9; (try dsimp only); (try k_sweep))))
local macro_rules | `(tactic| walk_at "M_B6") => `(tactic| ((case' ka => intro l9 t9 u9 v9 a9 h9 tk9 e9 F9 N9 ne9; (try dsimp only at e9); (obtain ⟨e9, m9, o9, z9⟩ := e9); (replace ne9 := allNe_of ne9); (simp only [AllNe, and_true] at ne9); (try dsimp only); (try k_sweep)); (case' kb => intro e9 h9 tk9 bad9 W9; refine halt ?_)))
local macro_rules | `(tactic| walk_at "M_B7") => `(tactic| ((case' ka => intro h9 tk9 e9 F9 N9; (try dsimp only); (try k_sweep)); (case' kb => intro e9 h9 tk9 bad9 W9; refine halt ?_)))
local macro_rules | `(tactic| walk_at "M_B8") => `(tactic| ((case' ka => intro B9 t9 h9 tk9 e9 g9 F9 N9; (try dsimp only); (try k_sweep)); (case' kb => intro e9 h9 tk9 bad9 W9; refine halt ?_)))
local macro_rules | `(tactic| walk_at "M_B9") => `(tactic| ((case' ka => intro l9 lt9 lc9 ws9 ns9 nn9 h9 tk9 F9 N9 ne9 nf9 ng9 hi9 ok9; (replace ne9 := allNe_of ne9); (simp only [AllNe, and_true] at ne9); (replace nf9 := allNe_of nf9); (simp only [AllNe, and_true] at nf9); (try dsimp only); (try k_sweep)); (case' kb => intro e9 h9 tk9 bad9 W9; refine halt ?_)))
local macro_rules | `(tactic| walk_at "M_B10") => `(tactic| ((case' ka => intro lt9 ws9 ns9 nn9 h9 tk9 F9 N9 ne9 hi9 ok9 zz9; (have hl9 := hi9.length); (replace ne9 := allNe_of ne9); (simp only [AllNe, and_true] at ne9); (try dsimp only); (try k_sweep)); (case' kb => intro e9 h9 tk9 bad9 W9; refine halt ?_)))
local macro_rules | `(tactic| walk_at "M_B11") => `(tactic| (k_whole; intro l9 B9 t9 u9 h9 tk9 e9 F9 N9 ne9; (replace ne9 := allNe_of ne9); (simp only [AllNe, and_true] at ne9); (try dsimp only at e9); (try dsimp only); (try k_sweep)))
local macro_rules | `(tactic| walk_at "M_B12") => `(tactic| (k_whole; intro x9 dx9 k91 k92 k93 k94 k95 k96 k97 h9 tk9 F9 N9 ne9 nf9 ng9; (replace ne9 := allNe_of ne9); (simp only [AllNe, and_true] at ne9); (replace nf9 := allNe_of nf9); (simp only [AllNe, and_true] at nf9); (try dsimp only); (try k_sweep)))
local macro_rules | `(tactic| walk_at "M_B13") => `(tactic| (k_whole; intro k9 t9 h9 tk9 e9 F9 N9; (try dsimp only at e9); (try dsimp only); (try k_sweep)))
local macro_rules | `(tactic| walk_at "M_B14") => `(tactic| ((case' ka => intro v9 h9 tk9 post9 st9 F9 N9; (try dsimp only at post9); (try k_sweep)); (case' kb => intro e9 h9 tk9 bad9 W9; refine halt ?_)))
section
theorem c_is_code (w : World) (i : Int) (t : Tok) : Spec w 2 54 [] [.int i t] (fun _ => True) (fun _ v _ => v = .bool (isCode i)) := by
  w_top off
  intro mean mg mb dp un gd cn cs a ccd cl outer A₀ base h₀ L m s Q E S N hpre hret
  have hd9 := S.d
  have hu9 := S.u
  have XB1 := S.XB
  have TB1 := S.TB
  k_dflt (refine' enter S N ?k6 ?k7 ?k8 ?k9 ?kB ?_ ?c2 ?c3 ?c4 ?c5; (case k6 => k_is); (case k7 => k_is); (case k8 => ktr_room); (case k9 => (intro kX; first | exact BindsTo.of_eq rfl | exact binds_K kX rfl (by k_is) rfl rfl rfl)); (case c5 => decide); (case kB => exact locs rfl); (case c2 => exact rfl); (case c3 => exact rfl); (case c4 => exact rfl); k_whole)
  intro g L1 h1 F1 N1 B1 X1 T1 hin hup hlt hL1
  (try dsimp only)
  (try k_fold)
  k_steps
  all_goals (rename Fr _ _ _ _ => kF9; rename News _ _ _ _ => kN9; (iterate 4 ((try dsimp only [KswPost, InvPostN, InvPost]); (try k_unfold))); (try dsimp only); refine hret _ _ _ (stays_of N hup kF9.keep (fun p hp => (kN9 p (by first | exact hp | exact absurd hp (List.not_mem_nil) | exact .tail _ hp | exact .tail _ (.tail _ hp) | exact .tail _ (.tail _ (.tail _ hp)) | exact .tail _ (.tail _ (.tail _ (.tail _ hp))) | exact .tail _ (.tail _ (.tail _ (.tail _ (.tail _ hp)))) | exact .tail _ (.tail _ (.tail _ (.tail _ (.tail _ (.tail _ hp))))) | exact .tail _ (.tail _ (.tail _ (.tail _ (.tail _ (.tail _ (.tail _ hp)))))))).1)) ?_; (try dsimp only); (try simp only [List.push_toArray] at kN9))
  all_goals (unfold isCode; congr 1; (try simp only [decide_eq_decide]); (try omega))
end
local macro_rules | `(tactic| walk_at "H0") => `(tactic| (k_here; (with_reducible show wpAny _ _ (call (Value.ref 54) _) _ _ _); k_dflt (refine' useB (c_is_code _ _ _) ?kS ?kN ?ko ?kp ?_; walk_at "M_ASK"); walk_at "M_B1"))
section
local macro_rules | `(tactic| walk_at "call ref") => `(tactic| first | walk_at "H0")
theorem c_is_surrogate (w : World) (i : Int) (t : Tok) : Spec w 2 61 [] [.int i t] (fun _ => True) (fun _ v _ => v = .bool (isSurr i)) := by
  w_top off
  intro mean mg mb dp un gd cn cs a ccd cl outer A₀ base h₀ L m s Q E S N hpre hret
  have hd9 := S.d
  have hu9 := S.u
  have XB1 := S.XB
  have TB1 := S.TB
  k_dflt (refine' enter S N ?k6 ?k7 ?k8 ?k9 ?kB ?_ ?c2 ?c3 ?c4 ?c5; (case k6 => k_is); (case k7 => k_is); (case k8 => ktr_room); (case k9 => (intro kX; first | exact BindsTo.of_eq rfl | exact binds_K kX rfl (by k_is) rfl rfl rfl)); (case c5 => decide); (case kB => exact locs rfl); (case c2 => exact rfl); (case c3 => exact rfl); (case c4 => exact rfl); k_whole)
  intro g L1 h1 F1 N1 B1 X1 T1 hin hup hlt hL1
  (try dsimp only)
  (try k_fold)
  k_steps
  all_goals (rename Fr _ _ _ _ => kF9; rename News _ _ _ _ => kN9; (iterate 4 ((try dsimp only [KswPost, InvPostN, InvPost]); (try k_unfold))); (try dsimp only); refine hret _ _ _ (stays_of N hup kF9.keep (fun p hp => (kN9 p (by first | exact hp | exact absurd hp (List.not_mem_nil) | exact .tail _ hp | exact .tail _ (.tail _ hp) | exact .tail _ (.tail _ (.tail _ hp)) | exact .tail _ (.tail _ (.tail _ (.tail _ hp))) | exact .tail _ (.tail _ (.tail _ (.tail _ (.tail _ hp)))) | exact .tail _ (.tail _ (.tail _ (.tail _ (.tail _ (.tail _ hp))))) | exact .tail _ (.tail _ (.tail _ (.tail _ (.tail _ (.tail _ (.tail _ hp)))))))).1)) ?_; (try dsimp only); (try simp only [List.push_toArray] at kN9))
  all_goals (unfold isSurr; congr 1; (try simp only [decide_eq_decide]); (try omega))
end
local macro_rules | `(tactic| walk_at "H1") => `(tactic| (k_here; (with_reducible show wpAny _ _ (call (Value.ref 61) _) _ _ _); k_dflt (refine' useB (c_is_surrogate _ _ _) ?kS ?kN ?ko ?kp ?_; walk_at "M_ASK"); walk_at "M_B1"))
section
local macro_rules | `(tactic| walk_at "call ref") => `(tactic| first | walk_at "H1" | walk_at "H0")
theorem c_is_scalar (w : World) (i : Int) (t : Tok) : Spec w 4 68 [] [.int i t] (fun _ => True) (fun _ v _ => v = .bool (isScalar i)) := by
  w_top off
  intro mean mg mb dp un gd cn cs a ccd cl outer A₀ base h₀ L m s Q E S N hpre hret
  have hd9 := S.d
  have hu9 := S.u
  have XB1 := S.XB
  have TB1 := S.TB
  k_dflt (refine' enter S N ?k6 ?k7 ?k8 ?k9 ?kB ?_ ?c2 ?c3 ?c4 ?c5; (case k6 => k_is); (case k7 => k_is); (case k8 => ktr_room); (case k9 => (intro kX; first | exact BindsTo.of_eq rfl | exact binds_K kX rfl (by k_is) rfl rfl rfl)); (case c5 => decide); (case kB => exact locs rfl); (case c2 => exact rfl); (case c3 => exact rfl); (case c4 => exact rfl); k_whole)
  intro g L1 h1 F1 N1 B1 X1 T1 hin hup hlt hL1
  (try dsimp only)
  (try k_fold)
  k_steps
  all_goals (rename Fr _ _ _ _ => kF9; rename News _ _ _ _ => kN9; (iterate 4 ((try dsimp only [KswPost, InvPostN, InvPost]); (try k_unfold))); (try dsimp only); refine hret _ _ _ (stays_of N hup kF9.keep (fun p hp => (kN9 p (by first | exact hp | exact absurd hp (List.not_mem_nil) | exact .tail _ hp | exact .tail _ (.tail _ hp) | exact .tail _ (.tail _ (.tail _ hp)) | exact .tail _ (.tail _ (.tail _ (.tail _ hp))) | exact .tail _ (.tail _ (.tail _ (.tail _ (.tail _ hp)))) | exact .tail _ (.tail _ (.tail _ (.tail _ (.tail _ (.tail _ hp))))) | exact .tail _ (.tail _ (.tail _ (.tail _ (.tail _ (.tail _ (.tail _ hp)))))))).1)) ?_; (try dsimp only); (try simp only [List.push_toArray] at kN9))
  all_goals (unfold isScalar; simp_all)
end
local macro_rules | `(tactic| walk_at "H2") => `(tactic| (k_here; (with_reducible show wpAny _ _ (call (Value.ref 68) _) _ _ _); k_dflt (refine' useB (c_is_scalar _ _ _) ?kS ?kN ?ko ?kp ?_; walk_at "M_ASK"); walk_at "M_B1"))
section
local macro_rules | `(tactic| walk_at "call ref") => `(tactic| first | walk_at "H2" | walk_at "H1" | walk_at "H0")
theorem c_threshold (w : World) (x dx : Addr) (k1 k2 k3 k4 k5 k6 k7 : Tok) (p b : Int) (t u : Tok) : Spec w 2 90 (numsL w x dx k1 k2 k3 k4 k5 k6 k7) [.ref x, .int p t, .int b u] (fun _ => True) (fun _ v _ => ∃ t, v = .int (thr p b) t) := by
  w_top off
  intro mean mg mb dp un gd cn cs a ccd cl outer A₀ base h₀ L m s Q E S N hpre hret
  have hd9 := S.d
  have hu9 := S.u
  have XB1 := S.XB
  have TB1 := S.TB
  k_dflt (refine' enter S N ?k6 ?k7 ?k8 ?k9 ?kB ?_ ?c2 ?c3 ?c4 ?c5; (case k6 => k_is); (case k7 => k_is); (case k8 => ktr_room); (case k9 => (intro kX; first | exact BindsTo.of_eq rfl | exact binds_K kX rfl (by k_is) rfl rfl rfl)); (case c5 => decide); (case kB => exact locs rfl); (case c2 => exact rfl); (case c3 => exact rfl); (case c4 => exact rfl); k_whole)
  intro g L1 h1 F1 N1 B1 X1 T1 hin hup hlt hL1
  (try dsimp only)
  (try k_fold)
  k_steps
  all_goals (rename Fr _ _ _ _ => kF9; rename News _ _ _ _ => kN9; (iterate 4 ((try dsimp only [KswPost, InvPostN, InvPost]); (try k_unfold))); (try dsimp only); refine hret _ _ _ (stays_of N hup kF9.keep (fun p hp => (kN9 p (by first | exact hp | exact absurd hp (List.not_mem_nil) | exact .tail _ hp | exact .tail _ (.tail _ hp) | exact .tail _ (.tail _ (.tail _ hp)) | exact .tail _ (.tail _ (.tail _ (.tail _ hp))) | exact .tail _ (.tail _ (.tail _ (.tail _ (.tail _ hp)))) | exact .tail _ (.tail _ (.tail _ (.tail _ (.tail _ (.tail _ hp))))) | exact .tail _ (.tail _ (.tail _ (.tail _ (.tail _ (.tail _ (.tail _ hp)))))))).1)) ?_; (try dsimp only); (try simp only [List.push_toArray] at kN9))
  all_goals (unfold thr; refine ex_int ?_; (repeat' split) <;> first | rfl | omega)
end
local macro_rules | `(tactic| walk_at "H3") => `(tactic| (k_here; (with_reducible show wpAny _ _ (call (Value.ref 90) _) _ _ _); k_dflt (refine' useI (c_threshold _ _ _ _ _ _ _ _ _ _ _ _ _ _) ?kS ?kN ?ko ?kp ?_; walk_at "M_ASK"); walk_at "M_B0"))
section
local macro_rules | `(tactic| walk_at "call ref") => `(tactic| first | walk_at "H3" | walk_at "H2" | walk_at "H1" | walk_at "H0")
theorem c_basic (w : World) (x dx : Addr) (k1 k2 k3 k4 k5 k6 k7 : Tok) (i : Int) (t : Tok) : Spec w 2 141 (numsL w x dx k1 k2 k3 k4 k5 k6 k7) [.int i t, .ref x] (fun _ => True) (fun _ v _ => v = .bool (decide (i < 128))) := by
  w_top off
  intro mean mg mb dp un gd cn cs a ccd cl outer A₀ base h₀ L m s Q E S N hpre hret
  have hd9 := S.d
  have hu9 := S.u
  have XB1 := S.XB
  have TB1 := S.TB
  k_dflt (refine' enter S N ?k6 ?k7 ?k8 ?k9 ?kB ?_ ?c2 ?c3 ?c4 ?c5; (case k6 => k_is); (case k7 => k_is); (case k8 => ktr_room); (case k9 => (intro kX; first | exact BindsTo.of_eq rfl | exact binds_K kX rfl (by k_is) rfl rfl rfl)); (case c5 => decide); (case kB => exact locs rfl); (case c2 => exact rfl); (case c3 => exact rfl); (case c4 => exact rfl); k_whole)
  intro g L1 h1 F1 N1 B1 X1 T1 hin hup hlt hL1
  (try dsimp only)
  (try k_fold)
  k_steps
  all_goals (rename Fr _ _ _ _ => kF9; rename News _ _ _ _ => kN9; (iterate 4 ((try dsimp only [KswPost, InvPostN, InvPost]); (try k_unfold))); (try dsimp only); refine hret _ _ _ (stays_of N hup kF9.keep (fun p hp => (kN9 p (by first | exact hp | exact absurd hp (List.not_mem_nil) | exact .tail _ hp | exact .tail _ (.tail _ hp) | exact .tail _ (.tail _ (.tail _ hp)) | exact .tail _ (.tail _ (.tail _ (.tail _ hp))) | exact .tail _ (.tail _ (.tail _ (.tail _ (.tail _ hp)))) | exact .tail _ (.tail _ (.tail _ (.tail _ (.tail _ (.tail _ hp))))) | exact .tail _ (.tail _ (.tail _ (.tail _ (.tail _ (.tail _ (.tail _ hp)))))))).1)) ?_; (try dsimp only); (try simp only [List.push_toArray] at kN9))
  all_goals rfl
end
local macro_rules | `(tactic| walk_at "H4") => `(tactic| (k_here; (with_reducible show wpAny _ _ (call (Value.ref 141) _) _ _ _); k_dflt (refine' useB (c_basic _ _ _ _ _ _ _ _ _ _ _ _) ?kS ?kN ?ko ?kp ?_; walk_at "M_ASK"); walk_at "M_B1"))
section
local macro_rules | `(tactic| walk_at "call ref") => `(tactic| first | walk_at "H4" | walk_at "H3" | walk_at "H2" | walk_at "H1" | walk_at "H0")
theorem c_is_capital (w : World) (i : Int) (t : Tok) : Spec w 2 182 [] [.int i t] (fun _ => True) (fun _ v _ => v = .bool (isCap i)) := by
  w_top off
  intro mean mg mb dp un gd cn cs a ccd cl outer A₀ base h₀ L m s Q E S N hpre hret
  have hd9 := S.d
  have hu9 := S.u
  have XB1 := S.XB
  have TB1 := S.TB
  k_dflt (refine' enter S N ?k6 ?k7 ?k8 ?k9 ?kB ?_ ?c2 ?c3 ?c4 ?c5; (case k6 => k_is); (case k7 => k_is); (case k8 => ktr_room); (case k9 => (intro kX; first | exact BindsTo.of_eq rfl | exact binds_K kX rfl (by k_is) rfl rfl rfl)); (case c5 => decide); (case kB => exact locs rfl); (case c2 => exact rfl); (case c3 => exact rfl); (case c4 => exact rfl); k_whole)
  intro g L1 h1 F1 N1 B1 X1 T1 hin hup hlt hL1
  (try dsimp only)
  (try k_fold)
  k_steps
  all_goals (rename Fr _ _ _ _ => kF9; rename News _ _ _ _ => kN9; (iterate 4 ((try dsimp only [KswPost, InvPostN, InvPost]); (try k_unfold))); (try dsimp only); refine hret _ _ _ (stays_of N hup kF9.keep (fun p hp => (kN9 p (by first | exact hp | exact absurd hp (List.not_mem_nil) | exact .tail _ hp | exact .tail _ (.tail _ hp) | exact .tail _ (.tail _ (.tail _ hp)) | exact .tail _ (.tail _ (.tail _ (.tail _ hp))) | exact .tail _ (.tail _ (.tail _ (.tail _ (.tail _ hp)))) | exact .tail _ (.tail _ (.tail _ (.tail _ (.tail _ (.tail _ hp))))) | exact .tail _ (.tail _ (.tail _ (.tail _ (.tail _ (.tail _ (.tail _ hp)))))))).1)) ?_; (try dsimp only); (try simp only [List.push_toArray] at kN9))
  all_goals (unfold isCap; congr 1; (try simp only [decide_eq_decide]); (try omega))
end
local macro_rules | `(tactic| walk_at "H5") => `(tactic| (k_here; (with_reducible show wpAny _ _ (call (Value.ref 182) _) _ _ _); k_dflt (refine' useB (c_is_capital _ _ _) ?kS ?kN ?ko ?kp ?_; walk_at "M_ASK"); walk_at "M_B1"))
section
local macro_rules | `(tactic| walk_at "call ref") => `(tactic| first | walk_at "H5" | walk_at "H4" | walk_at "H3" | walk_at "H2" | walk_at "H1" | walk_at "H0")
theorem c_figure1 (w : World) (i : Int) (t : Tok) : Spec w 2 112 [] [.int i t] (fun _ => True) (fun _ v _ => ∃ t, v = .int (fig i false) t) := by
  w_top off
  intro mean mg mb dp un gd cn cs a ccd cl outer A₀ base h₀ L m s Q E S N hpre hret
  have hd9 := S.d
  have hu9 := S.u
  have XB1 := S.XB
  have TB1 := S.TB
  k_dflt (refine' enter S N ?k6 ?k7 ?k8 ?k9 ?kB ?_ ?c2 ?c3 ?c4 ?c5; (case k6 => k_is); (case k7 => k_is); (case k8 => ktr_room); (case k9 => (intro kX; first | exact BindsTo.of_eq rfl | exact binds_K kX rfl (by k_is) rfl rfl rfl)); (case c5 => decide); (case kB => exact locs rfl); (case c2 => exact rfl); (case c3 => exact rfl); (case c4 => exact rfl); k_whole)
  intro g L1 h1 F1 N1 B1 X1 T1 hin hup hlt hL1
  (try dsimp only)
  (try k_fold)
  k_steps
  all_goals (rename Fr _ _ _ _ => kF9; rename News _ _ _ _ => kN9; (iterate 4 ((try dsimp only [KswPost, InvPostN, InvPost]); (try k_unfold))); (try dsimp only); refine hret _ _ _ (stays_of N hup kF9.keep (fun p hp => (kN9 p (by first | exact hp | exact absurd hp (List.not_mem_nil) | exact .tail _ hp | exact .tail _ (.tail _ hp) | exact .tail _ (.tail _ (.tail _ hp)) | exact .tail _ (.tail _ (.tail _ (.tail _ hp))) | exact .tail _ (.tail _ (.tail _ (.tail _ (.tail _ hp)))) | exact .tail _ (.tail _ (.tail _ (.tail _ (.tail _ (.tail _ hp))))) | exact .tail _ (.tail _ (.tail _ (.tail _ (.tail _ (.tail _ (.tail _ hp)))))))).1)) ?_; (try dsimp only); (try simp only [List.push_toArray] at kN9))
  all_goals (unfold fig; refine ex_int ?_; (repeat' split) <;> first | rfl | omega | simp_all)
end
local macro_rules | `(tactic| walk_at "H6") => `(tactic| (k_here; (with_reducible show wpAny _ _ (call (Value.ref 112) _) _ _ _); k_dflt (refine' useI (c_figure1 _ _ _) ?kS ?kN ?ko ?kp ?_; walk_at "M_ASK"); walk_at "M_B0"))
section
local macro_rules | `(tactic| walk_at "call ref") => `(tactic| first | walk_at "H6" | walk_at "H5" | walk_at "H4" | walk_at "H3" | walk_at "H2" | walk_at "H1" | walk_at "H0")
theorem c_figure2 (w : World) (i : Int) (t : Tok) : Spec w 2 112 [] [.int i t, .bool false] (fun _ => True) (fun _ v _ => ∃ t, v = .int (fig i false) t) := by
  w_top off
  intro mean mg mb dp un gd cn cs a ccd cl outer A₀ base h₀ L m s Q E S N hpre hret
  have hd9 := S.d
  have hu9 := S.u
  have XB1 := S.XB
  have TB1 := S.TB
  k_dflt (refine' enter S N ?k6 ?k7 ?k8 ?k9 ?kB ?_ ?c2 ?c3 ?c4 ?c5; (case k6 => k_is); (case k7 => k_is); (case k8 => ktr_room); (case k9 => (intro kX; first | exact BindsTo.of_eq rfl | exact binds_K kX rfl (by k_is) rfl rfl rfl)); (case c5 => decide); (case kB => exact locs rfl); (case c2 => exact rfl); (case c3 => exact rfl); (case c4 => exact rfl); k_whole)
  intro g L1 h1 F1 N1 B1 X1 T1 hin hup hlt hL1
  (try dsimp only)
  (try k_fold)
  k_steps
  all_goals (rename Fr _ _ _ _ => kF9; rename News _ _ _ _ => kN9; (iterate 4 ((try dsimp only [KswPost, InvPostN, InvPost]); (try k_unfold))); (try dsimp only); refine hret _ _ _ (stays_of N hup kF9.keep (fun p hp => (kN9 p (by first | exact hp | exact absurd hp (List.not_mem_nil) | exact .tail _ hp | exact .tail _ (.tail _ hp) | exact .tail _ (.tail _ (.tail _ hp)) | exact .tail _ (.tail _ (.tail _ (.tail _ hp))) | exact .tail _ (.tail _ (.tail _ (.tail _ (.tail _ hp)))) | exact .tail _ (.tail _ (.tail _ (.tail _ (.tail _ (.tail _ hp))))) | exact .tail _ (.tail _ (.tail _ (.tail _ (.tail _ (.tail _ (.tail _ hp)))))))).1)) ?_; (try dsimp only); (try simp only [List.push_toArray] at kN9))
  all_goals (unfold fig; refine ex_int ?_; (repeat' split) <;> first | rfl | omega | simp_all)
end
local macro_rules | `(tactic| walk_at "H7") => `(tactic| (k_here; (with_reducible show wpAny _ _ (call (Value.ref 112) _) _ _ _); k_dflt (refine' useI (c_figure2 _ _ _) ?kS ?kN ?ko ?kp ?_; walk_at "M_ASK"); walk_at "M_B0"))
section
local macro_rules | `(tactic| walk_at "call ref") => `(tactic| first | walk_at "H7" | walk_at "H6" | walk_at "H5" | walk_at "H4" | walk_at "H3" | walk_at "H2" | walk_at "H1" | walk_at "H0")
theorem c_value (w : World) (i : Int) (t : Tok) : Spec w 2 119 [] [.int i t] (fun _ => True) (fun _ v _ => (valOf i = none ∧ v = .none) ∨ ∃ j t, valOf i = some j ∧ v = .int j t) := by
  w_top off
  intro mean mg mb dp un gd cn cs a ccd cl outer A₀ base h₀ L m s Q E S N hpre hret
  have hd9 := S.d
  have hu9 := S.u
  have XB1 := S.XB
  have TB1 := S.TB
  k_dflt (refine' enter S N ?k6 ?k7 ?k8 ?k9 ?kB ?_ ?c2 ?c3 ?c4 ?c5; (case k6 => k_is); (case k7 => k_is); (case k8 => ktr_room); (case k9 => (intro kX; first | exact BindsTo.of_eq rfl | exact binds_K kX rfl (by k_is) rfl rfl rfl)); (case c5 => decide); (case kB => exact locs rfl); (case c2 => exact rfl); (case c3 => exact rfl); (case c4 => exact rfl); k_whole)
  intro g L1 h1 F1 N1 B1 X1 T1 hin hup hlt hL1
  (try dsimp only)
  (try k_fold)
  k_steps
  all_goals (rename Fr _ _ _ _ => kF9; rename News _ _ _ _ => kN9; (iterate 4 ((try dsimp only [KswPost, InvPostN, InvPost]); (try k_unfold))); (try dsimp only); refine hret _ _ _ (stays_of N hup kF9.keep (fun p hp => (kN9 p (by first | exact hp | exact absurd hp (List.not_mem_nil) | exact .tail _ hp | exact .tail _ (.tail _ hp) | exact .tail _ (.tail _ (.tail _ hp)) | exact .tail _ (.tail _ (.tail _ (.tail _ hp))) | exact .tail _ (.tail _ (.tail _ (.tail _ (.tail _ hp)))) | exact .tail _ (.tail _ (.tail _ (.tail _ (.tail _ (.tail _ hp))))) | exact .tail _ (.tail _ (.tail _ (.tail _ (.tail _ (.tail _ (.tail _ hp)))))))).1)) ?_; (try dsimp only); (try simp only [List.push_toArray] at kN9))
  all_goals (unfold valOf; (repeat' split) <;> first | omega | exact .inl ⟨rfl, rfl⟩ | exact .inr ⟨_, _, rfl, rfl⟩)
end
local macro_rules | `(tactic| walk_at "H8") => `(tactic| (k_here; (with_reducible show wpAny _ _ (call (Value.ref 119) _) _ _ _); k_dflt (refine' useO (c_value _ _ _) ?kS ?kN ?ko ?kp ?ka ?kb; walk_at "M_ASK"); walk_at "M_B5"))
section
local macro_rules | `(tactic| walk_at "call ref") => `(tactic| first | walk_at "H8" | walk_at "H7" | walk_at "H6" | walk_at "H5" | walk_at "H4" | walk_at "H3" | walk_at "H2" | walk_at "H1" | walk_at "H0")
theorem c_adapted (w : World) (x dx : Addr) (k1 k2 k3 k4 k5 k6 k7 : Tok) (d mm : Int) (f : Bool) (t u : Tok) : Spec w 2 97 (numsL w x dx k1 k2 k3 k4 k5 k6 k7) [.ref x, .int d t, .int mm u, .bool f] (fun _ => 0 ≤ d ∧ 1 ≤ mm ∧ mm < 1000000) (fun _ v _ => ∃ t, v = .int (adapt d mm f) t) := by
  w_top off
  intro mean mg mb dp un gd cn cs a ccd cl outer A₀ base h₀ L m s Q E S N hpre hret
  have hd9 := S.d
  have hu9 := S.u
  have XB1 := S.XB
  have TB1 := S.TB
  k_dflt (refine' enter S N ?k6 ?k7 ?k8 ?k9 ?kB ?_ ?c2 ?c3 ?c4 ?c5; (case k6 => k_is); (case k7 => k_is); (case k8 => ktr_room); (case k9 => (intro kX; first | exact BindsTo.of_eq rfl | exact binds_K kX rfl (by k_is) rfl rfl rfl)); (case c5 => decide); (case kB => exact locs rfl); (case c2 => exact rfl); (case c3 => exact rfl); (case c4 => exact rfl); k_whole)
  intro g L1 h1 F1 N1 B1 X1 T1 hin hup hlt hL1
  (try dsimp only)
  (try k_fold)
  have hd := hpre.1
  have hm := hpre.2.1
  have hm2 := hpre.2.2
  have hm0 : mm ≠ 0 := by omega
  have e455 : ((36 - 1) * 26 : Int).fdiv 2 = 455 := by decide
  have ha : ∀ a : Int, 0 ≤ a → 0 ≤ a + a.fdiv mm := fun a h => by
    have := Int.fdiv_nonneg h (by omega : (0 : Int) ≤ mm)
    omega
  obtain ⟨W, hW⟩ : ∃ W : Int → Int → Prop, ∀ a b, W a b ↔ (∃ n : Nat, a.toNat < n ∧ adL n a b = adapt d mm f) := ⟨_, fun _ _ => Iff.rfl⟩
  k_steps
  all_goals refine Halt.go ?_
  all_goals (rename Fr _ _ _ _ => kF; rename News _ _ _ _ => kN)
  all_goals (
    refine ksw_while (σ := Int × Tok × Int × Tok) (fun _ => (numsL w x dx k1 k2 k3 k4 k5 k6 k7)) (fun c => [(Str.ofString "delta", .int c.1 c.2.1), (Str.ofString "count", .int c.2.2.1 c.2.2.2)]) (fun _ => True) []
      (fun c => 0 ≤ c.1 ∧ W c.1 c.2.2.1) (fun c => c.1.toNat) (_, _, _, _) kF kN trivial (by kst_all) ?_ ?_)
  case refine_1 =>
    dsimp only
    refine ⟨ha _ (Int.fdiv_nonneg hd (by decide)), (hW _ _).mpr ⟨_, Nat.lt_succ_self _, ?_⟩⟩
    subst f
    rfl
  case refine_1 =>
    dsimp only
    refine ⟨ha _ (Int.fdiv_nonneg hd (by decide)), (hW _ _).mpr ⟨_, Nat.lt_succ_self _, ?_⟩⟩
    subst f
    rfl
  all_goals (
    clear kF kN
    rintro ⟨c1, c2, c3, c4⟩ u9 h9 tk9 _ ⟨hP, hP2⟩ kF kN
    dsimp only at hP hP2 kF kN
    (try k_fold)
    k_steps)
  · refine Halt.go ?_; rename Fr _ _ _ _ => kF9; rename News _ _ _ _ => kN9; (try simp only [List.push_toArray] at kN9)
    obtain ⟨n, hn1, hn2⟩ := (hW _ _).mp hP2
    obtain ⟨k, hk1, hk2⟩ := adL_go (c := c3) (by omega : 455 < c1) hn1
    refine ksw_end ⟨_, _, _, _⟩ kF9 kN9 (by kst_in) trivial (by kst_all) (by (intro z h2 h3; (try simp only [List.forall_mem_cons, List.not_mem_nil, false_implies, implies_true, and_true, ne_eq] at h2); (try simp only [List.contains_cons, List.contains_nil, Bool.or_false, Bool.or_eq_false_iff, beq_eq_false_iff_ne, ne_eq] at h3); (simp [h2, h3, kstB]))) ⟨Int.fdiv_nonneg hP (by decide), (hW _ _).mpr ⟨k, hk1, hk2.symm.trans hn2⟩⟩ ?_
    exact ad_less (by omega)
  · (rename Fr _ _ _ _ => kF9; rename News _ _ _ _ => kN9; (iterate 4 ((try dsimp only [KswPost, InvPostN, InvPost]); (try k_unfold))); (try dsimp only); refine hret _ _ _ (stays_of N hup kF9.keep (fun p hp => (kN9 p (by first | exact hp | exact absurd hp (List.not_mem_nil) | exact .tail _ hp | exact .tail _ (.tail _ hp) | exact .tail _ (.tail _ (.tail _ hp)) | exact .tail _ (.tail _ (.tail _ (.tail _ hp))) | exact .tail _ (.tail _ (.tail _ (.tail _ (.tail _ hp)))) | exact .tail _ (.tail _ (.tail _ (.tail _ (.tail _ (.tail _ hp))))) | exact .tail _ (.tail _ (.tail _ (.tail _ (.tail _ (.tail _ (.tail _ hp)))))))).1)) ?_; (try dsimp only); (try simp only [List.push_toArray] at kN9))
    obtain ⟨n, hn1, hn2⟩ := (hW _ _).mp hP2
    refine ex_int ?_
    rw [← hn2, adL_end (by omega)]
    rfl
  · refine Halt.go ?_; rename Fr _ _ _ _ => kF9; rename News _ _ _ _ => kN9; (try simp only [List.push_toArray] at kN9)
    obtain ⟨n, hn1, hn2⟩ := (hW _ _).mp hP2
    obtain ⟨k, hk1, hk2⟩ := adL_go (c := c3) (by omega : 455 < c1) hn1
    refine ksw_end ⟨_, _, _, _⟩ kF9 kN9 (by kst_in) trivial (by kst_all) (by (intro z h2 h3; (try simp only [List.forall_mem_cons, List.not_mem_nil, false_implies, implies_true, and_true, ne_eq] at h2); (try simp only [List.contains_cons, List.contains_nil, Bool.or_false, Bool.or_eq_false_iff, beq_eq_false_iff_ne, ne_eq] at h3); (simp [h2, h3, kstB]))) ⟨Int.fdiv_nonneg hP (by decide), (hW _ _).mpr ⟨k, hk1, hk2.symm.trans hn2⟩⟩ ?_
    exact ad_less (by omega)
  · (rename Fr _ _ _ _ => kF9; rename News _ _ _ _ => kN9; (iterate 4 ((try dsimp only [KswPost, InvPostN, InvPost]); (try k_unfold))); (try dsimp only); refine hret _ _ _ (stays_of N hup kF9.keep (fun p hp => (kN9 p (by first | exact hp | exact absurd hp (List.not_mem_nil) | exact .tail _ hp | exact .tail _ (.tail _ hp) | exact .tail _ (.tail _ (.tail _ hp)) | exact .tail _ (.tail _ (.tail _ (.tail _ hp))) | exact .tail _ (.tail _ (.tail _ (.tail _ (.tail _ hp)))) | exact .tail _ (.tail _ (.tail _ (.tail _ (.tail _ (.tail _ hp))))) | exact .tail _ (.tail _ (.tail _ (.tail _ (.tail _ (.tail _ (.tail _ hp)))))))).1)) ?_; (try dsimp only); (try simp only [List.push_toArray] at kN9))
    obtain ⟨n, hn1, hn2⟩ := (hW _ _).mp hP2
    refine ex_int ?_
    rw [← hn2, adL_end (by omega)]
    rfl
end
section
local macro_rules | `(tactic| walk_at "-") => `(tactic| skip)
local macro_rules | `(tactic| walk_at "call ref") => `(tactic| first | walk_at "H8" | walk_at "H7" | walk_at "H6" | walk_at "H5" | walk_at "H4" | walk_at "H3" | walk_at "H2" | walk_at "H1" | walk_at "H0")
structure PnS where
  vs : List Value
  fs : List Int
  nn : Nat
  v : Int
  vt : Tok
  p : Int
  pt : Tok
theorem c_number (w : World) (x dx : Addr) (k1 k2 k3 k4 k5 k6 k7 : Tok) (v bias : Int) (t u : Tok) : Spec w 4 127 (numsL w x dx k1 k2 k3 k4 k5 k6 k7) [.int v t, .int bias u, .ref x, .bool false] (fun _ => 0 ≤ v ∧ v < 2 ^ 40)
    (fun h r h' => ∃ l ws ns nn, r = .ref l ∧ h'.get? l = some (listOf ws.toArray nn) ∧ h.get? l = none ∧ IntsAre ws ns ∧ ns = pnumT v bias) := by
  w_top off
  intro mean mg mb dp un gd cn cs a ccd cl outer A₀ base h₀ L m s Q E S N hpre hret
  have hd9 := S.d
  have hu9 := S.u
  have XB1 := S.XB
  have TB1 := S.TB
  k_dflt (refine' enter S N ?k6 ?k7 ?k8 ?k9 ?kB ?_ ?c2 ?c3 ?c4 ?c5; (case k6 => k_is); (case k7 => k_is); (case k8 => ktr_room); (case k9 => (intro kX; first | exact BindsTo.of_eq rfl | exact binds_K kX rfl (by k_is) rfl rfl rfl)); (case c5 => decide); (case kB => exact locs rfl); (case c2 => exact rfl); (case c3 => exact rfl); (case c4 => exact rfl); k_whole)
  intro g L1 h1 F1 N1 B1 X1 T1 hin hup hlt hL1
  (try dsimp only)
  (try k_fold)
  have hv0 := hpre.1
  have hv1 := hpre.2
  obtain ⟨W, hW⟩ : ∃ W : Int → Int → List Int → Prop, ∀ a b c, W a b c ↔ PnW (pnumT v bias) bias a b c := ⟨_, fun _ _ _ => Iff.rfl⟩
  k_steps
  refine Halt.go ?_
  rename Fr _ _ _ _ => kF; rename News _ _ _ _ => kN
  rename_i l9 _ _ _ _ _ _ _ _
  refine ksw_while (σ := PnS) (fun c => (l9, listOf c.vs.toArray c.nn) :: (numsL w x dx k1 k2 k3 k4 k5 k6 k7)) (fun c => [(Str.ofString "value", .int c.v c.vt), (Str.ofString "place", .int c.p c.pt)]) (fun c => IntsAre c.vs c.fs) [Str.ofString "least", Str.ofString "span"]
      (fun c => 0 ≤ c.v ∧ c.fs.length ≤ 40 ∧ W c.v c.p c.fs) (fun c => c.v.toNat) ⟨[], [], 0, _, _, _, _⟩ kF (kst_newsOf kN (by kst_in)) IntsAre.nil (by kst_all) ?_ ?_
  · exact ⟨hv0, Nat.zero_le _, (hW _ _ _).mpr (PnW.start hv1)⟩
  clear kF kN
  rintro ⟨vs, fs, nn, v2, vt, p2, pt⟩ u9 h9 tk9 hi ⟨hP, hQ, hR⟩ kF kN
  dsimp only at hi hP hQ hR kF kN
  have hlen := hi.length
  have hl1 := thr_lo p2 bias
  have hl2 := thr_hi p2 bias
  (try k_fold)
  k_steps
  · (rename Fr _ _ _ _ => kF9; rename News _ _ _ _ => kN9; (iterate 4 ((try dsimp only [KswPost, InvPostN, InvPost]); (try k_unfold))); (try dsimp only); refine hret _ _ _ (stays_of N hup kF9.keep (fun p hp => (kN9 p (by first | exact hp | exact absurd hp (List.not_mem_nil) | exact .tail _ hp | exact .tail _ (.tail _ hp) | exact .tail _ (.tail _ (.tail _ hp)) | exact .tail _ (.tail _ (.tail _ (.tail _ hp))) | exact .tail _ (.tail _ (.tail _ (.tail _ (.tail _ hp)))) | exact .tail _ (.tail _ (.tail _ (.tail _ (.tail _ (.tail _ hp))))) | exact .tail _ (.tail _ (.tail _ (.tail _ (.tail _ (.tail _ (.tail _ hp)))))))).1)) ?_; (try dsimp only); (try simp only [List.push_toArray] at kN9))
    refine ⟨l9, _, _, _, rfl, (kN9 _ (.head _)).1, fresh_of hup kN9 (.head _) (by (intro q9 hq9; (first | (simp only [List.mem_cons, List.not_mem_nil, or_false] at hq9; (rcases hq9 with rfl | rfl | rfl | rfl | rfl | rfl) <;> (refine neN ?_; dsimp only; omega)) | exact absurd hq9 (List.not_mem_nil) | ((simp only [List.mem_cons, List.not_mem_nil, or_false] at hq9; (rcases hq9 with rfl | rfl) <;> (refine neN ?_; dsimp only; omega)))))), hi.append (.cons _ _ .nil), ?_⟩
    exact ((hW _ _ _).mp hR).fin (by assumption)
  · refine Halt.go ?_; rename Fr _ _ _ _ => kF9; rename News _ _ _ _ => kN9; (try simp only [List.push_toArray] at kN9)
    have hn := pn_less (by assumption : ¬ v2 < thr p2 bias)
    have hw := ((hW _ _ _).mp hR).go (by assumption)
    exact ksw_end ⟨_, _, _, _, _, _, _⟩ kF9 kN9 (by kst_in) (hi.append (.cons _ _ .nil)) (by kst_all) (by (intro z h2 h3; (try simp only [List.forall_mem_cons, List.not_mem_nil, false_implies, implies_true, and_true, ne_eq] at h2); (try simp only [List.contains_cons, List.contains_nil, Bool.or_false, Bool.or_eq_false_iff, beq_eq_false_iff_ne, ne_eq] at h3); (simp [h2, h3, kstB]))) ⟨hn.1, hw.len, (hW _ _ _).mpr hw⟩ hn.2
end
section
local macro_rules | `(tactic| walk_at "-") => `(tactic| skip)
local macro_rules | `(tactic| walk_at "-") => `(tactic| skip)
local macro_rules | `(tactic| walk_at "-") => `(tactic| skip)
section
open Builtin Builtin.ObjectAttr
variable {prog : Program} {w : World} {A : Around} {E : Value → Shared → Prop} {h : Heap} {g : Array GenState} {d : Drawn} {t : Nat} {os : OsState} {K : Frag} {C D x : Addr}

theorem set_told {cd : ClassData} {vs : Array Value} {v : Value} {name : Str} {Q : Unit → Shared → Prop} (X : K.In h)
    (hs : findIn K (.ref C) "__setattr__" = some (some (.builtin "object.__setattr__"))) (hob : mroIn K C (.type "object") = some true)
    (hc : clsIn K C = some cd) (hm : cd.mro = [.ref C, .ref D, .type "Exception", .type "BaseException", .type "object"]) (hd : cd.hasDict = true) (ht : findIn K (.ref C) name = some none)
    (hx : h.get? x = some ⟨.ref C, none, .fields vs, #[]⟩)
    (hq : ∀ h' dx tk', h'.get? x = some ⟨.ref C, some dx, .fields vs, #[]⟩ → h.get? dx = none → dx ≠ x → h'.Ns dx (fun y => if y = name then some v else none) → (∀ b o, b ≠ x → h.get? b = some o → h'.get? b = some o) → Q () ⟨h', g, d, tk', os⟩) :
    wpAny (model prog w) A (setAttr (.ref x) name v) Q E ⟨h, g, d, t, os⟩ := by
  have I : InstAt h x ⟨.ref C, none, .fields vs, #[]⟩ C none := ⟨hx, rfl, rfl, trivial⟩
  refine set_plain (s := ⟨h, g, d, t, os⟩) X I hs ?_
  have SF := PySem.F.store_object
  have sub : Looks (model prog w) h (isInstance (.ref x) (.type "object")) true := I.type.andThen (looks_mroIn X hob)
  refine codeAny_call_builtin SF.slot.plain SF.entry (@check_slot (model prog w) _ _ ⟨h, g, d, t + 1, os⟩ "object.__setattr__" "object" "__setattr__" (.ref x) [.str name t, v] [] _ SF.kind SF.split sub (SF.args (.ref x) (.str name t) v) ?_)
  have hm' : Looks (model prog w) h (mroOf (.ref C)) cd.mro := (looks_clsIn X hc).andThen .now
  rw [osa_eq, refuse_eq]
  refine wpAny_bind (wpAny_bind (I.type.here (wpAny_bind (hm'.here ?_))))
  rw [hm, refuseLoop_ref, refuseLoop_ref, PySem.F.store_Exception.passes]
  refine wpAny_pure (wpAny_bind (I.type.here (wpAny_bind ((looks_findIn X ht).here (wpAny_bind (wpAny_pure ?_))))))
  dsimp only
  refine wpAny_bind (wpAny_pure ?_)
  refine wpAny_bind ?_
  show wpAny _ _ (instanceDict x true) _ _ _
  unfold instanceDict
  refine wpAny_bind (wpAny_loadPart hx ?_)
  dsimp only
  refine wpAny_bind ((looks_clsIn X hc).here ?_)
  rw [hd]
  have hxs : x ≠ h.objs.size := Nat.ne_of_lt (Heap.lt_size hx)
  have hx₁ : (h.push { cls := .type "dict", data := .dict #[] }).get? x = some ⟨.ref C, none, .fields vs, #[]⟩ := Heap.get?_push_of_some _ hx
  simp only [Bool.not_true, Bool.false_eq_true, if_false, typeHasDict, Bool.or_self]
  refine wpAny_bind (wpAny_alloc ?_)
  refine wpAny_bind (wpAny_update hx₁ ?_)
  refine wpAny_pure ?_
  dsimp only
  have hgd : ((h.push { cls := .type "dict", data := .dict #[] }).update x fun o => { cls := o.cls, dict := some h.objs.size, data := o.data, slots := o.slots }).get? h.objs.size
      = some { cls := .type "dict", data := .dict #[] } :=
    (Heap.get?_update_ne _ _ _ _ hxs.symm).trans (Heap.get?_push_at rfl rfl)
  have hnd : ((h.push { cls := .type "dict", data := .dict #[] }).update x fun o => { cls := o.cls, dict := some h.objs.size, data := o.data, slots := o.slots }).Ns h.objs.size (fun _ => none) :=
    ⟨_, #[], _, hgd, rfl, fun e he => absurd he (by simp), fun _ => rfl⟩
  unfold storeInDict newKeyGuard
  refine wpAny_bind (wpAny_pure (wpAny_bind (wpAny_nsSet1 (Heap.Ns1.of_empty hnd) fun h' hn' hs => ?_)))
  obtain ⟨oD, esD, epD, hoD, hdD, hcD⟩ := hn'.count (Within.cons name v Within.nil)
  refine wpAny_bind (wpAny_lookBehind hoD (by rw [hdD]; exact pastItsLine_dict (Nat.le_trans hcD (by rw [List.length_cons, List.length_nil, sizeLine_eq]; omega))) ?_)
  have hx' : h'.get? x = some ⟨.ref C, some h.objs.size, .fields vs, #[]⟩ := (hs.2 x hxs).trans (Heap.get?_update_self _ hx₁ rfl)
  refine wpAny_pure (hq h' h.objs.size _ hx' (Heap.get?_none_of_le (Nat.le_refl _)) hxs.symm ?_ fun b o hbx hb => ?_)
  · obtain ⟨o', es, ep, e1, e2, e3, eu, e4⟩ := hn'
    exact ⟨o', es, ep, e1, e2, e3, e4⟩
  · exact (hs.2 b (Nat.ne_of_lt (Heap.lt_size hb))).trans ((Heap.get?_update_ne _ _ _ _ hbx).trans (Heap.get?_push_of_some _ hb))
end
section
open Builtin Builtin.ObjectAttr
variable {prog : Program} {w : World} {A : Around} {R : Result → Shared → Prop} {h : Heap} {g : Array GenState} {d : Drawn} {t : Nat} {os : OsState} {K : Frag}
variable {nm q : Str} {C N : Addr} {bs bm : List Value} {hdct : Bool} {sn : List Str} {sub : List Value} {ab : Bool} {col : Option Bool} {dd : Option Addr} {k0 k1 k2 k3 k5 : Option Value}

abbrev excTup (rest : List Value) : Obj := { cls := .type "tuple", data := .seq rest.toArray }
abbrev excBare (C t : Addr) (dx : Option Addr) : Obj := { cls := .ref C, dict := dx, data := .fields #[.ref t, .none, .none, .none, .bool false, .none] }

theorem exc_new {rest : List Value} (hC : h.get? C = some (excClassObj nm q C N bs bm hdct sn sub ab col dd k0 k1 k2 k3 k5 "Exception.__new__"))
    (hcB : (Value.ref C :: bm).contains (.type "Exception") = true) (hcA : (Value.ref C :: bm).contains (.type "AttributeError") = false) (hcN : (Value.ref C :: bm).contains (.type "NameError") = false)
    (hq : R (.ok (.ret (.ref (h.objs.size + 1)))) ⟨(h.push (excTup rest)).push (excBare C h.objs.size none), g, d, t, os⟩) (hrest : rest.length ≤ sizeLine) :
    codeAny (model prog w) A (.call (.builtin "Exception.__new__") ⟨.ref C :: rest, []⟩) R ⟨h, g, d, t, os⟩ := by
  have Fn := PySem.F.excBase_Exception
  refine codeAny_call_builtin_code (Code.quiet_builtin _ Fn.quiet) ?_
  · have hstar := Fn.noStar
    simp only [checkBuiltinCall, Fn.newKind, Fn.newSplit, Fn.newRow]
    repeat (first | refine wpAny_loadPart_at hC ?_ | (refine wpAny_isSubtype_exc hC ?_; rw [hcB]) | refine wpAny_staticBase_exc hC ?_ | refine wpAny_madeBy_exc hC ?_ | simp only [bne_self_eq_false, Bool.false_eq_true, if_false] | wp_step)
    have hends := Fn.ends
    refine codeAny_builtinAt Fn.entry ?_
    unfold Builtin.«BaseException.__new__»
    refine PySem.wpAt_bind ?_
    show PySem.wpAt _ _ _ (stack >>= _) _ _ _
    refine PySem.wpAt_bind (PySem.wpAt_stack fun p below => PySem.wpAt_of_wpAny ?_)
    wp_walk
    refine PySem.wpAt_of_wpAny ?_
    rw [Fn.owner]
    repeat (first | with_reducible refine wpAny_madeHere_exc Fn.canon hC ?_ | with_reducible refine wpAny_loadPart_at hC ?_ | (with_reducible refine wpAny_isSubtype_exc hC ?_; first | rw [hcB] | rw [hcA] | rw [hcN]) | wp_step)
    show R _ _
    rw [Heap.size_push]
    exact hq

theorem exc_make {rest : List Value} {fI : Addr} (X : K.In h) (hC : h.get? C = some (excClassObj nm q C N bs bm hdct sn sub ab col dd k0 k1 k2 k3 k5 "Exception.__new__"))
    (hcB : (Value.ref C :: bm).contains (.type "Exception") = true) (hcA : (Value.ref C :: bm).contains (.type "AttributeError") = false) (hcN : (Value.ref C :: bm).contains (.type "NameError") = false)
    (hi : findIn K (.ref C) "__init__" = some (some (.ref fI))) (hf : typeIn K (.ref fI) = some (.type "function")) (hrest : rest.length ≤ sizeLine)
    (hq : codeAny (model prog w) (A.under (.builtin "type.__call__" ⟨.ref C :: rest, []⟩)) (.call (.ref fI) ⟨.ref (h.objs.size + 1) :: rest, []⟩) (InitBack (h.objs.size + 1) R) ⟨(h.push (excTup rest)).push (excBare C h.objs.size none), g, d, t, os⟩) :
    codeAny (model prog w) A (.call (.ref C) ⟨rest, []⟩) R ⟨h, g, d, t, os⟩ := by
  have f1 := tc_lookup
  have f2 := tc_bind (.ref C)
  have hT : (⟨h, g, d, t, os⟩ : Shared).TypeIs (.ref C) "type" := ⟨_, hC, rfl⟩
  refine codeAny_of_tree ?_
  show wpAny _ _ (callAny (.ref C) _) _ _ _
  repeat (any_goals (first | assumption | with_reducible refine wpAny_loadPart_at hC ?_ | wp_step))
  refine ⟨rfl, ?_⟩
  refine codeAny_call_builtin_at (Code.quiet_builtin _ (by decide +kernel)) entry_typeCall (wpAny_check_type_call_sub hC ?_)
  repeat (first | with_reducible refine wpAny_loadPart_at hC ?_ | with_reducible refine wpAny_madeBy_exc hC ?_ | (with_reducible refine wpAny_mroOf_exc hC ?_) | wp_step)
  refine exc_new hC hcB hcA hcN ?_ hrest
  show wpAny _ _ _ _ _ _
  have k : ∀ b o, h.get? b = some o → ((h.push (excTup rest)).push (excBare C h.objs.size none)).get? b = some o := fun b o e => Heap.get?_push_of_some _ (Heap.get?_push_of_some _ e)
  have hx : ((h.push (excTup rest)).push (excBare C h.objs.size none)).get? (h.objs.size + 1) = some (excBare C h.objs.size none) := by heap_get
  have t1 : Looks (model prog w) ((h.push (excTup rest)).push (excBare C h.objs.size none)) (typeOf (.ref (h.objs.size + 1))) (.ref C) := (Looks.ld hx).andThen .now
  have hC₁ := k _ _ hC
  have hcC : (Value.ref C :: bm).contains (.ref C) = true := by simp
  have i1 := (looks_findIn (M := model prog w) X hi).keeps k
  have b1 := (bind_fn (M := model prog w) X (.ref (h.objs.size + 1)) hf).keeps k
  have s1 : Looks (model prog w) ((h.push (excTup rest)).push (excBare C h.objs.size none)) (isSubtype (.ref C) (.ref C)) true := fun A Q E s k q => by
    obtain ⟨hh, gg, d', tt, oo⟩ := s
    exact wpAny_isSubtype_exc (k _ _ hC₁) (by rw [hcC]; exact q)
  unfold isInstance callSpecial? specialOf
  refine wpAny_bind (wpAny_bind (t1.at (s1.at ?_)))
  simp only [Bool.not_true, Bool.false_eq_true, if_false]
  refine wpAny_bind (wpAny_holding (wpAny_bind (wpAny_bind (t1.at (i1.at (wpAny_holding (wpAny_bind (b1.at (wpAny_bind (wpAny_call ?_)))))))))) 
  refine codeAny_mono hq fun r s' z => ?_
  rcases r with e | (v | _ | _ | _) <;> first | exact z | exact z.elim | skip
  obtain ⟨rfl, z⟩ := z
  exact wpAny_pure (wpAny_pure z)
end
theorem bad_init (w : World) (e t : Addr) (v : Value) {mean : ExcName → Option Value} {mg mb : Str → Option Value} {dp un : Nat} {gd : Option (List Code)} {cn : Str} {cs : Scope} {a : Addr} {ccd : Value} {cl : List (Str × Addr)} {outer : List Env} {A₀ : Around} {base h₀ : Heap} {L : Addr} {m : Str → Option Value} {s : Shared} {R : Result → Shared → Prop}
    (S : Site 2 w mean mg mb dp un cs A₀ base h₀ outer L m s) (N : News h₀ L s.heap [(e, excBare 45 t none)])
    (hq : ∀ h' dx tk', h'.get? e = some (excBare 45 t (some dx)) → s.heap.get? dx = none → dx ≠ e → h'.Ns dx (fun y => if y = Str.ofString "told" then some v else none) → (∀ b o, b ≠ e → s.heap.get? b = some o → h'.get? b = some o) → R (.ok (.ret .none)) { s with heap := h', toks := tk' }) :
    codeAny (model PR w) (ktrTop dp un gd cn cs L a ccd cl outer) (.call (.ref 29) ⟨[.ref e, v], []⟩) R s := by
  w_top off
  have hd9 := S.d
  have hu9 := S.u
  k_dflt (refine' enterX S N ?k6 ?k7 ?k8 ?k9 ?kB ?_ ?c2 ?c3 ?c4 ?c5; (case k6 => k_is); (case k7 => k_is); (case k8 => ktr_room); (case k9 => (intro kX; first | exact BindsTo.of_eq rfl | exact binds_K kX rfl (by k_is) rfl rfl rfl)); (case c5 => decide); (case kB => exact locs rfl); (case c2 => exact rfl); (case c3 => exact rfl); (case c4 => exact rfl); k_whole)
  intro g L1 h1 F1 N1 B1 X1 T1 hin hup hlt hL1
  (try dsimp only)
  (try k_fold)
  k_steps
  have st : s.heap.StaysIn h1 := stays_of N hup F1.keep fun p hp => (N1 p hp).1
  refine' set_told (C := 45) (D := 32) ?x0 ?x1 ?x2 ?x3 ?x4 ?x5 ?x6 ?x7 ?_
  case x0 => exact X1.keeps F1.keep
  case x1 => k_is
  case x2 => k_is
  case x3 => k_is
  case x4 => rfl
  case x5 => rfl
  case x6 => k_is
  case x7 => exact (N1 _ (.head _)).1
  intro h' dx tk' ex ndx ne ns kp
  dsimp only
  k_steps
  (iterate 4 ((try dsimp only); (try k_unfold)))
  (try dsimp only)
  exact hq h' dx _ ex (by
    cases q : s.heap.get? dx with
    | none => rfl
    | some o => have := st _ _ q; rw [ndx] at this; cases this) ne ns fun b o hb e => kp b o hb (st b o e)
/-- the class of the program's own exception, as it stands -/
abbrev badCls : Obj := excClassObj (Str.ofString "BadLabel") (Str.ofString "BadLabel") 45 44 [.ref 32] [.ref 32, .type "Exception", .type "BaseException", .type "object"] true [] [] false none none (some (.ref 36)) none (some (.str (Str.ofString "BadLabel") 224)) (some (.str (Str.ofString "BadLabel") 232)) (some (.bool true)) "Exception.__new__"
theorem bad_at {w : World} {h : Heap} (X : (hd.heap_39 w.params).In h) : h.get? 45 = some badCls := X _ _ (by rfl)
section
variable {prog : Program} {w : World} {M : Model} {A : Around} {E : Value → Shared → Prop} {s : Shared} {env : Env} {K : Frag}
theorem bad_raiseStmt {x : Sem Value} {Q : Flow → Shared → Prop} (hh : A.handled = none)
    (h : wpAny M A x (fun v s₁ => ∃ e t dx, v = .ref e ∧ s₁.heap.get? 45 = some badCls ∧
      s₁.heap.get? e = some (excBare 45 t dx) ∧ E (.ref e) s₁) E s) :
    wpAny M A (raiseStmt env (some x) none) Q E s := by
  have hcB : (Value.ref 45 :: [.ref 32, .type "Exception", .type "BaseException", .type "object"]).contains (.type "BaseException") = true := by decide
  unfold raiseStmt
  refine wpAny_bind (wpAny_mono h (fun v s₁ h₁ => ?_) fun _ _ x => x)
  obtain ⟨e, t, dx, rfl, hC, he, hE⟩ := h₁
  obtain ⟨hp, g, d, tk, os⟩ := s₁
  repeat (first | with_reducible refine wpAny_loadPart_at he ?_ | with_reducible refine wpAny_loadPart_at hC ?_ | (with_reducible refine wpAny_isSubtype_exc hC ?_; rw [hcB]) | wp_step)
  exact wpAny_raiseNew_none hh hE
theorem bad_raise {f : Expr} {args : List Expr} {cpos pos : Pos} {Q : Flow → Shared → Prop} (hh : A.handled = none)
    (h : wpAny M A (eval (.Call f args [] cpos) env) (fun v s₁ => ∃ e t dx, v = .ref e ∧ s₁.heap.get? 45 = some badCls ∧
      s₁.heap.get? e = some (excBare 45 t dx) ∧ E (.ref e) s₁) E s) :
    wpAny M A (exec (.Raise (some (.Call f args [] cpos)) none pos) env) Q E s := by
  rw [arm_exec_Raise]
  refine wpAny_bind (wpAny_standAt (bad_raiseStmt hh ?_))
  refine wpAny_bind (wpAny_mono h (fun v s₃ h₃ => wpAny_bind (wpAny_standAt (wpAny_pure h₃))) fun _ _ x => x)
end

theorem mk_bad {w : World} {v : Value} {mean : ExcName → Option Value} {mg mb : Str → Option Value} {dp un : Nat} {gd : Option (List Code)} {cn : Str} {cs : Scope} {a : Addr} {ccd : Value} {cl : List (Str × Addr)} {outer : List Env} {A₀ : Around} {base h₀ : Heap} {L : Addr} {m : Str → Option Value} {s : Shared} {Q E : Value → Shared → Prop}
    (S : Site 4 w mean mg mb dp un cs A₀ base h₀ outer L m s)
    (hq : ∀ h' e t dx tk', s.heap.StaysIn h' → h'.get? e = some (excBare 45 t (some dx)) → s.heap.get? e = none → s.heap.get? dx = none → dx ≠ e → h'.Ns dx (fun y => if y = Str.ofString "told" then some v else none) → Q (.ref e) { s with heap := h', toks := tk' }) :
    wpAny (model PR w) (ktrTop dp un gd cn cs L a ccd cl outer) (call (.ref 45) [v]) Q E s := by
  obtain ⟨hh, g, d, t, os⟩ := s
  have X : (hd.heap_39 w.params).In hh := S.X.keeps S.F.keep
  have hi : findIn (hd.heap_39 w.params) (.ref 45) "__init__" = some (some (.ref 29)) := by k_dflt k_is
  have hf : typeIn (hd.heap_39 w.params) (.ref 29) = some (.type "function") := by k_dflt k_is
  refine wpAny_call (exc_make (K := hd.heap_39 w.params) X (bad_at X) (by decide) (by decide) (by decide) hi hf (by size_fits) ?_)
  have F1 := S.F.push (excTup [v])
  have F2 := F1.push (excBare 45 hh.objs.size none)
  have hd9 := S.d
  have hu9 := S.u
  have N2 : News h₀ L ((hh.push (excTup [v])).push (excBare 45 hh.objs.size none)) [(hh.objs.size + 1, excBare 45 hh.objs.size none)] := by
    have := News.push F1 News.nil (excBare 45 hh.objs.size none)
    rwa [Heap.size_push] at this
  refine bad_init w (hh.objs.size + 1) hh.objs.size v (dp := dp + 1) (un := un + 1) (s := ⟨(hh.push (excTup [v])).push (excBare 45 hh.objs.size none), g, d, t, os⟩) ⟨S.B, F2, S.X, S.T, S.k, by omega, by omega, S.XB, S.TB⟩ N2 ?_
  intro h' dx tk' ex ndx ne ns kp
  refine ⟨rfl, ?_⟩
  have k : ∀ b o, hh.get? b = some o → ((hh.push (excTup [v])).push (excBare 45 hh.objs.size none)).get? b = some o := fun b o e => Heap.get?_push_of_some _ (Heap.get?_push_of_some _ e)
  refine hq h' _ _ dx _ (fun b o e => kp b o (fun q => ?_) (k b o e)) ex (Heap.get?_none_of_le (Nat.le_succ _)) ?_ ne ns
  · have h1 : b < hh.objs.size := Heap.lt_size e
    rw [q] at h1
    exact absurd h1 (Nat.not_lt.mpr (Nat.le_succ _))
  · cases q : hh.get? dx with
    | none => rfl
    | some o => have := k _ _ q; rw [ndx] at this; cases this
def Tr (h base : Heap) (e dx : Addr) (fl : Value) : Prop :=
  ∃ oe vs T oT ts, h.get? e = some oe ∧ oe.cls = .ref 45 ∧ oe.dict = some dx ∧ oe.data = .fields vs ∧ vs[1]? = some (.ref T) ∧ base.get? T = none ∧ T ≠ e ∧ h.get? T = some oT ∧ oT.data = .fields ts ∧ ts[3]? = some fl
def Fly (base : Heap) (l : List Env) (e dx : Addr) (fl : Value) (h : Heap) : Prop :=
  base.StaysIn h ∧ base.get? e = none ∧ h.FunFrames base l ∧ Tr h base e dx fl
theorem dict_mapFields (f : Array Value → Array Value) (o : Obj) : (Obj.mapFields f o).dict = o.dict := by
  obtain ⟨_, _, dt, _⟩ := o
  cases dt <;> rfl

section
variable {M : Model} {A : Around} {E : Value → Shared → Prop} {s : Shared}

theorem fly_entry {base : Heap} {env : Env} {outer : List Env} {L e dx : Addr} {oe : Obj} {vs : Array Value} {head : Value} {hadNext : Bool} {Q : Unit → Shared → Prop}
    (hfr : A.frames = some (env :: outer)) (hl : s.heap.FunFrames base (env :: outer)) (hf : env.frame = some L)
    (he : s.heap.get? e = some oe) (hc : oe.cls = .ref 45) (hdx : oe.dict = some dx) (hkb : base.StaysIn s.heap) (hen : base.get? e = none) (hd : oe.data = .fields vs) (hsz : 1 < vs.size)
    (h : ∀ h', Fly base (env :: outer) e dx (rawInt L) h' → s.heap.UpToSlots h' → Q () { s with heap := h' }) :
    wpAny M A (do let a ← frameOf env; let pl ← entryPlaceOf L hadNext; let b ← EntryCells.newEntry head a .none (rawInt L) .none pl; setField (.ref e) 1 b) Q E s := by
  have hene : e ∉ (env :: outer).filterMap (·.frame) := fun hm => by
    obtain ⟨_, o, ho, hnf⟩ := hl.mem hm
    rw [he] at ho; injection ho with ho; subst ho; exact hnf vs hd
  refine wpAny_bind (wpAny_frameOf_fun hfr hl hf fun h₁ hs₁ => ?_)
  refine wpAny_bind (wpAny_entryPlaceOf fun pl hpl => ?_)
  unfold EntryCells.newEntry newFields
  refine wpAny_bind (wpAny_newObj_type ?_ (hpl.sizeOk5 _ _ _ _ _))
  have he₁ : h₁.get? e = some oe := (hs₁.2.1 e hene).trans he
  have kb₁ : base.StaysIn h₁ := fun b o hbo => (hs₁.2.1 b fun hm => by rw [(hl.mem hm).1] at hbo; cases hbo).trans (hkb b o hbo)
  generalize hoT : ({ cls := .type "traceback", dict := none, data := .fields ([head, .ref L, .none, rawInt L, .none] ++ (if pl.isEmpty then List.replicate 6 Value.none else pl)).toArray } : Obj) = oT
  have hTd : oT.data = .fields ([head, .ref L, .none, rawInt L, .none] ++ (if pl.isEmpty then List.replicate 6 Value.none else pl)).toArray := by rw [← hoT]
  have he₂ := Heap.get?_push_of_some (h := h₁) oT he₁
  refine wpAny_setField he₂ hd hsz (h _ ?_ ?_)
  all_goals
    have hTe : h₁.objs.size ≠ e := Nat.ne_of_gt (Heap.lt_size he₁)
    have hd₃ := Obj.data_mapFields hd (·.setIfInBounds 1 (Value.ref h₁.objs.size))
    have he₃ := Heap.get?_update_self (Obj.mapFields (·.setIfInBounds 1 (Value.ref h₁.objs.size))) he₂ (Obj.isFreed_of_fields hd₃)
    have hT₃ := (Heap.get?_update_other (h₁.push oT) (Obj.mapFields (·.setIfInBounds 1 (Value.ref h₁.objs.size))) (Ne.symm hTe)).trans (Heap.get?_push_size h₁ (Obj.isFreed_of_fields hTd))
    have keep : ∀ b o, b ≠ e → h₁.get? b = some o → ((h₁.push oT).update e (Obj.mapFields (·.setIfInBounds 1 (Value.ref h₁.objs.size)))).get? b = some o := fun b o hbe hb => by
      rw [Heap.get?_update_other _ _ (Ne.symm hbe)]
      exact Heap.get?_push_of_some _ hb
    have noRecord : ∀ b o, s.heap.get? b = some o → (∀ vs, o.data ≠ .fields vs) → b ≠ e := fun b o hb hnf q => by
      rw [q, he] at hb; injection hb with hb; subst hb; exact hnf vs hd
  · refine ⟨fun b o hbo => keep b o (fun q => by rw [q, hen] at hbo; cases hbo) (kb₁ b o hbo), hen, hl.of_keeps fun b o hb hnf => ?_, ?_⟩
    · obtain ⟨sl, hs⟩ := hs₁.2.2 b o hb
      exact ⟨_, keep b _ (noRecord b o hb hnf) hs, rfl⟩
    · exact ⟨_, _, h₁.objs.size, _, _, he₃, (Obj.cls_mapFields _ _).trans hc, (dict_mapFields _ _).trans hdx, hd₃, by simp [hsz], kb₁.fresh, hTe, hT₃, hTd, by first | (simp; done) | (rcases hpl with rfl | ⟨_, _, _, _, _, _, _, rfl⟩ <;> simp)⟩
  · intro b o hb hnf
    obtain ⟨sl, hs⟩ := hs₁.2.2 b o hb
    exact ⟨sl, keep b _ (noRecord b o hb hnf) hs⟩

theorem fly_note_first {base : Heap} {env : Env} {outer : List Env} {L e dx : Addr} {oe : Obj} {vs : Array Value} {Q : Unit → Shared → Prop}
    (hfr : A.frames = some (env :: outer)) (hl : s.heap.FunFrames base (env :: outer)) (hf : env.frame = some L)
    (he : s.heap.get? e = some oe) (hc : oe.cls = .ref 45) (hdx : oe.dict = some dx) (hkb : base.StaysIn s.heap) (hen : base.get? e = none) (hd : oe.data = .fields vs) (h1 : vs[1]? = some .none)
    (h : ∀ h', Fly base (env :: outer) e dx (rawInt L) h' → s.heap.UpToSlots h' → Q () { s with heap := h' }) : wpAny M A (noteFrame (.ref e) env) Q E s := by
  unfold noteFrame
  simp only [hf]
  refine wpAny_bind (wpAny_field he hd h1 ?_)
  rw [if_neg (by decide)]
  exact fly_entry hfr hl hf he hc hdx hkb hen hd (Array.getElem?_eq_some_iff.mp h1).1 h

theorem fly_note_on {base : Heap} {env : Env} {outer : List Env} {L e dx : Addr} {Q : Unit → Shared → Prop}
    (hfr : A.frames = some (env :: outer)) (hf : env.frame = some L) (W : Fly base (env :: outer) e dx .none s.heap)
    (h : ∀ h', Fly base (env :: outer) e dx (rawInt L) h' → s.heap.UpToSlots h' → Q () { s with heap := h' }) : wpAny M A (noteFrame (.ref e) env) Q E s := by
  obtain ⟨hkb, hen, hl, oe, vs, T, oT, ts, he, hc, hdx, hd, h1, hnT, hTe, hT, hdT, h3⟩ := W
  unfold noteFrame
  simp only [hf]
  refine wpAny_bind (wpAny_field he hd h1 ?_)
  rw [if_pos (show (Value.ref T != Value.none) = true from by simp)]
  refine wpAny_bind (wpAny_field hT hdT h3 ?_)
  rw [if_neg (show ¬ ((Value.none == rawInt L) = true) from by simp [rawInt])]
  refine wpAny_bind (wpAny_setField hT hdT (Array.getElem?_eq_some_iff.mp h3).1 ?_)
  have other : ∀ b, b ≠ T → (s.heap.update T (Obj.mapFields (·.setIfInBounds 3 Value.none))).get? b = s.heap.get? b := fun b hb => Heap.get?_update_other _ _ (Ne.symm hb)
  have noRecord : ∀ b o, s.heap.get? b = some o → (∀ vs, o.data ≠ .fields vs) → b ≠ T := fun b o hb hnf q => by
    rw [q, hT] at hb; injection hb with hb; subst hb; exact hnf ts hdT
  exact fly_entry hfr (hl.of_keeps fun b o hb hnf => ⟨o, (other b (noRecord b o hb hnf)).trans hb, rfl⟩) hf ((other e (Ne.symm hTe)).trans he) hc hdx
    (fun b o hbo => (other b fun q => by rw [q, hnT] at hbo; cases hbo).trans (hkb b o hbo)) hen hd (Array.getElem?_eq_some_iff.mp h1).1
    fun h' x1 x2 => h h' x1 fun b o hb hnf => x2 b o ((other b (noRecord b o hb hnf)).trans hb) hnf

theorem fly_land {base : Heap} {l : List Env} {e dx : Addr} {fl : Value} {Q : Unit → Shared → Prop} (W : Fly base l e dx fl s.heap)
    (h : ∀ h', Fly base l e dx .none h' → s.heap.UpToSlots h' → Q () { s with heap := h' }) : wpAny M A (setFlight (.ref e) none) Q E s := by
  obtain ⟨hkb, hen, hl, oe, vs, T, oT, ts, he, hc, hdx, hd, h1, hnT, hTe, hT, hdT, h3⟩ := W
  have hsz3 : 3 < ts.size := (Array.getElem?_eq_some_iff.mp h3).1
  have other : ∀ b, b ≠ T → (s.heap.update T (Obj.mapFields (·.setIfInBounds 3 ((none : Option Addr).elim Value.none fun f => rawInt f)))).get? b = s.heap.get? b :=
    fun b hb => Heap.get?_update_other _ _ (Ne.symm hb)
  have noRecord : ∀ b o, s.heap.get? b = some o → (∀ vs, o.data ≠ .fields vs) → b ≠ T := fun b o hb hnf q => by
    rw [q, hT] at hb; injection hb with hb; subst hb; exact hnf ts hdT
  unfold setFlight
  refine wpAny_bind (wpAny_field he hd h1 ?_)
  rw [if_pos (show (Value.ref T != Value.none) = true from by simp)]
  refine wpAny_setField hT hdT hsz3 (h _ ⟨fun b o hbo => (other b fun q => by rw [q, hnT] at hbo; cases hbo).trans (hkb b o hbo), hen,
    hl.of_keeps fun b o hb hnf => ⟨o, (other b (noRecord b o hb hnf)).trans hb, rfl⟩, ?_⟩ fun b o hb hnf => ⟨o.slots, (other b (noRecord b o hb hnf)).trans hb⟩)
  exact ⟨oe, vs, T, _, _, (other e (Ne.symm hTe)).trans he, hc, hdx, hd, h1, hnT, hTe, Heap.get?_update_self _ hT (Obj.isFreed_of_fields (Obj.data_mapFields hdT _)), Obj.data_mapFields hdT _, by simp [hsz3]⟩

theorem fly_leave_first {base : Heap} {env : Env} {outer : List Env} {L e dx : Addr} {oe : Obj} {vs : Array Value} {Q : Unit → Shared → Prop}
    (hfr : A.frames = some (env :: outer)) (hl : s.heap.FunFrames base (env :: outer)) (hf : env.frame = some L)
    (he : s.heap.get? e = some oe) (hc : oe.cls = .ref 45) (hdx : oe.dict = some dx) (hkb : base.StaysIn s.heap) (hen : base.get? e = none) (hd : oe.data = .fields vs) (h1 : vs[1]? = some .none)
    (h : ∀ h', Fly base outer e dx .none h' → s.heap.UpToSlots h' → Q () { s with heap := h' }) : wpAny M A (leaving env (.ref e)) Q E s := by
  unfold leaving
  refine wpAny_bind (fly_note_first hfr hl hf he hc hdx hkb hen hd h1 fun h₁ W u => fly_land W fun h₂ ⟨a, b, ⟨_, _, c⟩, d⟩ u₂ => h h₂ ⟨a, b, c, d⟩ (u.trans u₂))
theorem fly_leave_on {base : Heap} {env : Env} {outer : List Env} {L e dx : Addr} {Q : Unit → Shared → Prop}
    (hfr : A.frames = some (env :: outer)) (hf : env.frame = some L) (W : Fly base (env :: outer) e dx .none s.heap)
    (h : ∀ h', Fly base outer e dx .none h' → s.heap.UpToSlots h' → Q () { s with heap := h' }) : wpAny M A (leaving env (.ref e)) Q E s := by
  unfold leaving
  refine wpAny_bind (fly_note_on hfr hf W fun h₁ W u => fly_land W fun h₂ ⟨a, b, ⟨_, _, c⟩, d⟩ u₂ => h h₂ ⟨a, b, c, d⟩ (u.trans u₂))
end
abbrev frs (l : List Env) : List Addr := l.filterMap (·.frame)
theorem mem_frs {env : Env} {L b : Addr} {l : List Env} (hf : env.frame = some L) (hm : b ∈ frs (env :: l)) : b = L ∨ b ∈ frs l := by
  obtain ⟨env', he, hf'⟩ := List.mem_filterMap.mp hm
  rcases List.mem_cons.mp he with rfl | he
  · rw [hf] at hf'
    exact .inl (Option.some.inj hf').symm
  · exact .inr (List.mem_filterMap.mpr ⟨env', he, hf'⟩)
/-- an exception of the program's own on its way through the frames l; what stood in h stands -/
def Flew (h : Heap) (l : List Env) (e : Addr) (h' : Heap) : Prop :=
  ∃ B dx v, (∀ b o, h.get? b = some o → b ∉ frs l → B.get? b = some o) ∧ Fly B l e dx .none h' ∧ B.Ns dx (fun y => if y = Str.ofString "told" then some (.ref v) else none) ∧ h.UpToSlots h' ∧ h.get? dx = none

section
variable {M : Model} {A : Around} {E : Value → Shared → Prop} {s' : Shared} {base g h h1 h2 : Heap} {l : List Env} {L e dx t v : Addr} {m : Str → Option Value} {env : Env} {Q : Unit → Shared → Prop}
theorem flew_first (K : Below A base l g) (F : Fr g L h1 m) (hf : env.frame = some L) (hk : env.scope.kind = .function) (st1 : h1.StaysIn s'.heap) (st : h.StaysIn h1) (hL : h.get? L = none)
    (he : s'.heap.get? e = some (excBare 45 t (some dx))) (hen : h1.get? e = none) (hdn : h1.get? dx = none) (hne : dx ≠ e) (hns : s'.heap.Ns dx (fun y => if y = Str.ofString "told" then some (.ref v) else none))
    (hQ : ∀ h', Flew h l e h' → Q () { s' with heap := h' }) : wpAny M (A.deeper env) (leaving env (.ref e)) Q E s' := by
  have K' := pushX K (fr_stays F st1) hf hk
  have hin : ∀ env' ∈ env :: l, ∀ b, env'.frame = some b → b ∈ e :: frs (env :: l) := fun env' he b hb => .tail _ (List.mem_filterMap.mpr ⟨env', he, hb⟩)
  refine fly_leave_first (base := hideAll s'.heap (e :: frs (env :: l))) K'.stack (funFrames_hide K'.frames hin) hf he rfl rfl (fun b o q => of_hideAll _ q) (hideAll_none _ (.head _)) rfl rfl fun h' W u => hQ h' ⟨_, dx, v, fun b o q nm => ?_, W, ?_, (Heap.UpToSlots.of_keeps fun b o q => st1 b o (st b o q)).trans u, kts_none st hdn⟩
  · refine hideAll_get _ (st1 b o (st b o q)) fun hm => ?_
    rcases List.mem_cons.mp hm with z | z
    · have := st b o q; rw [z, hen] at this; cases this
    · rcases mem_frs hf z with z | z
      · rw [z, hL] at q; cases q
      · exact nm z
  · obtain ⟨o, es, ep, e1, e2, e3, e4⟩ := hns
    refine ⟨o, es, ep, hideAll_get _ e1 fun hm => ?_, e2, e3, e4⟩
    rcases List.mem_cons.mp hm with z | z
    · exact hne z
    · rcases mem_frs hf z with z | z
      · obtain ⟨oL, _, _, hL', _⟩ := F.ns
        rw [← z, hdn] at hL'; cases hL'
      · obtain ⟨_, o', ho', _⟩ := K.frames.mem z
        have := F.keep _ _ ho'
        rw [hdn] at this; cases this
theorem flew_on (hA : A.frames = some l) (hf : env.frame = some L) (st : h.StaysIn h2) (hL : h.get? L = none) (W : Flew h2 (env :: l) e s'.heap)
    (hQ : ∀ h', Flew h l e h' → Q () { s' with heap := h' }) : wpAny M (A.deeper env) (leaving env (.ref e)) Q E s' := by
  obtain ⟨B, dx, v, hB, W, hns, u, hdn⟩ := W
  refine fly_leave_on (Around.frames_deeper hA) hf W fun h' W' u' => hQ h' ⟨B, dx, v, fun b o q nm => hB b o (st b o q) fun hm => ?_, W', hns, ((Heap.UpToSlots.of_keeps st).trans u).trans u', kts_none st hdn⟩
  rcases mem_frs hf hm with z | z
  · rw [z, hL] at q; cases q
  · exact nm z
end

section
variable {A₀ : Around} {base g G B h₅ : Heap} {l : List Env} {L : Addr} {m : Str → Option Value} {env : Env}
theorem my_ground (K : Below A₀ base l g) (F : Fr g L G m) (hf : env.frame = some L) (hBG : ∀ b o, G.get? b = some o → b ∉ frs (env :: l) → B.get? b = some o) (hBh : B.StaysIn h₅) (hsm : G.UpToSlots h₅) :
    ∃ g', KtsTurn (frs l) g g' ∧ Fr g' L h₅ m ∧ Below A₀ base l g' := by
  obtain ⟨T, S⟩ := kts_turn_at (h := h₅) (fs := frs l) (g := g)
    (fun b hb => by
      obtain ⟨_, o, ho, _⟩ := K.frames.mem hb
      exact ⟨o, ho⟩)
    (fun b o e nm => hBh b o (hBG b o (F.keep b o e) (fun hm => by
      rcases mem_frs hf hm with z | z
      · rw [z, kts_self F] at e
        cases e
      · exact nm z)))
    (fun b o e hm => by
      obtain ⟨_, o', ho', hd⟩ := K.frames.mem hm
      rw [e] at ho'
      cases ho'
      exact hsm b o (F.keep b o e) hd)
  refine ⟨_, T, ⟨hsm.ns F.ns, S, by rw [T.size]; exact F.above⟩, ⟨K.stack, fun b o e => T.other b o (K.stays b o e) (fun hm => by
    rw [(K.frames.mem hm).1] at e
    cases e), K.frames.of_keeps fun b o e _ => ?_⟩⟩
  obtain ⟨sl, hs⟩ := T.up e
  exact ⟨_, hs, rfl⟩
end
section
variable {w : World} {A₀ : Around} {base g G : Heap} {E : Value → Shared → Prop} {s' : Shared} {l : List Env} {L a e : Addr} {m mg mb : Str → Option Value} {name : Str} {scope : Scope} {cd : Value} {cl : List (Str × Addr)} {news : Led} {mean : ExcName → Option Value}
  {n : Str} {b₀ : Stmt} {suite : List Stmt} {pos np : Pos} {rest : List ExceptHandler} {Q : Flow → Shared → Prop} {x : Str}
theorem caught0 (W : Flew G (envX name scope L a cd cl :: l) e s'.heap) (F : Fr g L G m) (N : News g L G news) (K : Below A₀ base l g) (XB : (hd.heap_39 w.params).In base) (TB : Top hd.view_39 LO mean mg mb base)
    (ex : nsIn (hd.heap_39 w.params) mainGlobals x = some (some (.ref 45)))
    (k : ∀ h' g', KtsTurn (frs l) g g' → Fr g' L h' m → News g' L h' news → Below A₀ base l g' → (hd.heap_39 w.params).In g' → Top hd.view_39 LO mean mg mb g' →
      wpAny (model PR w) ((A₀.deeper (envX name scope L a cd cl)).mark (some (.ref e))) (execs (b₀ :: suite) (envX name scope L a cd cl)) Q E { s' with heap := h' })
    (hk : scope.kind = .function := by rfl) (hx : (envX name scope L a cd cl).kindOf x = some .globalImplicit := by rfl) (hdb : (x == ("__debug__" : Str)) = false := by decide)
    (hE : PassesOwnAt (model PR w) ((A₀.deeper (envX name scope L a cd cl)).mark (some (.ref e))) (A₀.deeper (envX name scope L a cd cl)) (envX name scope L a cd cl) E := by passes_own) :
    wpAny (model PR w) (A₀.deeper (envX name scope L a cd cl)) (noteFrame (.ref e) (envX name scope L a cd cl))
      (fun _ s₂ => wpAny (model PR w) (A₀.deeper (envX name scope L a cd cl)) (setFlight (.ref e) none) (fun _ s₃ =>
        wpAny (model PR w) (A₀.deeper (envX name scope L a cd cl)) (handleBy (.ref e) (envX name scope L a cd cl) (.ExceptHandler (some (.Name x np)) none (b₀ :: suite) pos :: rest)) Q E s₃) E s₂) E s' := by
  obtain ⟨B, dx, v, hB, W, hns, u, hdn⟩ := W
  have hL : B.get? L = none := by
    obtain ⟨_, ⟨L', _, hf, hn', _⟩, _⟩ := W.2.2.1
    obtain rfl : L = L' := Option.some.inj hf
    exact hn'
  refine fly_note_on (Around.frames_deeper K.stack) rfl W fun h₄ W₄ u₄ => ?_
  refine fly_land W₄ fun h₅ W₅ u₅ => ?_
  have uu := (u.trans u₄).trans u₅
  obtain ⟨g₅, T₅, F₅, K₅⟩ := my_ground K F rfl hB W₅.1 uu
  have X₅ := XB.keeps K₅.stays
  have P₅ : TopRead hd.view_39 LO mg mb g₅ := topRead_of (TB.keeps K₅.stays)
  obtain ⟨oe, vs, _, _, _, hoe, hoec, _, hoed, _⟩ := W₅.2.2.2
  have hC₅ := F₅.keep _ _ (bad_at X₅)
  refine wpAny_handleBy_cons (codeAny_handlers_test (nameX_K F₅ X₅ P₅ ex ?_ hk hx hdb)) (by intro q; cases q)
  refine wpAny_excMatches_sub_self hC₅ hoe hoec (by decide) (codeAny_handlers_suite ?_)
  refine fly_land W₅ fun h₆ W₆ u₆ => ?_
  obtain ⟨g₆, T₆, F₆, K₆⟩ := my_ground K F rfl hB W₆.1 (uu.trans u₆)
  have N₆ : News g₆ L h₆ news := fun q hq => by
    have hb : B.get? q.1 = some q.2 := hB _ _ (N q hq).1 fun hm => by
      rcases mem_frs (env := envX name scope L a cd cl) rfl hm with z | z
      · exact (N q hq).2.1 z
      · obtain ⟨_, o', ho', _⟩ := K.frames.mem z
        rw [(N q hq).2.2] at ho'; cases ho'
    exact ⟨W₆.1 _ _ hb, (N q hq).2.1, T₆.none_ _ (N q hq).2.2⟩
  exact wpAny_passesOwnAt hE (k h₆ g₆ T₆ F₆ N₆ K₆ (XB.keeps K₆.stays) (TB.keeps K₆.stays))
theorem caughtB (W : Flew G (envX name scope L a cd cl :: l) e s'.heap) (F : Fr g L G m) (N : News g L G news) (K : Below A₀ base l g) (XB : (hd.heap_39 w.params).In base) (TB : Top hd.view_39 LO mean mg mb base)
    (ex : nsIn (hd.heap_39 w.params) mainGlobals x = some (some (.ref 45)))
    (k : ∀ h' g' tk oe vs dx od v, KtsTurn (frs l) g g' → Fr g' L h' (fun y => if y = n then some (.ref e) else m y) → News g' L h' ((e, oe) :: (dx, od) :: news) → Below A₀ base l g' → (hd.heap_39 w.params).In g' → Top hd.view_39 LO mean mg mb g' →
      oe.cls = .ref 45 → oe.dict = some dx → oe.data = .fields vs → (∀ h : Heap, h.get? dx = some od → h.Ns dx (fun y => if y = Str.ofString "told" then some (.ref v) else none)) →
      wpAny (model PR w) ((A₀.deeper (envX name scope L a cd cl)).mark (some (.ref e))) (execs (b₀ :: suite) (envX name scope L a cd cl))
        (fun f s₄ => wpAny (model PR w) (A₀.deeper (envX name scope L a cd cl)) (do bindName (envX name scope L a cd cl) n .none; unbindBehindTheSuite (envX name scope L a cd cl) n pos) (fun _ s₅ => Q f s₅) E s₄)
        (AsSuiteRaised (model PR w) ((A₀.deeper (envX name scope L a cd cl)).mark (some (.ref e))) (envX name scope L a cd cl) n pos (notedBy (model PR w) ((A₀.deeper (envX name scope L a cd cl)).mark (some (.ref e))) (envX name scope L a cd cl) (cameBackBy (model PR w) (A₀.deeper (envX name scope L a cd cl)) (envX name scope L a cd cl) E)))
        { s' with heap := h', toks := tk })
    (hk : scope.kind = .function := by rfl) (hlo : (envX name scope L a cd cl).kindOf n = some .local := by rfl) (hx : (envX name scope L a cd cl).kindOf x = some .globalImplicit := by rfl) (hdb : (x == ("__debug__" : Str)) = false := by decide) :
    wpAny (model PR w) (A₀.deeper (envX name scope L a cd cl)) (noteFrame (.ref e) (envX name scope L a cd cl))
      (fun _ s₂ => wpAny (model PR w) (A₀.deeper (envX name scope L a cd cl)) (setFlight (.ref e) none) (fun _ s₃ =>
        wpAny (model PR w) (A₀.deeper (envX name scope L a cd cl)) (handleBy (.ref e) (envX name scope L a cd cl) (.ExceptHandler (some (.Name x np)) (some n) (b₀ :: suite) pos :: rest)) Q E s₃) E s₂) E s' := by
  obtain ⟨B, dx, v, hB, W, hns, u, hdn⟩ := W
  have hL : B.get? L = none := by
    obtain ⟨_, ⟨L', _, hf, hn', _⟩, _⟩ := W.2.2.1
    obtain rfl : L = L' := Option.some.inj hf
    exact hn'
  refine fly_note_on (Around.frames_deeper K.stack) rfl W fun h₄ W₄ u₄ => ?_
  refine fly_land W₄ fun h₅ W₅ u₅ => ?_
  have uu := (u.trans u₄).trans u₅
  obtain ⟨g₅, T₅, F₅, K₅⟩ := my_ground K F rfl hB W₅.1 uu
  have X₅ := XB.keeps K₅.stays
  have P₅ : TopRead hd.view_39 LO mg mb g₅ := topRead_of (TB.keeps K₅.stays)
  obtain ⟨oe, vs, _, _, _, hoe, hoec, _, hoed, _⟩ := W₅.2.2.2
  have hC₅ := F₅.keep _ _ (bad_at X₅)
  refine wpAny_handleBy_cons (codeAny_handlers_test (nameX_K F₅ X₅ P₅ ex ?_ hk hx hdb)) (by intro q; cases q)
  refine wpAny_excMatches_sub_self hC₅ hoe hoec (by decide) (codeAny_handlers_suite_as ?_)
  refine fly_land W₅ fun h₆ W₆ u₆ => ?_
  obtain ⟨g₆, T₆, F₆, K₆⟩ := my_ground K F rfl hB W₆.1 (uu.trans u₆)
  have N₆ : News g₆ L h₆ news := fun q hq => by
    have hb : B.get? q.1 = some q.2 := hB _ _ (N q hq).1 fun hm => by
      rcases mem_frs (env := envX name scope L a cd cl) rfl hm with z | z
      · exact (N q hq).2.1 z
      · obtain ⟨_, o', ho', _⟩ := K.frames.mem z
        rw [(N q hq).2.2] at ho'; cases ho'
    exact ⟨W₆.1 _ _ hb, (N q hq).2.1, T₆.none_ _ (N q hq).2.2⟩
  obtain ⟨oe₆, vs₆, _, _, _, hoe₆, hoec₆, hoed₆, hoef₆, _⟩ := W₆.2.2.2
  obtain ⟨od, es, ep, hod, hdd, hky, hfi⟩ := hns
  have ne₆ : g₆.get? e = none := T₆.none_ _ (by
    cases q : g.get? e with
    | none => rfl
    | some o =>
      by_cases hm : e ∈ frs l
      · obtain ⟨_, o', ho', hnf⟩ := K.frames.mem hm
        rw [q] at ho'; cases ho'
        obtain ⟨sl, hs⟩ := (uu.trans u₆) _ _ (F.keep _ _ q) hnf
        rw [hoe₆] at hs; cases hs
        exact (hnf _ hoef₆).elim
      · have := hB _ _ (F.keep _ _ q) fun hm' => by
          rcases mem_frs (env := envX name scope L a cd cl) rfl hm' with z | z
          · rw [z, kts_self F] at q; cases q
          · exact hm z
        rw [W₆.2.1] at this; cases this)
  have nd₆ : g₆.get? dx = none := T₆.none_ _ (kts_none F.keep hdn)
  have nL : ∀ b, G.get? b = none → b ≠ L := fun b hb q => by
    obtain ⟨oL, _, _, hL', _⟩ := F.ns
    rw [← q, hb] at hL'; cases hL'
  have neL : e ≠ L := fun q => by
    obtain ⟨oL, es', ep', hL', hd', _⟩ := F₆.ns
    rw [q] at hoe₆
    rw [hoe₆] at hL'; cases hL'
    rw [hoef₆] at hd'; cases hd'
  have NN : News g₆ L h₆ ((e, oe₆) :: (dx, od) :: news) := fun q hq => by
    rcases List.mem_cons.mp hq with rfl | hq
    · exact ⟨hoe₆, neL, ne₆⟩
    rcases List.mem_cons.mp hq with rfl | hq
    · exact ⟨W₆.1 _ _ hod, nL _ hdn, nd₆⟩
    · exact N₆ q hq
  refine storeX_L F₆ NN (fun h₇ F₇ N₇ => ?_) hk hlo
  exact k h₇ g₆ _ _ _ dx od v T₆ F₇ N₇ K₆ (XB.keeps K₆.stays) (TB.keeps K₆.stays) hoec₆ hoed₆ hoef₆ fun h hh => ⟨od, es, ep, hh, hdd, hky, hfi⟩
end
end
local macro_rules | `(tactic| walk_at "exec Raise some none") => `(tactic| (k_here; refine bad_raise rfl ?_))
local macro_rules | `(tactic| walk_at "call ref") => `(tactic| (k_here; (with_reducible show wpAny _ _ (call (Value.ref 45) _) _ _ _); k_dflt (refine' mk_bad ?kS ?_; (case kS => walk_at "M_SITE")); k_whole; intro h9 e9 t9 dx9 tk9 st9 he9 hen9 hdn9 hne9 hns9; refine halt ?_))
section
local macro_rules | `(tactic| walk_at "-") => `(tactic| skip)
local macro_rules | `(tactic| walk_at "call ref") => `(tactic| first | walk_at "H8" | walk_at "H7" | walk_at "H6" | walk_at "H5" | walk_at "H4" | walk_at "H3" | walk_at "H2" | walk_at "H1" | walk_at "H0")
abbrev SpecX (w : World) (n : Nat) (f : Addr) (own : Led) (vs : List Value) (pre : Heap → Prop) (post : Heap → Value → Heap → Prop) (bad : Prop) : Prop :=
  ∀ (mean : ExcName → Option Value) (mg mb : Str → Option Value) (dp un : Nat) (gd : Option (List Code)) (cn : Str) (cs : Scope) (a : Addr) (ccd : Value) (cl : List (Str × Addr)) (outer : List Env) (A₀ : Around) (base h₀ : Heap) (L : Addr) (m : Str → Option Value) (s : Shared) (Q E : Value → Shared → Prop),
    Site n w mean mg mb dp un cs A₀ base h₀ outer L m s → News h₀ L s.heap own → pre s.heap →
    (∀ v h' tk', s.heap.StaysIn h' → post s.heap v h' → Q v { s with heap := h', toks := tk' }) →
    (∀ e h' tk', bad → Flew s.heap (envX cn cs L a ccd cl :: outer) e h' → E (.ref e) { s with heap := h', toks := tk' }) →
    wpAny (model PR w) (ktrTop dp un gd cn cs L a ccd cl outer) (call (.ref f) vs) Q E s
section
variable {n : Nat} {w : World} {mean : ExcName → Option Value} {mg mb : Str → Option Value} {dp un : Nat} {gd : Option (List Code)} {cn : Str} {cs : Scope} {a : Addr} {ccd : Value} {cl : List (Str × Addr)} {outer : List Env} {A₀ : Around} {base h₀ : Heap} {L : Addr} {m : Str → Option Value} {s : Shared} {Q E : Value → Shared → Prop} {own : Led}
theorem useX {f : Addr} {vs : List Value} {pre : Heap → Prop} {post : Heap → Value → Heap → Prop} {bad : Prop} {news : Led} (C : SpecX w n f own vs pre post bad) (S : Site n w mean mg mb dp un cs A₀ base h₀ outer L m s)
    (N : News h₀ L s.heap news) (ho : ∀ p ∈ own, p ∈ news) (hp : pre s.heap)
    (h : ∀ v h' tk', post s.heap v h' → s.heap.StaysIn h' → Fr h₀ L h' m → News h₀ L h' news → Q v { s with heap := h', toks := tk' })
    (hx : ∀ e h' tk', bad → Flew s.heap (envX cn cs L a ccd cl :: outer) e h' → E (.ref e) { s with heap := h', toks := tk' }) :
    wpAny (model PR w) (ktrTop dp un gd cn cs L a ccd cl outer) (call (.ref f) vs) Q E s :=
  C mean mg mb dp un gd cn cs a ccd cl outer A₀ base h₀ L m s Q E S (fun p hp => N p (ho p hp)) hp (fun v h' tk' st q => h v h' tk' q st (fr_stays S.F st) (news_stays N st)) hx
abbrev tup2 (x y : Value) : Obj := { cls := .type "tuple", data := .seq #[x, y] }
theorem useX2i {f : Addr} {vs : List Value} {pre : Heap → Prop} {bad : Prop} {news : Led} {P : Int → Int → Prop} (C : SpecX w n f own vs pre (fun h r h' => ∃ l x y, r = .ref l ∧ h'.get? l = some (tup2 x y) ∧ h.get? l = none ∧ ∃ t1 t2 v a, x = .int v t1 ∧ y = .int a t2 ∧ P v a) bad) (S : Site n w mean mg mb dp un cs A₀ base h₀ outer L m s)
    (N : News h₀ L s.heap news) (ho : ∀ p ∈ own, p ∈ news) (hp : pre s.heap)
    (h : ∀ l t1 t2 v a h' tk', P v a → Fr h₀ L h' m → News h₀ L h' ((l, tup2 (.int v t1) (.int a t2)) :: news) → (∀ p ∈ news, p.1 ≠ l) → Q (.ref l) { s with heap := h', toks := tk' })
    (hx : ∀ e h' tk', bad → Flew s.heap (envX cn cs L a ccd cl :: outer) e h' → E (.ref e) { s with heap := h', toks := tk' }) :
    wpAny (model PR w) (ktrTop dp un gd cn cs L a ccd cl outer) (call (.ref f) vs) Q E s :=
  useX C S N ho hp (fun v h' tk' q st F' N' => by
    obtain ⟨l, x, y, rfl, e1, en, t1, t2, v, a, rfl, rfl, ee⟩ := q
    obtain ⟨N2, hne⟩ := news_add S.F N st e1 en
    exact h l t1 t2 v a h' tk' ee F' N2 hne) hx
theorem use2b {f : Addr} {vs : List Value} {pre : Heap → Prop} {news : Led} {k : Int} {P : Array UInt8 → Prop} (C : Spec w n f own vs pre (fun h r h' => ∃ l x y, r = .ref l ∧ h'.get? l = some (tup2 x y) ∧ h.get? l = none ∧ ∃ B t1 t2, x = .bytes B t1 ∧ y = .int k t2 ∧ P B)) (S : Site n w mean mg mb dp un cs A₀ base h₀ outer L m s)
    (N : News h₀ L s.heap news) (ho : ∀ p ∈ own, p ∈ news) (hp : pre s.heap)
    (h : ∀ l B t1 t2 h' tk', P B → Fr h₀ L h' m → News h₀ L h' ((l, tup2 (.bytes B t1) (.int k t2)) :: news) → (∀ p ∈ news, p.1 ≠ l) → Q (.ref l) { s with heap := h', toks := tk' }) :
    wpAny (model PR w) (ktrTop dp un gd cn cs L a ccd cl outer) (call (.ref f) vs) Q E s :=
  use C S N ho hp fun v h' tk' q st F' N' => by
    obtain ⟨l, x, y, rfl, e1, en, B, t1, t2, rfl, rfl, ee⟩ := q
    obtain ⟨N2, hne⟩ := news_add S.F N st e1 en
    exact h l B t1 t2 h' tk' ee F' N2 hne
theorem useN {f : Addr} {vs : List Value} {pre : Heap → Prop} {news : Led} (C : Spec w n f own vs pre (fun h v h' => ∃ x dx k1 k2 k3 k4 k5 k6 k7, v = .ref x ∧ h'.get? x = some (instObj 100 dx) ∧ h'.get? dx = some (numD w k1 k2 k3 k4 k5 k6 k7) ∧ h.get? x = none ∧ h.get? dx = none ∧ dx ≠ x)) (S : Site n w mean mg mb dp un cs A₀ base h₀ outer L m s)
    (N : News h₀ L s.heap news) (ho : ∀ p ∈ own, p ∈ news) (hp : pre s.heap)
    (h : ∀ x dx k1 k2 k3 k4 k5 k6 k7 h' tk', Fr h₀ L h' m → News h₀ L h' ((x, instObj 100 dx) :: (dx, numD w k1 k2 k3 k4 k5 k6 k7) :: news) → (∀ p ∈ news, p.1 ≠ x) → (∀ p ∈ news, p.1 ≠ dx) → @Ne Nat dx x → Q (.ref x) { s with heap := h', toks := tk' }) :
    wpAny (model PR w) (ktrTop dp un gd cn cs L a ccd cl outer) (call (.ref f) vs) Q E s :=
  use C S N ho hp fun v h' tk' q st F' N' => by
    obtain ⟨x, dx, k1, k2, k3, k4, k5, k6, k7, rfl, e1, e2, n1, n2, ne⟩ := q
    obtain ⟨N2, hne2⟩ := news_add S.F N st e2 n2
    obtain ⟨N1, hne1⟩ := news_add S.F N st e1 n1
    refine h x dx k1 k2 k3 k4 k5 k6 k7 h' tk' F' (fun p hp => ?_) hne1 hne2 ne
    rcases List.mem_cons.mp hp with rfl | hp
    · exact N1 _ (.head _)
    · exact N2 _ hp
theorem useM {f : Addr} {vs : List Value} {pre : Heap → Prop} {news : Led} {P : Int → Prop} (C : Spec w n f own vs pre (fun _ r _ => ∃ m t, r = .int m t ∧ P m)) (S : Site n w mean mg mb dp un cs A₀ base h₀ outer L m s)
    (N : News h₀ L s.heap news) (ho : ∀ p ∈ own, p ∈ news) (hp : pre s.heap)
    (h : ∀ k t h' tk', P k → Fr h₀ L h' m → News h₀ L h' news → Q (.int k t) { s with heap := h', toks := tk' }) :
    wpAny (model PR w) (ktrTop dp un gd cn cs L a ccd cl outer) (call (.ref f) vs) Q E s :=
  use C S N ho hp fun v h' tk' q st F' N' => by
    obtain ⟨k, t, rfl, ee⟩ := q
    exact h k t h' tk' ee F' N'
end
theorem c_check (w : World) (l : Addr) (vs : List Value) (ns : List Int) : SpecX w 8 148 [] [.ref l] (fun h => h.IsList l vs.toArray ∧ IntsAre vs ns) (fun _ v _ => v = .none ∧ ∀ i ∈ ns, isScalar i = true) (¬ ∀ i ∈ ns, isScalar i = true) := by
  w_top off
  intro mean mg mb dp un gd cn cs a ccd cl outer A₀ base h₀ L m s Q E S N hpre hret hexc
  have hd9 := S.d
  have hu9 := S.u
  have XB1 := S.XB
  have TB1 := S.TB
  k_dflt (refine' enter S N ?k6 ?k7 ?k8 ?k9 ?kB ?_ ?c2 ?c3 ?c4 ?c5; (case k6 => k_is); (case k7 => k_is); (case k8 => ktr_room); (case k9 => (intro kX; first | exact BindsTo.of_eq rfl | exact binds_K kX rfl (by k_is) rfl rfl rfl)); (case c5 => decide); (case kB => exact locs rfl); (case c2 => exact rfl); (case c3 => exact rfl); (case c4 => exact rfl); k_whole)
  intro g L1 h1 F1 N1 B1 X1 T1 hin hup hlt hL1
  (try dsimp only)
  (try k_fold)
  have hl : g.IsList l vs.toArray := isList_up hup hpre.1 allNe_nil
  have hi := hpre.2
  k_steps
  refine Halt.go ?_
  rename Fr _ _ _ _ => kF; rename News _ _ _ _ => kN
  refine kst_list (σ := Unit) (fun _ => []) (fun _ => []) (fun _ => True) [] (fun pre _ => ∀ i ∈ pre, isScalar i = true) () rfl hl (by assumption) kF kN trivial (by simp) (by simp) ?_ ?_
  · clear kF kN
    intro c pre post i t u9 h9 tk9 own9 e9 hm9 hoff _ hP kF kN
    dsimp only [kstB] at kF kN
    (try k_fold)
    k_steps
    (refine Halt.go ?_; rename_i h9 e9 t9 dx9 tk9 st9 he9 hen9 hdn9 hne9 hns9; rename Fr _ _ _ _ => kF9; rename News _ _ _ _ => kN9; refine ⟨_, _, _, rfl, bad_at ((X1.keeps kF9.keep).keeps st9), he9, ?_⟩; (iterate 3 ((try k_unfold); (try dsimp only))); refine flew_first B1 kF9 rfl rfl st9 (stays_of N hup kF9.keep (fun p hp => (kN9 p (by first | exact hp | exact absurd hp (List.not_mem_nil) | exact .tail _ hp | exact .tail _ (.tail _ hp) | exact .tail _ (.tail _ (.tail _ hp)) | exact .tail _ (.tail _ (.tail _ (.tail _ hp))) | exact .tail _ (.tail _ (.tail _ (.tail _ (.tail _ hp)))) | exact .tail _ (.tail _ (.tail _ (.tail _ (.tail _ (.tail _ hp))))) | exact .tail _ (.tail _ (.tail _ (.tail _ (.tail _ (.tail _ (.tail _ hp)))))))).1)) hL1 he9 hen9 hdn9 hne9 hns9 fun h' W => hexc _ _ _ ?_ W)
    intro hall
    have := hall i hm9
    simp_all
  · clear kF kN
    intro c u9 h9 tk9 _ hP kF kN
    dsimp only [kstB] at kF kN
    (try k_fold)
    k_steps
    (rename Fr _ _ _ _ => kF9; rename News _ _ _ _ => kN9; (iterate 4 ((try dsimp only [KswPost, InvPostN, InvPost]); (try k_unfold))); (try dsimp only); refine hret _ _ _ (stays_of N hup kF9.keep (fun p hp => (kN9 p (by first | exact hp | exact absurd hp (List.not_mem_nil) | exact .tail _ hp | exact .tail _ (.tail _ hp) | exact .tail _ (.tail _ (.tail _ hp)) | exact .tail _ (.tail _ (.tail _ (.tail _ hp))) | exact .tail _ (.tail _ (.tail _ (.tail _ (.tail _ hp)))) | exact .tail _ (.tail _ (.tail _ (.tail _ (.tail _ (.tail _ hp))))) | exact .tail _ (.tail _ (.tail _ (.tail _ (.tail _ (.tail _ (.tail _ hp)))))))).1)) ?_; (try dsimp only); (try simp only [List.push_toArray] at kN9))
    exact ⟨rfl, hP⟩
end
section
local macro_rules | `(tactic| walk_at "-") => `(tactic| skip)
local macro_rules | `(tactic| walk_at "-") => `(tactic| skip)
local macro_rules | `(tactic| walk_at "-") => `(tactic| skip)
theorem c_numbers (w : World) : Spec w 4 100 [] [] (fun _ => True) (fun h v h' => ∃ x dx k1 k2 k3 k4 k5 k6 k7, v = .ref x ∧ h'.get? x = some (instObj 100 dx) ∧ h'.get? dx = some (numD w k1 k2 k3 k4 k5 k6 k7) ∧ h.get? x = none ∧ h.get? dx = none ∧ dx ≠ x) := by
  w_top off
  intro mean mg mb dp un gd cn cs a ccd cl outer A₀ base h₀ L m s Q E S N hpre hret
  obtain ⟨hh, gg, dr, tt, os⟩ := s
  have hd9 := S.d
  have hu9 := S.u
  have hm : makesIn (hd.heap_39 w.params) 100 = true := by k_dflt k_is
  have hi : findIn (hd.heap_39 w.params) (.ref 100) "__init__" = some (some (.ref 83)) := by k_dflt k_is
  have hf : typeIn (hd.heap_39 w.params) (.ref 83) = some (.type "function") := by k_dflt k_is
  refine wpAny_call (make_core (makes_of (S.X.keeps S.F.keep) hm) (looks_findIn (S.X.keeps S.F.keep) hi) (fun self => bind_fn (S.X.keeps S.F.keep) self hf) (.inl rfl) ?_)
  have F2 := (S.F.push emptyDict).push (instObj 100 hh.objs.size)
  have N2 := ((News.nil (h₀ := h₀) (L := L)).push S.F emptyDict).push (S.F.push _) (instObj 100 hh.objs.size)
  rw [Heap.size_push] at N2
  have S2 : Site 2 w mean mg mb (dp + 1) (un + 1) cs A₀ base h₀ outer L m ⟨(hh.push emptyDict).push (instObj 100 hh.objs.size), gg, dr, tt, os⟩ := ⟨S.B, F2, S.X, S.T, S.k, by omega, by omega, S.XB, S.TB⟩
  have hd8 : dp + 1 + 2 < recursionLimit := by omega
  show codeAny (model PR w) (ktrTop (dp + 1) (un + 1) _ cn cs L a ccd cl outer) _ _ _
  k_dflt (refine' enterX S2 N2 ?k6 ?k7 ?k8 ?k9 ?kB ?_ ?c2 ?c3 ?c4 ?c5; (case k6 => k_is); (case k7 => k_is); (case k8 => ktr_room); (case k9 => (intro kX; first | exact BindsTo.of_eq rfl | exact binds_K kX rfl (by k_is) rfl rfl rfl)); (case c5 => decide); (case kB => exact locs rfl); (case c2 => exact rfl); (case c3 => exact rfl); (case c4 => exact rfl); k_whole)
  intro g L1 h1 F1 N1 B1 X1 T1 hin hup hlt hL1
  have hfx : hh.get? (hh.objs.size + 1) = none := Heap.get?_none_of_le (Nat.le_succ _)
  have hfd : hh.get? hh.objs.size = none := Heap.get?_none_of_le (Nat.le_refl _)
  have hst : hh.StaysIn g := fun b o e => hup b o (Heap.get?_push_of_some _ (Heap.get?_push_of_some _ e)) fun p hp q => by
    rcases List.mem_cons.mp hp with rfl | hp
    · rw [← q, hfx] at e; cases e
    · rcases List.mem_cons.mp hp with rfl | hp
      · rw [← q, hfd] at e; cases e
      · cases hp
  clear hup hin hlt hL1 N2 F2 S2
  have hne9 : @Ne Nat (hh.objs.size + 1) hh.objs.size := by omega
  generalize hh.objs.size + 1 = x at *
  generalize hh.objs.size = dx at *
  (try dsimp only)
  (try k_fold)
  k_steps
  rename Fr _ _ _ _ => kF9; rename News _ _ _ _ => kN9
  refine ⟨rfl, ?_⟩
  dsimp only
  exact hret _ _ _ (fun b o e => kF9.keep _ _ (hst b o e)) ⟨x, dx, _, _, _, _, _, _, _, rfl, (kN9 _ (.head _)).1, (kN9 _ (.tail _ (.head _))).1, hfx, hfd, fun q => hne9 q.symm⟩
end
section
local macro_rules | `(tactic| walk_at "-") => `(tactic| skip)
local macro_rules | `(tactic| walk_at "-") => `(tactic| skip)
local macro_rules | `(tactic| walk_at "-") => `(tactic| skip)
local macro_rules | `(tactic| walk_at "call ref") => `(tactic| first | walk_at "H8" | walk_at "H7" | walk_at "H6" | walk_at "H5" | walk_at "H4" | walk_at "H3" | walk_at "H2" | walk_at "H1" | walk_at "H0")
theorem c_number_at (w : World) (x dx : Addr) (k1 k2 k3 k4 k5 k6 k7 : Tok) (b : Array UInt8) (os : List Int) (at0 bias : Int) (t u r : Tok) : SpecX w 8 134 (numsL w x dx k1 k2 k3 k4 k5 k6 k7) [.bytes b t, .int at0 u, .int bias r, .ref x] (fun h => 0 ≤ at0 ∧ KBw.bInts b = os ∧ os.length ≤ 2 ^ 20)
    (fun h r h' => ∃ l x y, r = .ref l ∧ h'.get? l = some (tup2 x y) ∧ h.get? l = none ∧ ∃ t1 t2 v a, x = .int v t1 ∧ y = .int a t2 ∧ numAtT os bias at0 = some (v, a) ∧ at0 < a ∧ a ≤ os.length ∧ 0 ≤ v) (numAtT os bias at0 = none) := by
  w_top off
  intro mean mg mb dp un gd cn cs a ccd cl outer A₀ base h₀ L m s Q E S N hpre hret hexc
  have hd9 := S.d
  have hu9 := S.u
  have XB1 := S.XB
  have TB1 := S.TB
  k_dflt (refine' enter S N ?k6 ?k7 ?k8 ?k9 ?kB ?_ ?c2 ?c3 ?c4 ?c5; (case k6 => k_is); (case k7 => k_is); (case k8 => ktr_room); (case k9 => (intro kX; first | exact BindsTo.of_eq rfl | exact binds_K kX rfl (by k_is) rfl rfl rfl)); (case c5 => decide); (case kB => exact locs rfl); (case c2 => exact rfl); (case c3 => exact rfl); (case c4 => exact rfl); k_whole)
  intro g L1 h1 F1 N1 B1 X1 T1 hin hup hlt hL1
  (try dsimp only)
  (try k_fold)
  have h0 := hpre.1
  have hb := hpre.2.1
  have hb2 := hpre.2.2
  obtain ⟨W, hW⟩ : ∃ W : Int → Int → Int → Int → Prop, ∀ a b c d, W a b c d ↔ NaW os bias (numAtT os bias at0) a b c d := ⟨_, fun _ _ _ _ => Iff.rfl⟩
  k_steps
  refine Halt.go ?_
  rename Fr _ _ _ _ => kF; rename News _ _ _ _ => kN
  refine ksw_while (σ := Int × Tok × Int × Tok × Int × Tok × Int × Tok) (fun _ => (numsL w x dx k1 k2 k3 k4 k5 k6 k7)) (fun c => [(Str.ofString "at", .int c.1 c.2.1), (Str.ofString "value", .int c.2.2.1 c.2.2.2.1), (Str.ofString "weight", .int c.2.2.2.2.1 c.2.2.2.2.2.1), (Str.ofString "place", .int c.2.2.2.2.2.2.1 c.2.2.2.2.2.2.2)]) (fun _ => True) [Str.ofString "figure", Str.ofString "least"]
      (fun c => 0 ≤ c.1 ∧ W c.1 c.2.2.1 c.2.2.2.2.1 c.2.2.2.2.2.2.1) (fun c => os.length - c.1.toNat) (_, _, _, _, _, _, _, _) kF (kst_newsOf kN (by kst_in)) trivial (by kst_all) ?_ ?_
  · exact ⟨h0, (hW _ _ _ _).mpr (NaW.start os bias at0)⟩
  clear kF kN
  rintro ⟨a1, a2, v1, v2, w1, w2, p1, p2⟩ u9 h9 tk9 _ ⟨hP, hQ⟩ kF kN
  dsimp only [kstB] at hP hQ kF kN
  have hl1 := thr_lo p1 bias
  have hl2 := thr_hi p1 bias
  (try k_fold)
  k_steps
  · (refine Halt.go ?_; rename_i h9 e9 t9 dx9 tk9 st9 he9 hen9 hdn9 hne9 hns9; rename Fr _ _ _ _ => kF9; rename News _ _ _ _ => kN9; refine ⟨_, _, _, rfl, bad_at ((X1.keeps kF9.keep).keeps st9), he9, ?_⟩; (iterate 3 ((try k_unfold); (try dsimp only))); refine flew_first B1 kF9 rfl rfl st9 (stays_of N hup kF9.keep (fun p hp => (kN9 p (by first | exact hp | exact absurd hp (List.not_mem_nil) | exact .tail _ hp | exact .tail _ (.tail _ hp) | exact .tail _ (.tail _ (.tail _ hp)) | exact .tail _ (.tail _ (.tail _ (.tail _ hp))) | exact .tail _ (.tail _ (.tail _ (.tail _ (.tail _ hp)))) | exact .tail _ (.tail _ (.tail _ (.tail _ (.tail _ (.tail _ hp))))) | exact .tail _ (.tail _ (.tail _ (.tail _ (.tail _ (.tail _ (.tail _ hp)))))))).1)) hL1 he9 hen9 hdn9 hne9 hns9 fun h' W => hexc _ _ _ ?_ W)
    exact ((hW _ _ _ _).mp hQ).short (by assumption)
  · (refine Halt.go ?_; rename_i h9 e9 t9 dx9 tk9 st9 he9 hen9 hdn9 hne9 hns9; rename Fr _ _ _ _ => kF9; rename News _ _ _ _ => kN9; refine ⟨_, _, _, rfl, bad_at ((X1.keeps kF9.keep).keeps st9), he9, ?_⟩; (iterate 3 ((try k_unfold); (try dsimp only))); refine flew_first B1 kF9 rfl rfl st9 (stays_of N hup kF9.keep (fun p hp => (kN9 p (by first | exact hp | exact absurd hp (List.not_mem_nil) | exact .tail _ hp | exact .tail _ (.tail _ hp) | exact .tail _ (.tail _ (.tail _ hp)) | exact .tail _ (.tail _ (.tail _ (.tail _ hp))) | exact .tail _ (.tail _ (.tail _ (.tail _ (.tail _ hp)))) | exact .tail _ (.tail _ (.tail _ (.tail _ (.tail _ (.tail _ hp))))) | exact .tail _ (.tail _ (.tail _ (.tail _ (.tail _ (.tail _ (.tail _ hp)))))))).1)) hL1 he9 hen9 hdn9 hne9 hns9 fun h' W => hexc _ _ _ ?_ W)
    have q := ((hW _ _ _ _).mp hQ).step (by assumption) hP
    rw [‹valOf _ = some _›] at q
    dsimp only at q
    rwa [if_pos (by assumption)] at q
  · have rng := valOf_rng (by assumption)
    k_steps
    all_goals (have q := ((hW _ _ _ _).mp hQ).step (by assumption) hP; rw [‹valOf _ = some _›] at q; dsimp only at q; rw [if_neg (by assumption)] at q)
    · (rename Fr _ _ _ _ => kF9; rename News _ _ _ _ => kN9; (iterate 4 ((try dsimp only [KswPost, InvPostN, InvPost]); (try k_unfold))); (try dsimp only); refine hret _ _ _ (stays_of N hup kF9.keep (fun p hp => (kN9 p (by first | exact hp | exact absurd hp (List.not_mem_nil) | exact .tail _ hp | exact .tail _ (.tail _ hp) | exact .tail _ (.tail _ (.tail _ hp)) | exact .tail _ (.tail _ (.tail _ (.tail _ hp))) | exact .tail _ (.tail _ (.tail _ (.tail _ (.tail _ hp)))) | exact .tail _ (.tail _ (.tail _ (.tail _ (.tail _ (.tail _ hp))))) | exact .tail _ (.tail _ (.tail _ (.tail _ (.tail _ (.tail _ (.tail _ hp)))))))).1)) ?_; (try dsimp only); (try simp only [List.push_toArray] at kN9))
      refine ⟨_, _, _, rfl, (kN9 _ (.head _)).1, fresh_of hup kN9 (.head _) (by (intro q9 hq9; (first | (simp only [List.mem_cons, List.not_mem_nil, or_false] at hq9; (rcases hq9 with rfl | rfl | rfl | rfl | rfl | rfl) <;> (refine neN ?_; dsimp only; omega)) | exact absurd hq9 (List.not_mem_nil) | ((simp only [List.mem_cons, List.not_mem_nil, or_false] at hq9; (rcases hq9 with rfl | rfl) <;> (refine neN ?_; dsimp only; omega)))))), _, _, _, _, rfl, rfl, ?_⟩
      rw [if_pos (by assumption)] at q
      exact ⟨q, numAtT_ok q h0⟩
    · refine Halt.go ?_; rename Fr _ _ _ _ => kF9; rename News _ _ _ _ => kN9; (try simp only [List.push_toArray] at kN9)
      rw [if_neg (by assumption)] at q
      exact ksw_end ⟨_, _, _, _, _, _, _, _⟩ kF9 kN9 (by kst_in) trivial (by kst_all) (by (intro z h2 h3; (try simp only [List.forall_mem_cons, List.not_mem_nil, false_implies, implies_true, and_true, ne_eq] at h2); (try simp only [List.contains_cons, List.contains_nil, Bool.or_false, Bool.or_eq_false_iff, beq_eq_false_iff_ne, ne_eq] at h3); (simp [h2, h3, kstB]))) ⟨by omega, (hW _ _ _ _).mpr q⟩ (by dsimp only; omega)
  · (refine Halt.go ?_; rename_i h9 e9 t9 dx9 tk9 st9 he9 hen9 hdn9 hne9 hns9; rename Fr _ _ _ _ => kF9; rename News _ _ _ _ => kN9; refine ⟨_, _, _, rfl, bad_at ((X1.keeps kF9.keep).keeps st9), he9, ?_⟩; (iterate 3 ((try k_unfold); (try dsimp only))); refine flew_first B1 kF9 rfl rfl st9 (stays_of N hup kF9.keep (fun p hp => (kN9 p (by first | exact hp | exact absurd hp (List.not_mem_nil) | exact .tail _ hp | exact .tail _ (.tail _ hp) | exact .tail _ (.tail _ (.tail _ hp)) | exact .tail _ (.tail _ (.tail _ (.tail _ hp))) | exact .tail _ (.tail _ (.tail _ (.tail _ (.tail _ hp)))) | exact .tail _ (.tail _ (.tail _ (.tail _ (.tail _ (.tail _ hp))))) | exact .tail _ (.tail _ (.tail _ (.tail _ (.tail _ (.tail _ (.tail _ hp)))))))).1)) hL1 he9 hen9 hdn9 hne9 hns9 fun h' W => hexc _ _ _ ?_ W)
    have q := ((hW _ _ _ _).mp hQ).step (by assumption) hP
    rwa [‹valOf _ = none›] at q
end
section
local macro_rules | `(tactic| walk_at "-") => `(tactic| skip)
local macro_rules | `(tactic| walk_at "-") => `(tactic| skip)
local macro_rules | `(tactic| walk_at "-") => `(tactic| skip)
local macro_rules | `(tactic| walk_at "-") => `(tactic| skip)
local macro_rules | `(tactic| walk_at "call ref") => `(tactic| first | walk_at "H8" | walk_at "H7" | walk_at "H6" | walk_at "H5" | walk_at "H4" | walk_at "H3" | walk_at "H2" | walk_at "H1" | walk_at "H0")
theorem c_split (w : World) (b : Array UInt8) (os : List Int) (t : Tok) : Spec w 2 175 [] [.bytes b t] (fun _ => KBw.bInts b = os ∧ os.length ≤ 2 ^ 20)
    (fun h r h' => ∃ l x y, r = .ref l ∧ h'.get? l = some (tup2 x y) ∧ h.get? l = none ∧ ∃ B t1 t2, x = .bytes B t1 ∧ y = .int (splN os) t2 ∧ KBw.bInts B = os.take (splA os)) := by
  w_top off
  intro mean mg mb dp un gd cn cs a ccd cl outer A₀ base h₀ L m s Q E S N hpre hret
  have hd9 := S.d
  have hu9 := S.u
  have XB1 := S.XB
  have TB1 := S.TB
  k_dflt (refine' enter S N ?k6 ?k7 ?k8 ?k9 ?kB ?_ ?c2 ?c3 ?c4 ?c5; (case k6 => k_is); (case k7 => k_is); (case k8 => ktr_room); (case k9 => (intro kX; first | exact BindsTo.of_eq rfl | exact binds_K kX rfl (by k_is) rfl rfl rfl)); (case c5 => decide); (case kB => exact locs rfl); (case c2 => exact rfl); (case c3 => exact rfl); (case c4 => exact rfl); k_whole)
  intro g L1 h1 F1 N1 B1 X1 T1 hin hup hlt hL1
  (try dsimp only)
  (try k_fold)
  have hb := hpre.1
  have hb2 := hpre.2
  obtain ⟨W, hW⟩ : ∃ W : Int → Prop, ∀ a, W a ↔ splAt os a.toNat = splA os := ⟨_, fun _ => Iff.rfl⟩
  k_steps
  refine Halt.go ?_
  rename Fr _ _ _ _ => kF; rename News _ _ _ _ => kN
  refine ksw_while (σ := Int × Tok) (fun _ => []) (fun c => [(Str.ofString "at", .int c.1 c.2)]) (fun _ => True) []
      (fun c => -1 ≤ c.1 ∧ c.1 < os.length ∧ W c.1) (fun c => c.1.toNat) (_, _) kF (kst_newsOf kN (by kst_in)) trivial (by kst_all) ?_ ?_
  · refine ⟨by dsimp only; omega, by dsimp only; omega, (hW _).mpr ?_⟩
    dsimp only
    unfold splA
    congr 1
    omega
  clear kF kN
  rintro ⟨a1, a2⟩ u9 h9 tk9 _ ⟨hP, hQ, hR⟩ kF kN
  dsimp only [kstB] at hP hQ hR kF kN
  (try k_fold)
  k_steps
  · refine Halt.go ?_; rename Fr _ _ _ _ => kF9; rename News _ _ _ _ => kN9; (try simp only [List.push_toArray] at kN9)
    refine ksw_end ⟨_, _⟩ kF9 kN9 (by kst_in) trivial (by kst_all) (by (intro z h2 h3; (try simp only [List.forall_mem_cons, List.not_mem_nil, false_implies, implies_true, and_true, ne_eq] at h2); (try simp only [List.contains_cons, List.contains_nil, Bool.or_false, Bool.or_eq_false_iff, beq_eq_false_iff_ne, ne_eq] at h3); (simp [h2, h3, kstB]))) ⟨by dsimp only; omega, by dsimp only; omega, (hW _).mpr ?_⟩ (by dsimp only; omega)
    dsimp only
    rw [← splAt_go (by assumption) (by assumption)]
    exact (hW _).mp hR
  · (rename Fr _ _ _ _ => kF9; rename News _ _ _ _ => kN9; (iterate 4 ((try dsimp only [KswPost, InvPostN, InvPost]); (try k_unfold))); (try dsimp only); refine hret _ _ _ (stays_of N hup kF9.keep (fun p hp => (kN9 p (by first | exact hp | exact absurd hp (List.not_mem_nil) | exact .tail _ hp | exact .tail _ (.tail _ hp) | exact .tail _ (.tail _ (.tail _ hp)) | exact .tail _ (.tail _ (.tail _ (.tail _ hp))) | exact .tail _ (.tail _ (.tail _ (.tail _ (.tail _ hp)))) | exact .tail _ (.tail _ (.tail _ (.tail _ (.tail _ (.tail _ hp))))) | exact .tail _ (.tail _ (.tail _ (.tail _ (.tail _ (.tail _ (.tail _ hp)))))))).1)) ?_; (try dsimp only); (try simp only [List.push_toArray] at kN9))
    have e := (hW _).mp hR
    rw [splAt_hit (by assumption) (by assumption)] at e
    have ec : clipAt os.length a1 = a1.toNat := by unfold clipAt; omega
    have es : splN os = a1 + 1 := by unfold splN; rw [← e, if_neg (by omega)]; omega
    rw [es]
    refine ⟨_, _, _, rfl, (kN9 _ (.head _)).1, fresh_of hup kN9 (.head _) (by (intro q9 hq9; (first | (simp only [List.mem_cons, List.not_mem_nil, or_false] at hq9; (rcases hq9 with rfl | rfl | rfl | rfl | rfl | rfl) <;> (refine neN ?_; dsimp only; omega)) | exact absurd hq9 (List.not_mem_nil) | ((simp only [List.mem_cons, List.not_mem_nil, or_false] at hq9; (rcases hq9 with rfl | rfl) <;> (refine neN ?_; dsimp only; omega)))))), _, _, _, rfl, rfl, ?_⟩
    rw [← e, ← ec]; assumption
  · (rename Fr _ _ _ _ => kF9; rename News _ _ _ _ => kN9; (iterate 4 ((try dsimp only [KswPost, InvPostN, InvPost]); (try k_unfold))); (try dsimp only); refine hret _ _ _ (stays_of N hup kF9.keep (fun p hp => (kN9 p (by first | exact hp | exact absurd hp (List.not_mem_nil) | exact .tail _ hp | exact .tail _ (.tail _ hp) | exact .tail _ (.tail _ (.tail _ hp)) | exact .tail _ (.tail _ (.tail _ (.tail _ hp))) | exact .tail _ (.tail _ (.tail _ (.tail _ (.tail _ hp)))) | exact .tail _ (.tail _ (.tail _ (.tail _ (.tail _ (.tail _ hp))))) | exact .tail _ (.tail _ (.tail _ (.tail _ (.tail _ (.tail _ (.tail _ hp)))))))).1)) ?_; (try dsimp only); (try simp only [List.push_toArray] at kN9))
    have e := (hW _).mp hR
    rw [show a1.toNat = 0 by omega, splAt] at e
    have es : splN os = 0 := by unfold splN; rw [← e]; rfl
    rw [es]
    refine ⟨_, _, _, rfl, (kN9 _ (.head _)).1, fresh_of hup kN9 (.head _) (by (intro q9 hq9; (first | (simp only [List.mem_cons, List.not_mem_nil, or_false] at hq9; (rcases hq9 with rfl | rfl | rfl | rfl | rfl | rfl) <;> (refine neN ?_; dsimp only; omega)) | exact absurd hq9 (List.not_mem_nil) | ((simp only [List.mem_cons, List.not_mem_nil, or_false] at hq9; (rcases hq9 with rfl | rfl) <;> (refine neN ?_; dsimp only; omega)))))), _, _, _, rfl, rfl, ?_⟩
    rw [← e]; rfl
end
section
local macro_rules | `(tactic| walk_at "-") => `(tactic| skip)
local macro_rules | `(tactic| walk_at "-") => `(tactic| skip)
local macro_rules | `(tactic| walk_at "-") => `(tactic| skip)
local macro_rules | `(tactic| walk_at "-") => `(tactic| skip)
local macro_rules | `(tactic| walk_at "-") => `(tactic| skip)
local macro_rules | `(tactic| walk_at "call ref") => `(tactic| first | walk_at "H8" | walk_at "H7" | walk_at "H6" | walk_at "H5" | walk_at "H4" | walk_at "H3" | walk_at "H2" | walk_at "H1" | walk_at "H0")
theorem c_least (w : World) (l : Addr) (vs : List Value) (ns : List Int) (i : Int) (t : Tok) : Spec w 4 153 [] [.ref l, .int i t] (fun h => h.IsList l vs.toArray ∧ IntsAre vs ns ∧ ns.length ≤ 2 ^ 12 ∧ ∃ j ∈ ns, i ≤ j) (fun _ v _ => ∃ m t, v = .int m t ∧ leastOf i ns = some m) := by
  w_top off
  intro mean mg mb dp un gd cn cs a ccd cl outer A₀ base h₀ L m s Q E S N hpre hret
  have hd9 := S.d
  have hu9 := S.u
  have XB1 := S.XB
  have TB1 := S.TB
  k_dflt (refine' enterC S N ?k6 ?k7 ?k8 ?k9 ?kB ?kD ?_ ?c2 ?c3 ?c4; (case k6 => k_is); (case k7 => k_is); (case k8 => ktr_room); (case k9 => (intro kX; first | exact BindsTo.of_eq rfl | exact binds_K kX rfl (by k_is) rfl rfl rfl)); (case kB => exact rfl); (case kD => decide +kernel); (case c2 => exact rfl); (case c3 => exact rfl); (case c4 => exact rfl); k_whole)
  intro g L1 h1 tk1 cells1 F1 N1 Y1 B1 X1 T1 hin hup hlt hL1
  (k_dflt (k_cells Y1))
  (try simp only [List.cons_append, List.nil_append] at N1)
  (try dsimp only)
  (try k_fold)
  have hl : g.IsList l vs.toArray := isList_up hup hpre.1 allNe_nil
  have hi := hpre.2.1
  have hlen := hpre.2.2.1
  have hne : 0 < (ns.filter (fun a => decide (i ≤ a))).length := by
    obtain ⟨j, hj, hij⟩ := hpre.2.2.2
    exact List.length_pos_of_mem (List.mem_filter.mpr ⟨hj, by simpa using hij⟩)
  k_steps
  all_goals (try k_data)
  have hiy := IntsAre.ofCarried (by assumption)
  k_steps
  all_goals (try k_data)
  all_goals (rename Fr _ _ _ _ => kF9; rename News _ _ _ _ => kN9; (iterate 4 ((try dsimp only [KswPost, InvPostN, InvPost]); (try k_unfold))); (try dsimp only); refine hret _ _ _ (stays_of N hup kF9.keep (fun p hp => (kN9 p (by first | exact hp | exact absurd hp (List.not_mem_nil) | exact .tail _ hp | exact .tail _ (.tail _ hp) | exact .tail _ (.tail _ (.tail _ hp)) | exact .tail _ (.tail _ (.tail _ (.tail _ hp))) | exact .tail _ (.tail _ (.tail _ (.tail _ (.tail _ hp)))) | exact .tail _ (.tail _ (.tail _ (.tail _ (.tail _ (.tail _ hp))))) | exact .tail _ (.tail _ (.tail _ (.tail _ (.tail _ (.tail _ (.tail _ hp)))))))).1)) ?_; (try dsimp only); (try simp only [List.push_toArray] at kN9))
  rename_i ha hb
  have hm := List.mem_filter.mp ha
  exact ⟨_, _, rfl, leastOf_is hm.1 (by simpa using hm.2) fun a h1 h2 => hb a (List.mem_filter.mpr ⟨h1, by simpa using h2⟩)⟩
end
section
local macro_rules | `(tactic| walk_at "-") => `(tactic| skip)
local macro_rules | `(tactic| walk_at "-") => `(tactic| skip)
local macro_rules | `(tactic| walk_at "-") => `(tactic| skip)
local macro_rules | `(tactic| walk_at "-") => `(tactic| skip)
local macro_rules | `(tactic| walk_at "-") => `(tactic| skip)
local macro_rules | `(tactic| walk_at "-") => `(tactic| skip)
local macro_rules | `(tactic| walk_at "call ref") => `(tactic| first | walk_at "H8" | walk_at "H7" | walk_at "H6" | walk_at "H5" | walk_at "H4" | walk_at "H3" | walk_at "H2" | walk_at "H1" | walk_at "H0")
theorem c_cased1 (w : World) (i : Int) (t : Tok) : Spec w 2 160 [] [.int i t, .none] (fun _ => True) (fun _ v _ => ∃ t, v = .int i t) := by
  w_top off
  intro mean mg mb dp un gd cn cs a ccd cl outer A₀ base h₀ L m s Q E S N hpre hret
  have hd9 := S.d
  have hu9 := S.u
  have XB1 := S.XB
  have TB1 := S.TB
  k_dflt (refine' enter S N ?k6 ?k7 ?k8 ?k9 ?kB ?_ ?c2 ?c3 ?c4 ?c5; (case k6 => k_is); (case k7 => k_is); (case k8 => ktr_room); (case k9 => (intro kX; first | exact BindsTo.of_eq rfl | exact binds_K kX rfl (by k_is) rfl rfl rfl)); (case c5 => decide); (case kB => exact locs rfl); (case c2 => exact rfl); (case c3 => exact rfl); (case c4 => exact rfl); k_whole)
  intro g L1 h1 F1 N1 B1 X1 T1 hin hup hlt hL1
  (try dsimp only)
  (try k_fold)
  k_steps
  all_goals (rename Fr _ _ _ _ => kF9; rename News _ _ _ _ => kN9; (iterate 4 ((try dsimp only [KswPost, InvPostN, InvPost]); (try k_unfold))); (try dsimp only); refine hret _ _ _ (stays_of N hup kF9.keep (fun p hp => (kN9 p (by first | exact hp | exact absurd hp (List.not_mem_nil) | exact .tail _ hp | exact .tail _ (.tail _ hp) | exact .tail _ (.tail _ (.tail _ hp)) | exact .tail _ (.tail _ (.tail _ (.tail _ hp))) | exact .tail _ (.tail _ (.tail _ (.tail _ (.tail _ hp)))) | exact .tail _ (.tail _ (.tail _ (.tail _ (.tail _ (.tail _ hp))))) | exact .tail _ (.tail _ (.tail _ (.tail _ (.tail _ (.tail _ (.tail _ hp)))))))).1)) ?_; (try dsimp only); (try simp only [List.push_toArray] at kN9))
  all_goals exact ex_int rfl
end
local macro_rules | `(tactic| walk_at "H15") => `(tactic| (k_here; (with_reducible show wpAny _ _ (call (Value.ref 160) _) _ _ _); k_dflt (refine' useI (c_cased1 _ _ _) ?kS ?kN ?ko ?kp ?_; walk_at "M_ASK"); walk_at "M_B0"))
section
local macro_rules | `(tactic| walk_at "-") => `(tactic| skip)
local macro_rules | `(tactic| walk_at "-") => `(tactic| skip)
local macro_rules | `(tactic| walk_at "-") => `(tactic| skip)
local macro_rules | `(tactic| walk_at "-") => `(tactic| skip)
local macro_rules | `(tactic| walk_at "-") => `(tactic| skip)
local macro_rules | `(tactic| walk_at "-") => `(tactic| skip)
local macro_rules | `(tactic| walk_at "call ref") => `(tactic| first | walk_at "H15" | walk_at "H8" | walk_at "H7" | walk_at "H6" | walk_at "H5" | walk_at "H4" | walk_at "H3" | walk_at "H2" | walk_at "H1" | walk_at "H0")
def casedB (i : Int) : Int := if 97 ≤ Builtin.bitOr i 32 ∧ Builtin.bitOr i 32 < 97 + 26 then Builtin.bitOr i 32 else i
theorem cased_all : ∀ k : Fin 256, casedB (k.val : Int) = casedF (k.val : Int) := by decide +kernel
theorem cased_eq {i : Int} (h0 : 0 ≤ i) (h1 : i < 256) : casedB i = casedF i := by
  have h := cased_all ⟨i.toNat, by omega⟩
  have e : ((i.toNat : Nat) : Int) = i := by omega
  dsimp only at h
  rwa [e] at h
theorem casedF_rng {i : Int} (h0 : 0 ≤ i) (h1 : i < 256) : 0 ≤ casedF i ∧ casedF i < 256 := by
  unfold casedF
  split <;> omega
theorem c_cased2 (w : World) (i : Int) (t : Tok) : Spec w 2 160 [] [.int i t, .bool false] (fun _ => 0 ≤ i ∧ i < 256) (fun _ v _ => ∃ t, v = .int (casedF i) t) := by
  w_top off
  intro mean mg mb dp un gd cn cs a ccd cl outer A₀ base h₀ L m s Q E S N hpre hret
  have hd9 := S.d
  have hu9 := S.u
  have XB1 := S.XB
  have TB1 := S.TB
  k_dflt (refine' enter S N ?k6 ?k7 ?k8 ?k9 ?kB ?_ ?c2 ?c3 ?c4 ?c5; (case k6 => k_is); (case k7 => k_is); (case k8 => ktr_room); (case k9 => (intro kX; first | exact BindsTo.of_eq rfl | exact binds_K kX rfl (by k_is) rfl rfl rfl)); (case c5 => decide); (case kB => exact locs rfl); (case c2 => exact rfl); (case c3 => exact rfl); (case c4 => exact rfl); k_whole)
  intro g L1 h1 F1 N1 B1 X1 T1 hin hup hlt hL1
  (try dsimp only)
  (try k_fold)
  have h0 := hpre.1
  have h1 := hpre.2
  k_steps
  all_goals (rename Fr _ _ _ _ => kF9; rename News _ _ _ _ => kN9; (iterate 4 ((try dsimp only [KswPost, InvPostN, InvPost]); (try k_unfold))); (try dsimp only); refine hret _ _ _ (stays_of N hup kF9.keep (fun p hp => (kN9 p (by first | exact hp | exact absurd hp (List.not_mem_nil) | exact .tail _ hp | exact .tail _ (.tail _ hp) | exact .tail _ (.tail _ (.tail _ hp)) | exact .tail _ (.tail _ (.tail _ (.tail _ hp))) | exact .tail _ (.tail _ (.tail _ (.tail _ (.tail _ hp)))) | exact .tail _ (.tail _ (.tail _ (.tail _ (.tail _ (.tail _ hp))))) | exact .tail _ (.tail _ (.tail _ (.tail _ (.tail _ (.tail _ (.tail _ hp)))))))).1)) ?_; (try dsimp only); (try simp only [List.push_toArray] at kN9))
  · exact ex_int (by rw [← cased_eq h0 h1, casedB, if_pos ⟨by assumption, by assumption⟩])
  · exact ex_int (by rw [← cased_eq h0 h1, casedB, if_neg (fun q => absurd q.2 (by assumption))])
  · exact ex_int (by rw [← cased_eq h0 h1, casedB, if_neg (fun q => absurd q.1 (by assumption))])
end
section
section
variable {n : Nat} {w : World} {mean : ExcName → Option Value} {mg mb : Str → Option Value} {dp un : Nat} {gd : Option (List Code)} {cn : Str} {cs : Scope} {a : Addr} {ccd : Value} {cl : List (Str × Addr)} {outer : List Env} {A₀ : Around} {base h₀ : Heap} {L : Addr} {m : Str → Option Value} {s : Shared} {Q E : Value → Shared → Prop} {own : Led}
theorem useX0 {f : Addr} {vs : List Value} {pre : Heap → Prop} {P bad : Prop} {news : Led} (C : SpecX w n f own vs pre (fun _ v _ => v = .none ∧ P) bad) (S : Site n w mean mg mb dp un cs A₀ base h₀ outer L m s)
    (N : News h₀ L s.heap news) (ho : ∀ p ∈ own, p ∈ news) (hp : pre s.heap)
    (h : ∀ h' tk', P → Fr h₀ L h' m → News h₀ L h' news → Q .none { s with heap := h', toks := tk' })
    (hx : ∀ e h' tk', bad → Flew s.heap (envX cn cs L a ccd cl :: outer) e h' → E (.ref e) { s with heap := h', toks := tk' }) :
    wpAny (model PR w) (ktrTop dp un gd cn cs L a ccd cl outer) (call (.ref f) vs) Q E s :=
  useX C S N ho hp (fun v h' tk' q st F' N' => by
    obtain ⟨rfl, q⟩ := q
    exact h h' tk' q F' N') hx
end
end
local macro_rules | `(tactic| walk_at "H9") => `(tactic| (k_here; (with_reducible show wpAny _ _ (call (Value.ref 97) _) _ _ _); k_dflt (refine' useI (c_adapted _ _ _ _ _ _ _ _ _ _ _ _ _ _ _) ?kS ?kN ?ko ?kp ?_; walk_at "M_ASK"); walk_at "M_B0"))
local macro_rules | `(tactic| walk_at "H10") => `(tactic| (k_here; (with_reducible show wpAny _ _ (call (Value.ref 127) _) _ _ _); k_dflt (refine' useL (c_number _ _ _ _ _ _ _ _ _ _ _ _ _ _) ?kS ?kN ?ko ?kp ?_; walk_at "M_ASK"); walk_at "M_B2"))
local macro_rules | `(tactic| walk_at "H16") => `(tactic| (k_here; (with_reducible show wpAny _ _ (call (Value.ref 160) _) _ _ _); k_dflt (refine' useI (c_cased2 _ _ _) ?kS ?kN ?ko ?kp ?_; walk_at "M_ASK"); walk_at "M_B0"))
local macro_rules | `(tactic| walk_at "H14") => `(tactic| (k_here; (with_reducible show wpAny _ _ (call (Value.ref 153) _) _ _ _); k_dflt (refine' useM (c_least _ _ _ _ _ _) ?kS ?kN ?ko ?kp ?_; walk_at "M_ASK"); walk_at "M_B13"))
local macro_rules | `(tactic| walk_at "H11") => `(tactic| (k_here; (with_reducible show wpAny _ _ (call (Value.ref 100) _) _ _ _); k_dflt (refine' useN (c_numbers _) ?kS ?kN ?ko ?kp ?_; walk_at "M_ASK"); walk_at "M_B12"))
local macro_rules | `(tactic| walk_at "H17") => `(tactic| (k_here; (with_reducible show wpAny _ _ (call (Value.ref 148) _) _ _ _); k_dflt (refine' useX0 (c_check _ _ _ _) ?kS ?kN ?ko ?kp ?ka ?kb; walk_at "M_ASK"); walk_at "M_B7"))
section
local macro_rules | `(tactic| walk_at "-") => `(tactic| skip)
local macro_rules | `(tactic| walk_at "call ref") => `(tactic| first | walk_at "H17" | walk_at "H11" | walk_at "H14" | walk_at "H16" | walk_at "H15" | walk_at "H10" | walk_at "H9" | walk_at "H8" | walk_at "H7" | walk_at "H6" | walk_at "H5" | walk_at "H4" | walk_at "H3" | walk_at "H2" | walk_at "H1" | walk_at "H0")
section
variable {prog : Program} {w : World} {A : Around} {E : Value → Shared → Prop} {s : Shared} {env : Env} {h₀ : Heap} {xi x : Str} {body : List Stmt} {Q : Flow → Shared → Prop}
/-- the loop over enumerate(list of ints), with a state of one's own -/
theorem kst_pair {σ : Type} {ns : List Int} {xv : Value} {m₀ : Str → Option Value} (Led : σ → List (Addr × Obj)) (ps : σ → List (Str × Value)) (Facts : σ → Prop) (stored : List Str) (P : List Int → σ → Prop) (c₀ : σ)
    (S : PairSrcL prog w A E h₀ env.locals ItemKind.int ns xv s m₀ (Led c₀)) (hst : stored.contains xi = true) (hf : Facts c₀) (hk : ∀ p ∈ ps c₀, m₀ p.1 = some p.2) (hp : P [] c₀)
    (turn : ∀ (c : σ) pre post n i ti t (u : Str → Option Value) h tk own, ns = pre ++ n :: post → n ∈ ns → i = (pre.length : Int) → pre.length < ns.length → OwnOff own ((Led c₀).map (·.1)) → Facts c → P pre c → (∀ p ∈ ps c, p.1 ≠ x ∧ p.1 ≠ xi) →
      Fr h₀ env.locals h (fun y => if y = x then some (.int n t) else if y = xi then some (.int i ti) else kstB (fun z => if stored.contains z then u z else m₀ z) (ps c) y) → News h₀ env.locals h (Led c ++ own) →
      wpAny (model prog w) A (execs body env) (InvPostN h₀ env.locals (KstS Led ps (fun c => Facts c ∧ ∀ p ∈ ps c, p.1 ≠ x ∧ p.1 ≠ xi) x stored m₀ P (pre ++ [n])) own ((Led c₀).map (·.1)) { s with heap := h, toks := tk } Q) E { s with heap := h, toks := tk })
    (hps : ∀ p ∈ ps c₀, p.1 ≠ x ∧ p.1 ≠ xi)
    (done : ∀ (c : σ) (u : Str → Option Value) h tk, Facts c → P ns c → Fr h₀ env.locals h (fun y => if y = x then u y else kstB (fun z => if stored.contains z then u z else m₀ z) (ps c) y) → News h₀ env.locals h (Led c) → Q .next { s with heap := h, toks := tk }) :
    wpAny (model prog w) A (pyIter xv) (fun it s₂ => PairAt3 prog w A h₀ env xi x body Q E it s₂) E s := by
  refine (PairSrcL.at S env rfl) xi x body Q (fun i m nx => nx.map (·.1) = (Led c₀).map (·.1) ∧ KstS Led ps (fun c => Facts c ∧ ∀ p ∈ ps c, p.1 ≠ x ∧ p.1 ≠ xi) x stored m₀ P (ns.take i) m nx) ⟨rfl, c₀, rfl, ⟨hf, hps⟩, hk, fun _ _ _ _ => rfl, by simpa using hp⟩ ?_ ?_
  · rintro i n t v m₁ nx s₁ own ⟨h, tk, rfl⟩ hn hv ⟨ha, c, rfl, ⟨hf', hps'⟩, h1, h2, hp'⟩ _ hoff F₁ N₁
    obtain ⟨tv, rfl⟩ := ItemKind.int_is hv
    have hs : ns.take (i + 1) = ns.take i ++ [n] := by simp [List.take_add_one, hn]
    have e : ns = ns.take i ++ n :: ns.drop (i + 1) := by
      have ht := List.take_append_drop (i + 1) ns
      rw [hs, List.append_assoc] at ht
      exact ht.symm
    have hlt : i < ns.length := (List.getElem?_eq_some_iff.mp hn).1
    have hl : (ns.take i).length = i := by rw [List.length_take]; omega
    refine wpAny_mono (turn c _ _ n i t tv (fun y => if y = xi then some (.int i t) else m₁ y) h tk own e (List.mem_of_getElem? hn) (by rw [hl]) (by rw [hl]; exact hlt) ?_ hf' hp' hps' ?_ ?_) (fun f s₂ p => ?_) fun _ _ x => x
    · intro p hp b hb
      obtain ⟨q, hq, rfl⟩ := List.mem_map.mp hb
      exact hoff p hp q hq
    · have em : (fun y => if y = x then some (Value.int n tv) else if y = xi then some (.int i t) else kstB (fun z => if stored.contains z then (if z = xi then some (.int i t) else m₁ z) else m₀ z) (ps c) y) = fun y => if y = x then some (.int n tv) else if y = xi then some (.int i t) else m₁ y := by
        funext y
        by_cases hy : y = x
        · rw [if_pos hy, if_pos hy]
        · by_cases hz : y = xi
          · rw [if_neg hy, if_neg hy, if_pos hz, if_pos hz]
          · rw [if_neg hy, if_neg hy, if_neg hz, if_neg hz]
            refine kstB_eq h1 fun hn => ?_
            rw [if_neg hz]
            cases h3 : stored.contains y with
            | true => simp
            | false => simp only [Bool.false_eq_true, if_false]; exact (h2 y hy hn h3).symm
      rw [em]
      exact F₁
    · intro p hp
      rcases List.mem_append.mp hp with hp | hp
      · exact N₁ p (List.mem_append_right _ hp)
      · exact N₁ p (List.mem_append_left _ hp)
    · have up : InvEndN h₀ env.locals (KstS Led ps (fun c => Facts c ∧ ∀ p ∈ ps c, p.1 ≠ x ∧ p.1 ≠ xi) x stored m₀ P (ns.take i ++ [n])) own ((Led c₀).map (·.1)) { s with heap := h, toks := tk } s₂ →
          LoopStep2 h₀ env.locals own (Led c) (fun m nx => nx.map (·.1) = (Led c₀).map (·.1) ∧ KstS Led ps (fun c => Facts c ∧ ∀ p ∈ ps c, p.1 ≠ x ∧ p.1 ≠ xi) x stored m₀ P (ns.take (i + 1)) m nx) { s with heap := h, toks := tk } .next s₂ := by
        rintro ⟨h', tk', m', news', nx', e', F', N', hn', ho', ha', hS⟩
        refine ⟨rfl, h', tk', m', nx', e', F', fun p hp => ?_, ha'.trans ha.symm, ha', by rw [hs]; exact hS⟩
        rcases List.mem_append.mp hp with hp | hp
        · exact N' p (ho' p hp)
        · exact N' p (hn' p hp)
      cases f with
      | ret v => exact p
      | brk => exact p
      | next => exact up p
      | cont => exact up p
  · rintro h' tk m' nx F' N' _ ⟨ha, c, rfl, ⟨hf', hps'⟩, h1, h2, hp'⟩
    rw [List.take_length] at hp'
    exact done c m' h' tk hf' hp' (kst_frOut h1 h2 F') N'
end
section
variable {prog : Program} {w : World} {A : Around} {E : Value → Shared → Prop} {s : Shared} {h₀ : Heap} {L : Addr} {m : Str → Option Value} {news : Led} {Q : Value → Shared → Prop}
theorem flat_one (n : Nat) (v : Value) : (List.replicate n [v]).flatten = List.replicate n v := by
  induction n with
  | zero => rfl
  | succ n ih => rw [List.replicate_succ, List.replicate_succ, List.flatten_cons, ih]; rfl
theorem my_nones {l : Addr} {k : Nat} {x : Int} {u : Tok} (F : Fr h₀ L s.heap m) (N : News h₀ L s.heap news) (hm : (l, PySem.W.listOf #[Value.none] k) ∈ news) (h0 : 0 ≤ x) (hx : x ≤ 10000)
    (h : ∀ D h', Fr h₀ L h' m → News h₀ L h' ((D, PySem.W.listOf (List.replicate x.toNat Value.none).toArray 0) :: news) → (∀ p ∈ news, p.1 < D) → Q (.ref D) { s with heap := h' }) :
    wpAny (model prog w) A (binaryOp .Mult (.ref l) (.int x u)) Q E s := by
  refine mul_list F N (N _ hm).1 (by omega) (by omega) (by simp; omega) fun h' F' N' => h _ h' F' ?_ fun p hp => Heap.lt_size (N p hp).1
  rw [listMul_foldl_if] at N'
  have e : (List.replicate x.toNat (#[Value.none] : Array Value).toList).flatten = List.replicate x.toNat Value.none := flat_one _ _
  rw [e] at N'
  exact N'
theorem my_wish {value slice : PySem.Expr} {D : Addr} {n k : Nat} {j : Int} {u : Tok} (N : News h₀ L s.heap news) (hm : (D, PySem.W.listOf (List.replicate n Value.none).toArray k) ∈ news) (h0 : 0 ≤ j) (h1 : j < n) (hf : j < 2 ^ 63) (h : Q .none s)
    (hs : subscripted slice false (.ref D) (.int j u) = operate [.ref D, .int j u] (getItem (.ref D) (.int j u)) := by with_unfolding_all rfl) :
    wpAny (model prog w) A (subscriptTail value slice (.ref D) (.int j u)) Q E s :=
  tail_any (PySem.IsL.isList (n := k) (N _ hm).1).typeIs slot_list_getitem.lookup (wpAny_getItem_list (PySem.IsL.isList (n := k) (N _ hm).1) h0 hf (by rw [List.getElem?_toArray, List.getElem?_replicate, if_pos (by omega)]) h) hs
theorem pnumT_pos (v b : Int) : (pnumT v b).length ≠ 0 := by
  unfold pnumT
  rw [pnum]
  split <;> simp
theorem my_ext {D b : Addr} {vs ws : List Value} {ns : List Int} {n n2 : Nat} {v bb : Int} {news' : Led} (F : Fr h₀ L s.heap m) (N : News h₀ L s.heap news) (hb : (b, PySem.W.listOf ws.toArray n2) ∈ news)
    (U : Upd D (PySem.W.listOf vs.toArray n) (PySem.W.listOf (vs ++ ws).toArray (n + 1)) news news') (hi : IntsAre ws ns) (e : ns = pnumT v bb) (hz : vs.length ≤ 1000000)
    (h : ∀ h', Fr h₀ L h' m → News h₀ L h' news' → Q .none { s with heap := h' }) : wpAny (model prog w) A (call (.builtin "list.extend") [.ref D, .ref b]) Q E s := by
  have h1 : ws.length = ns.length := hi.length
  have h2 := pnumT_len v bb
  have h3 := pnumT_pos v bb
  rw [← e] at h2 h3
  exact kl_extend F N hb (by simp) (by show ws.length ≠ 0; omega) U (fun q => by have q2 := ((Bool.and_eq_true _ _).mp q).2; simp [Builtin.List.listTooLong, sizeLine_eq] at q2; omega) (by rw [sizeLine_eq]; simp; omega) (by rw [sizeLine_eq]; simp; omega) h
end
local macro_rules | `(tactic| walk_at "call builtin:list.extend") => `(tactic| (k_here; (with_reducible show wpAny _ _ (call (Value.builtin _) [Value.ref _, Value.ref _]) _ _ _); k_dflt (refine' my_ext ?F ?N ?b ?U ?hi ?e ?z ?_; (case F => k_asm); (case N => k_asm); (case b => k_mem); (case U => k_upd); (case hi => assumption); (case e => assumption); (case z => omega)); k_whole; intro h' F' N'; (try dsimp only at N'); (try k_sweep)))
local macro_rules | `(tactic| walk_at "subscriptTail") => `(tactic| (k_here; (with_reducible show wpAny _ _ (subscriptTail _ _ (Value.ref _) (Value.int _ _)) _ _ _); k_dflt (refine' my_wish ?N ?hm ?h0 ?h1 ?hf ?_ ?hs; (case N => k_asm); (case hm => k_mem); (case h0 => omega); (case h1 => omega); (case hf => omega); (case hs => with_unfolding_all rfl)); k_whole))
local macro_rules | `(tactic| walk_at "call type:enumerate") => `(tactic| refine halt ?_)
local macro_rules | `(tactic| walk_at "binaryOp Mult ref int") => `(tactic| (k_here; (with_reducible show wpAny _ _ (binaryOp _ (Value.ref _) (Value.int _ _)) _ _ _); k_dflt (refine' my_nones ?F ?N ?hm ?h0 ?hx ?_; (case F => k_asm); (case N => k_asm); (case hm => k_mem); (case h0 => omega); (case hx => omega)); k_whole; intro D' h' F' N' l1; (try k_lt l1); (try k_sweep)))
structure EwS where
  vf : List Value
  fs : List Int
  nf : Nat
  code : Int
  ct : Tok
  delta : Int
  dt : Tok
  bias : Int
  bt : Tok
  dn : Int
  nt : Tok
structure EiS where
  vf : List Value
  fs : List Int
  nf : Nat
  delta : Int
  dt : Tok
  bias : Int
  bt : Tok
  dn : Int
  nt : Tok
structure PbS where
  vf : List Value
  fs : List Int
  nf : Nat
theorem my_join {σ : Type} {prog : Program} {w : World} {A : Around} {E : Value → Shared → Prop} {s : Shared} {g : Heap} {L : Addr} {m : Str → Option Value} {Q : Flow → Shared → Prop} {x : Sem Flow} (Led : σ → Mine.Led) (Facts : σ → Prop) (kF0 : Fr g L s.heap m)
    (h1 : ∀ Z : Flow → Shared → Prop, (∀ c h' tk', Facts c → Fr g L h' m → News g L h' (Led c) → Z .next { s with heap := h', toks := tk' }) → wpAny (model prog w) A x Z E s)
    (h2 : ∀ c h' tk', Facts c → Fr g L h' m → News g L h' (Led c) → Q .next { s with heap := h', toks := tk' }) : wpAny (model prog w) A x Q E s := h1 Q h2
structure Marker : Prop where
  mark :: (one : True)
local macro_rules | `(tactic| walk_at "exec If") => `(tactic| ((fail_if_success (have : Marker := by assumption)); (with_reducible show wpAny _ _ (exec (Stmt.If (PySem.Expr.Compare (PySem.Expr.Name (Str.ofString "many_basic") _) _ _ _) _ _ _) _) _ _ _); refine halt ?_))
theorem c_encG (w : World) (l : Addr) (vs : List Value) (ns : List Int) (args : List Value) (ha : args = [.ref l, .none] ∨ args = [.ref l]) : SpecX w 16 168 [] args (fun h => h.IsList l vs.toArray ∧ IntsAre vs ns ∧ ns.length ≤ 4096)
    (fun _ r _ => ∃ B t, r = .bytes B t ∧ KBw.bInts B = encF ns ∧ (encF ns).length ≤ 200000) (¬ ∀ i ∈ ns, isScalar i = true) := by
  w_top off
  intro mean mg mb dp un gd cn cs a ccd cl outer A₀ base h₀ L m s Q E S N hpre hret hexc
  have hd9 := S.d
  have hu9 := S.u
  have XB1 := S.XB
  have TB1 := S.TB
  k_dflt (refine' enter S N ?k6 ?k7 ?k8 ?k9 ?kB ?_ ?c2 ?c3 ?c4 ?c5; (case k6 => k_is); (case k7 => k_is); (case k8 => ktr_room); (case k9 => (intro kX; rcases ha with rfl | rfl <;> first | exact BindsTo.of_eq rfl | exact binds_K kX rfl (by k_is) rfl rfl rfl)); (case c5 => decide); (case kB => exact locs rfl); (case c2 => exact rfl); (case c3 => exact rfl); (case c4 => exact rfl); k_whole)
  intro g L1 h1 F1 N1 B1 X1 T1 hin hup hlt hL1
  (try dsimp only)
  (try k_fold)
  clear ha
  have hl : g.IsList l vs.toArray := isList_up hup hpre.1 allNe_nil
  have hi := hpre.2.1
  have hsz := hpre.2.2
  have hlen := hi.length
  have hs0 : (∀ i ∈ ns, isScalar i = true) → ∀ i ∈ ns, 0 ≤ i ∧ i ≤ 1114111 := fun q i hi => by have := q i hi; simp only [isScalar, isCode, Bool.and_eq_true, decide_eq_true_eq] at this; exact this.1
  k_steps
  · (refine Halt.go ?_; rename_i e9 h9 tk9 bad9 W9; rename Fr _ _ _ _ => kF9; rename News _ _ _ _ => kN9; (iterate 3 ((try k_unfold); (try dsimp only))); refine flew_on rfl rfl (stays_of N hup kF9.keep (fun p hp => (kN9 p (by first | exact hp | exact absurd hp (List.not_mem_nil) | exact .tail _ hp | exact .tail _ (.tail _ hp) | exact .tail _ (.tail _ (.tail _ hp)) | exact .tail _ (.tail _ (.tail _ (.tail _ hp))) | exact .tail _ (.tail _ (.tail _ (.tail _ (.tail _ hp)))) | exact .tail _ (.tail _ (.tail _ (.tail _ (.tail _ (.tail _ hp))))) | exact .tail _ (.tail _ (.tail _ (.tail _ (.tail _ (.tail _ (.tail _ hp)))))))).1)) hL1 W9 fun h' W' => hexc _ _ _ ?_ W')
    exact bad9
  · refine Halt.go ?_
    rename Fr _ _ _ _ => kF; rename News _ _ _ _ => kN
    rename_i _ _ hS x dx k1 k2 k3 k4 k5 k6 k7 _ _ ng ne nf _ _ l0 _ l1 D _ l2 _ _ lf _ l3 _
    refine call_enum_list rfl hl (IntsAre.areOf hi) kF (kst_newsOf kN (by kst_in) : News g _ _ [(lf, PySem.W.listOf #[] 0), (D, PySem.W.listOf (List.replicate (ns.length : Int).toNat Value.none).toArray 0), (x, instObj 100 dx), (dx, numD w k1 k2 k3 k4 k5 k6 k7)]) ?_
    (try clear kF); (try clear kN)
    intro h9 en kF kN kS
    (try k_fold)
    k_steps
    refine Halt.go ?_
    refine kst_pair (σ := PbS) (fun c => [(lf, PySem.W.listOf c.vf.toArray c.nf), (D, PySem.W.listOf (List.replicate (ns.length : Int).toNat Value.none).toArray 0), (x, instObj 100 dx), (dx, numD w k1 k2 k3 k4 k5 k6 k7)]) (fun _ => []) (fun c => IntsAre c.vf c.fs) [Str.ofString "place"]
      (fun pre c => c.fs = encB pre) ⟨[], [], 0⟩ kS (by decide) .nil (by kst_all) rfl ?_ (by simp) ?_
    · (try clear kF); (try clear kN)
      rintro ⟨vf, fs, nf⟩ pre post n i ti t u9 h9 tk9 own9 eP hm9 hi0 hi1 hoff hi2 hP _ kF kN
      dsimp only [kstB] at hi2 hP kF kN
      have hlen1 := hi2.length
      have hfl : fs.length ≤ pre.length := by rw [hP]; exact List.length_filter_le _ _
      have hvl : vf.length ≤ 4096 := by omega
      dsimp only [List.map] at hoff
      simp only [List.cons_append, List.nil_append] at kN
      (try k_fold)
      k_steps
      · (try dsimp only [InvPostN]); rename Fr _ _ _ _ => kF9; rename News _ _ _ _ => kN9; (try simp only [List.push_toArray] at kN9)
        refine kst_end (⟨vf ++ [.int n _], fs ++ [n], nf + 1⟩ : PbS) kF9 kN9 (by kst_in) (by (intro p hp; k_ownIn)) rfl (by exact ⟨hi2.append (.cons _ _ .nil), by simp⟩) (by kst_all) (by (intro z hx h2 h3; (try simp only [List.forall_mem_cons, List.not_mem_nil, false_implies, implies_true, and_true, ne_eq] at h2); (try simp only [List.contains_cons, List.contains_nil, Bool.or_false, Bool.or_eq_false_iff, beq_eq_false_iff_ne, ne_eq] at h3); (simp [hx, h2, h3, kstB]))) ?_
        dsimp only
        rw [hP]
        simp [encB, List.filter_append, *]
      · (try dsimp only [InvPostN]); rename Fr _ _ _ _ => kF9; rename News _ _ _ _ => kN9; (try simp only [List.push_toArray] at kN9)
        refine kst_end (⟨vf, fs, nf⟩ : PbS) kF9 kN9 (by kst_in) (by (intro p hp; k_ownIn)) rfl (by exact ⟨hi2, by simp⟩) (by kst_all) (by (intro z hx h2 h3; (try simp only [List.forall_mem_cons, List.not_mem_nil, false_implies, implies_true, and_true, ne_eq] at h2); (try simp only [List.contains_cons, List.contains_nil, Bool.or_false, Bool.or_eq_false_iff, beq_eq_false_iff_ne, ne_eq] at h3); (simp [hx, h2, h3, kstB]))) ?_
        dsimp only
        rw [hP]
        simp [encB, List.filter_append, *]
    · (try clear kF); (try clear kN); clear kS
      rintro ⟨vf, fs, nf⟩ u9 h9 tk9 hi2 hP kF kN
      dsimp only [kstB] at hi2 hP kF kN
      have hlen1 := hi2.length
      have hfl : fs.length ≤ ns.length := by rw [hP]; exact List.length_filter_le _ _
      have hs1 : ∀ i ∈ ns, 0 ≤ i := fun i hi => (hs0 hS i hi).1
      have hs2 : ∀ i ∈ ns, i ≤ 1114111 := fun i hi => (hs0 hS i hi).2
      clear hs0 hS
      (try k_fold)
      k_steps
      refine Halt.go ?_
      (try clear kF); (try clear kN)
      rename Fr _ _ _ _ => kF; rename News _ _ _ _ => kN
      refine my_join (σ := List Value × Nat) (fun c => [(lf, PySem.W.listOf c.1.toArray c.2), (D, PySem.W.listOf (List.replicate (ns.length : Int).toNat Value.none).toArray 0), (x, instObj 100 dx), (dx, numD w k1 k2 k3 k4 k5 k6 k7)]) (fun c => IntsAre c.1 (encH ns)) kF ?_ ?_
      · intro Z hZ
        have mk9 : Marker := ⟨trivial⟩
        (try k_fold)
        k_steps
        · (try clear kF); (try clear kN)
          rename Fr _ _ _ _ => kF; rename News _ _ _ _ => kN
          (try simp only [List.push_toArray] at kN)
          exact hZ (vf ++ [.int 45 263], nf + 1) _ _ (by rw [encH, ← hP, if_pos (by omega)]; exact hi2.append (.cons _ _ .nil)) kF (kst_newsOf kN (by kst_in))
        · exact hZ (vf, nf) _ _ (by rw [encH, ← hP, if_neg (by omega)]; exact hi2) kF (kst_newsOf kN (by kst_in))
      · (try clear kF); (try clear kN); clear hi2 hlen1
        rintro ⟨vf, nf⟩ h9 tk9 hi2 kF kN
        dsimp only at hi2 kF kN
        have hlen1 := hi2.length
        (try k_fold)
        k_steps
        refine Halt.go ?_
        (try clear kF); (try clear kN)
        rename Fr _ _ _ _ => kF; rename News _ _ _ _ => kN
        (try simp only [List.push_toArray] at kN)
        have hW0 := en_start hs1
        rw [← hP] at hW0
      
        obtain ⟨W, hW⟩ : ∃ W : Int → Int → Int → Int → List Int → Prop, ∀ a b c d e, W a b c d e ↔ EnI ns fs.length (encF ns) a ⟨b, c, d, e⟩ := ⟨_, fun _ _ _ _ _ => Iff.rfl⟩
        refine ksw_while (σ := EwS) (fun c => [(lf, PySem.W.listOf c.vf.toArray c.nf), (D, PySem.W.listOf (List.replicate (ns.length : Int).toNat Value.none).toArray 0), (x, instObj 100 dx), (dx, numD w k1 k2 k3 k4 k5 k6 k7)])
          (fun c => [(Str.ofString "code", .int c.code c.ct), (Str.ofString "delta", .int c.delta c.dt), (Str.ofString "bias", .int c.bias c.bt), (Str.ofString "done", .int c.dn c.nt)])
          (fun c => IntsAre c.vf c.fs) [Str.ofString "least", Str.ofString "place", Str.ofString "one"]
          (fun c => W c.code c.delta c.bias c.dn c.fs) (fun c => ns.length - c.dn.toNat) ⟨vf, encH ns, nf, _, _, _, _, _, _, _, _⟩ kF (kst_newsOf kN (by kst_in)) hi2 (by kst_all) ((hW _ _ _ _ _).mpr hW0) ?_
        (try clear kF); (try clear kN); clear hW0 hi2 hP hfl
        rintro ⟨vf, fw, nf, cd, ct, de, dt, bi, bt, dn, nt⟩ u9 h9 tk9 hi2 hP kF kN
        dsimp only [kstB] at hi2 hP kF kN
        have hE := (hW _ _ _ _ _).mp hP
        have hn0 := hE.n0
        have hlen1 := hi2.length
        have hfl := hE.l
        have hd0 := hE.d0
        have hbt := hE.by'
        dsimp only at hn0 hfl hd0 hbt
        by_cases hdn : dn < ns.length
        · have hmo : ∃ j ∈ ns, cd ≤ j := hE.more hdn
          (try k_fold)
          k_steps
          refine Halt.go ?_
          (try clear kF); (try clear kN)
          rename Fr _ _ _ _ => kF; rename News _ _ _ _ => kN
          rename_i lst _ _ _ hm _ _ _
          have hle := least_fits hm hs2
          have hdd := hE.d hle.1
          dsimp only at hdd
          have hc0 := hE.c0
          have hcap := mul_cap hle.2 (by omega) hsz
          have hst := hE.step hdn hm hs2
          dsimp only at hst
          obtain ⟨V, hV⟩ : ∃ V : List Int → Int → Int → Int → List Int → Prop, ∀ p b c d e, V p b c d e ↔ encIn fs.length lst ⟨de + (lst - cd) * (dn + 1), bi, dn, fw⟩ p = ⟨b, c, d, e⟩ := ⟨_, fun _ _ _ _ _ => Iff.rfl⟩
          refine call_enum_list rfl hl (IntsAre.areOf hi) kF (kst_newsOf kN (by kst_in) : News g _ _ [(lf, PySem.W.listOf vf.toArray nf), (D, PySem.W.listOf (List.replicate (ns.length : Int).toNat Value.none).toArray 0), (x, instObj 100 dx), (dx, numD w k1 k2 k3 k4 k5 k6 k7)]) ?_
          (try clear kF); (try clear kN)
          intro h9 en kF kN kS
          (try k_fold)
          k_steps
          refine Halt.go ?_
          refine kst_pair (σ := EiS) (fun c => [(lf, PySem.W.listOf c.vf.toArray c.nf), (D, PySem.W.listOf (List.replicate (ns.length : Int).toNat Value.none).toArray 0), (x, instObj 100 dx), (dx, numD w k1 k2 k3 k4 k5 k6 k7)])
            (fun c => [(Str.ofString "delta", .int c.delta c.dt), (Str.ofString "bias", .int c.bias c.bt), (Str.ofString "done", .int c.dn c.nt)]) (fun c => IntsAre c.vf c.fs) [Str.ofString "place"]
            (fun pre c => V pre c.delta c.bias c.dn c.fs) ⟨vf, fw, nf, _, _, _, _, _, _⟩ kS (by decide) hi2 (by kst_all) ((hV _ _ _ _ _).mpr rfl) ?_ (by (intro p hp; simp only [List.mem_cons, List.not_mem_nil, or_false] at hp; rcases hp with rfl | rfl | rfl <;> exact ⟨by dsimp only; decide, by dsimp only; decide⟩)) ?_
          · (try clear kF); (try clear kN); clear kS hi2 hlen1
            rintro ⟨vf, fw2, nf, de2, dt2, bi2, bt2, dn2, nt2⟩ pre post n i ti t u9 h9 tk9 own9 eP hm9 hi0 hi1 hoff hi2 hP2 _ kF kN
            dsimp only [kstB] at hi2 hP2 kF kN
            have ok := encIn_ok (many := fs.length) (code := lst) pre ⟨de + (lst - cd) * (dn + 1), bi, dn, fw⟩ hdd.1 hbt
            rw [(hV _ _ _ _ _).mp hP2] at ok
            obtain ⟨ok1, ok2, ok3, ok4, ok5, _⟩ := ok
            dsimp only at ok1 ok2 ok3 ok4 ok5
            have hcnt : cntE lst pre ≤ pre.length := List.countP_le_length
            have hv1 : 0 ≤ de2 ∧ de2 < 2 ^ 40 := ⟨ok1, by omega⟩
            have hv2 : 0 ≤ de2 ∧ 1 ≤ dn2 + 1 ∧ dn2 + 1 < 1000000 := by omega
            have hlen1 := hi2.length
            have hvl : vf.length ≤ 1000000 := by omega
            clear ok1 ok2 ok3 ok4 hcnt
            dsimp only [List.map] at hoff
            simp only [List.cons_append, List.nil_append] at kN
            (try k_fold)
            k_steps
            · (try dsimp only [InvPostN]); rename Fr _ _ _ _ => kF9; rename News _ _ _ _ => kN9; (try simp only [List.push_toArray] at kN9)
              refine kst_end (⟨vf, fw2, nf, de2 + 1, _, bi2, _, dn2, _⟩ : EiS) kF9 kN9 (by kst_in) (by (intro p hp; k_ownIn)) rfl (by exact ⟨hi2, (by (intro p hp; simp only [List.mem_cons, List.not_mem_nil, or_false] at hp; rcases hp with rfl | rfl | rfl <;> exact ⟨by dsimp only; decide, by dsimp only; decide⟩))⟩) (by kst_all) (by (intro z hx h2 h3; (try simp only [List.forall_mem_cons, List.not_mem_nil, false_implies, implies_true, and_true, ne_eq] at h2); (try simp only [List.contains_cons, List.contains_nil, Bool.or_false, Bool.or_eq_false_iff, beq_eq_false_iff_ne, ne_eq] at h3); (simp [hx, h2, h3, kstB]))) ?_
              refine (hV _ _ _ _ _).mpr ?_
              rw [encIn_snoc, (hV _ _ _ _ _).mp hP2, encTurn, if_pos (by assumption)]
            · (try dsimp only [InvPostN]); rename Fr _ _ _ _ => kF9; rename News _ _ _ _ => kN9; (try simp only [List.push_toArray] at kN9)
              rename_i hlt heq l9 ws9 ns9 nn9 _ _ hi9 hok _ _ _ _ _ _ _ _ _ _ _ _ _ _
              refine kst_end (⟨vf ++ ws9, fw2 ++ ns9, nf + 1, 0, _, adapt de2 (dn2 + 1) (dn2 == fs.length), _, dn2 + 1, _⟩ : EiS) kF9 kN9 (by kst_in) (by (intro p hp; k_ownIn)) rfl (by exact ⟨hi2.append hi9, (by (intro p hp; simp only [List.mem_cons, List.not_mem_nil, or_false] at hp; rcases hp with rfl | rfl | rfl <;> exact ⟨by dsimp only; decide, by dsimp only; decide⟩))⟩) (by kst_all) (by (intro z hx h2 h3; (try simp only [List.forall_mem_cons, List.not_mem_nil, false_implies, implies_true, and_true, ne_eq] at h2); (try simp only [List.contains_cons, List.contains_nil, Bool.or_false, Bool.or_eq_false_iff, beq_eq_false_iff_ne, ne_eq] at h3); (simp [hx, h2, h3, kstB]))) ?_
              refine (hV _ _ _ _ _).mpr ?_
              rw [encIn_snoc, (hV _ _ _ _ _).mp hP2, encTurn, if_neg hlt, if_pos heq, hok]
              rfl
            · (try dsimp only [InvPostN]); rename Fr _ _ _ _ => kF9; rename News _ _ _ _ => kN9; (try simp only [List.push_toArray] at kN9)
              refine kst_end (⟨vf, fw2, nf, de2, _, bi2, _, dn2, _⟩ : EiS) kF9 kN9 (by kst_in) (by (intro p hp; k_ownIn)) rfl (by exact ⟨hi2, (by (intro p hp; simp only [List.mem_cons, List.not_mem_nil, or_false] at hp; rcases hp with rfl | rfl | rfl <;> exact ⟨by dsimp only; decide, by dsimp only; decide⟩))⟩) (by kst_all) (by (intro z hx h2 h3; (try simp only [List.forall_mem_cons, List.not_mem_nil, false_implies, implies_true, and_true, ne_eq] at h2); (try simp only [List.contains_cons, List.contains_nil, Bool.or_false, Bool.or_eq_false_iff, beq_eq_false_iff_ne, ne_eq] at h3); (simp [hx, h2, h3, kstB]))) ?_
              refine (hV _ _ _ _ _).mpr ?_
              rw [encIn_snoc, (hV _ _ _ _ _).mp hP2, encTurn, if_neg (by assumption), if_neg (by assumption)]
          · (try clear kF); (try clear kN); clear kS hi2 hlen1
            rintro ⟨vf, fw2, nf, de2, dt2, bi2, bt2, dn2, nt2⟩ u9 h9 tk9 hi2 hP2 kF kN
            dsimp only [kstB] at hi2 hP2 kF kN
            have e := (hV _ _ _ _ _).mp hP2
            rw [e] at hst
            dsimp only at hst
            (try k_fold)
            k_steps
            refine Halt.go ?_; rename Fr _ _ _ _ => kF9; rename News _ _ _ _ => kN9; (try simp only [List.push_toArray] at kN9)
            refine ksw_end (⟨vf, fw2, nf, lst + 1, _, de2 + 1, _, bi2, _, dn2, _⟩ : EwS) kF9 kN9 (by kst_in) hi2 (by kst_all) (by (intro z h2 h3; (try simp only [List.forall_mem_cons, List.not_mem_nil, false_implies, implies_true, and_true, ne_eq] at h2); (try simp only [List.contains_cons, List.contains_nil, Bool.or_false, Bool.or_eq_false_iff, beq_eq_false_iff_ne, ne_eq] at h3); (simp [h2, h3, kstB]))) ((hW _ _ _ _ _).mpr hst.1) ?_
            dsimp only
            have := hst.1.n0
            dsimp only at this
            have := hst.2
            omega
        · have hfin := hE.fin hdn
          have hIn : KBa.In fw := hbt
          (try k_fold)
          k_steps
          (rename Fr _ _ _ _ => kF9; rename News _ _ _ _ => kN9; (iterate 4 ((try dsimp only [KswPost, InvPostN, InvPost]); (try k_unfold))); (try dsimp only); refine hret _ _ _ (stays_of N hup kF9.keep (fun p hp => (kN9 p (by first | exact hp | exact absurd hp (List.not_mem_nil) | exact .tail _ hp | exact .tail _ (.tail _ hp) | exact .tail _ (.tail _ (.tail _ hp)) | exact .tail _ (.tail _ (.tail _ (.tail _ hp))) | exact .tail _ (.tail _ (.tail _ (.tail _ (.tail _ hp)))) | exact .tail _ (.tail _ (.tail _ (.tail _ (.tail _ (.tail _ hp))))) | exact .tail _ (.tail _ (.tail _ (.tail _ (.tail _ (.tail _ (.tail _ hp)))))))).1)) ?_; (try dsimp only); (try simp only [List.push_toArray] at kN9))
          exact ⟨_, _, rfl, by rw [hfin]; exact KBa.ints_make hIn, by rw [hfin]; dsimp only; omega⟩
def c_enc (w : World) (l : Addr) (vs : List Value) (ns : List Int) := c_encG w l vs ns _ (.inl rfl)
end
section
local macro_rules | `(tactic| walk_at "-") => `(tactic| skip)
local macro_rules | `(tactic| walk_at "-") => `(tactic| skip)
local macro_rules | `(tactic| walk_at "-") => `(tactic| skip)
local macro_rules | `(tactic| walk_at "call builtin:list.extend") => `(tactic| (k_here; (with_reducible show wpAny _ _ (call (Value.builtin _) [Value.ref _, Value.ref _]) _ _ _); k_dflt (refine' my_ext ?F ?N ?b ?U ?hi ?e ?z ?_; (case F => k_asm); (case N => k_asm); (case b => k_mem); (case U => k_upd); (case hi => assumption); (case e => assumption); (case z => omega)); k_whole; intro h' F' N'; (try dsimp only at N'); (try k_sweep)))
local macro_rules | `(tactic| walk_at "subscriptTail") => `(tactic| (k_here; (with_reducible show wpAny _ _ (subscriptTail _ _ (Value.ref _) (Value.int _ _)) _ _ _); k_dflt (refine' my_wish ?N ?hm ?h0 ?h1 ?hf ?_ ?hs; (case N => k_asm); (case hm => k_mem); (case h0 => omega); (case h1 => omega); (case hf => omega); (case hs => with_unfolding_all rfl)); k_whole))
local macro_rules | `(tactic| walk_at "call type:enumerate") => `(tactic| refine halt ?_)
local macro_rules | `(tactic| walk_at "binaryOp Mult ref int") => `(tactic| (k_here; (with_reducible show wpAny _ _ (binaryOp _ (Value.ref _) (Value.int _ _)) _ _ _); k_dflt (refine' my_nones ?F ?N ?hm ?h0 ?hx ?_; (case F => k_asm); (case N => k_asm); (case hm => k_mem); (case h0 => omega); (case hx => omega)); k_whole; intro D' h' F' N' l1; (try k_lt l1); (try k_sweep)))
local macro_rules | `(tactic| walk_at "exec If") => `(tactic| ((fail_if_success (have : Marker := by assumption)); (with_reducible show wpAny _ _ (exec (Stmt.If (PySem.Expr.Compare (PySem.Expr.Name (Str.ofString "many_basic") _) _ _ _) _ _ _) _) _ _ _); refine halt ?_))
def c_enc1 (w : World) (l : Addr) (vs : List Value) (ns : List Int) := c_encG w l vs ns _ (.inr rfl)
end
local macro_rules | `(tactic| walk_at "H12") => `(tactic| (k_here; (with_reducible show wpAny _ _ (call (Value.ref 134) _) _ _ _); k_dflt (refine' useX2i (c_number_at _ _ _ _ _ _ _ _ _ _ _ _ _ _ _ _ _) ?kS ?kN ?ko ?kp ?ka ?kb; walk_at "M_ASK"); walk_at "M_B6"))
local macro_rules | `(tactic| walk_at "H13") => `(tactic| (k_here; (with_reducible show wpAny _ _ (call (Value.ref 175) _) _ _ _); k_dflt (refine' use2b (c_split _ _ _ _) ?kS ?kN ?ko ?kp ?_; walk_at "M_ASK"); walk_at "M_B11"))
section
local macro_rules | `(tactic| walk_at "-") => `(tactic| skip)
local macro_rules | `(tactic| walk_at "-") => `(tactic| skip)
local macro_rules | `(tactic| walk_at "-") => `(tactic| skip)
local macro_rules | `(tactic| walk_at "-") => `(tactic| skip)
local macro_rules | `(tactic| walk_at "-") => `(tactic| skip)
local macro_rules | `(tactic| walk_at "-") => `(tactic| skip)
local macro_rules | `(tactic| walk_at "call ref") => `(tactic| first | walk_at "H11" | walk_at "H13" | walk_at "H12" | walk_at "H9" | walk_at "H8" | walk_at "H7" | walk_at "H6" | walk_at "H5" | walk_at "H4" | walk_at "H3" | walk_at "H2" | walk_at "H1" | walk_at "H0")
section
variable {prog : Program} {w : World} {A : Around} {E : Value → Shared → Prop} {s : Shared} {h₀ : Heap} {L l l2 : Addr} {m : Str → Option Value} {news : Led} {value slice : PySem.Expr} {vs ws : List Value} {vl vu : Value} {lo hi : Option Int} {Q : Value → Shared → Prop}
theorem my_slice (F : Fr h₀ L s.heap m) (N : News h₀ L s.heap news) (hl : s.heap.IsList l vs.toArray) (pl : IsPart vl lo) (pu : IsPart vu hi)
    (h : ∀ D zs h', zs = (slicePick vs.toArray lo hi none).toList → zs.length ≤ vs.length → Fr h₀ L h' m → News h₀ L h' ((D, PySem.W.listOf zs.toArray 0) :: news) → (∀ p ∈ news, p.1 < D) → Q (.ref D) { s with heap := h' })
    (hs : subscripted slice false (.ref l) (.ref s.heap.objs.size) = operate [.ref s.heap.objs.size, .ref l] (getItem (.ref l) (.ref s.heap.objs.size))) (ht : ∀ r, letTemporaryGo value (.ref l) r = pure ()) (hz : vs.length ≤ 100000) :
    wpAny (model prog w) A (subscriptTail value slice (.ref l) (.ref s.heap.objs.size)) Q E { s with heap := s.heap.push { cls := .type "slice", data := .fields #[vl, vu, .none] } } := by
  refine kmk_slice F N hl pl pu (fun D h' F' N' l1 => h D _ h' rfl ?_ F' ?_ l1) hs ht (by rw [List.size_toArray, sizeLine_eq]; omega)
  · have q := slicePick_size_le vs.toArray lo hi none
    rw [Array.length_toList]
    simpa using q
  · rw [Array.toArray_toList]
    exact N'
theorem my_add (F : Fr h₀ L s.heap m) (N : News h₀ L s.heap news) (hl : s.heap.IsList l vs.toArray) (hb : s.heap.IsList l2 ws.toArray)
    (h : ∀ D h', Fr h₀ L h' m → News h₀ L h' ((D, PySem.W.listOf (vs ++ ws).toArray 0) :: news) → (∀ p ∈ news, p.1 < D) → Q (.ref D) { s with heap := h' })
    (hsz : vs.length + ws.length ≤ 1000000) : wpAny (model prog w) A (binaryOp .Add (.ref l) (.ref l2)) Q E s :=
  add_arrays F N hl hb (fun h' F' N' => h _ h' F' N' fun p hp => Heap.lt_size (N p hp).1) (by rw [List.size_toArray, List.size_toArray, sizeLine_eq]; omega)
end
local macro_rules | `(tactic| walk_at "subscriptTail Name Slice ref ref") => `(tactic| (k_here; (with_reducible show wpAny _ _ (subscriptTail _ (PySem.Expr.Slice _ _ none _) (Value.ref _) (Value.ref _)) _ _ _); k_dflt (refine' my_slice ?F ?N ?l ?p ?q ?_ ?s ?t ?z; (case F => k_asm); (case N => k_asm); (case l => kmk_list); (case p => kmk_part); (case q => kmk_part); (case s => with_unfolding_all rfl); (case t => kmk_pure); (case z => first | omega | (simp only [List.length_append, List.length_cons, List.length_nil]; omega))); intro D' zs' h' eZ' lZ' F' N' l1; (try k_lt l1); (try k_sweep)))
local macro_rules | `(tactic| walk_at "binaryOp Add ref ref") => `(tactic| (k_here; (with_reducible show wpAny _ _ (binaryOp _ (Value.ref _) (Value.ref _)) _ _ _); k_dflt (refine' my_add ?F ?N ?l ?p ?_ ?z; (case F => k_asm); (case N => k_asm); (case l => kmk_list); (case p => kmk_list); (case z => first | omega | (simp only [List.length_append, List.length_cons, List.length_nil]; omega))); intro D' h' F' N' l1; (try k_lt l1); (try k_sweep)))
structure DcS where
  lt : Addr
  lc : Addr
  vt : List Value
  ts : List Int
  nt : Nat
  vc : List Value
  nc : Nat
  a : Int
  at' : Tok
  code : Int
  ct : Tok
  ix : Int
  it : Tok
  bias : Int
  bt : Tok
theorem adapt_congr {os : List Int} {nb : Int} {R : Option (List Int)} {a c i d m : Int} {ts : List Int} {x y : Bool} (e : x = y) (q : DeW os nb R a c i (adapt d m x) ts) : DeW os nb R a c i (adapt d m y) ts := e ▸ q
theorem pick_upto (vs : List Value) {z : Int} (h : 0 ≤ z) : (slicePick vs.toArray none (some z) none).toList = vs.take z.toNat := by
  rw [kms_pick_eq]
  simp only [kms_pick, kms_lo, kms_hi, if_neg (Int.not_lt.mpr h), List.drop_zero, Nat.sub_zero]
  exact kmk_take_min _ _
theorem pick_from (vs : List Value) {z : Int} (h : 0 ≤ z) : (slicePick vs.toArray (some z) none none).toList = vs.drop z.toNat := by
  rw [kms_pick_eq]
  simp only [kms_pick, kms_lo, kms_hi, if_neg (Int.not_lt.mpr h)]
  rw [kmk_drop_min, List.take_of_length_le]
  rw [List.length_drop]
  omega
structure DbS where
  vt : List Value
  ts : List Int
  nt : Nat
  vc : List Value
  nc : Nat
theorem c_annot (w : World) (b : Array UInt8) (os : List Int) (t : Tok) : SpecX w 16 190 [] [.bytes b t, .none] (fun _ => KBw.bInts b = os ∧ os.length ≤ 4096)
    (fun h r h' => ∃ l lt lc ws ns nn, r = .ref l ∧ h'.get? l = some (tup2 (.ref lt) (.ref lc)) ∧ h'.get? lt = some (listOf ws.toArray nn) ∧ h.get? l = none ∧ h.get? lt = none ∧ lt ≠ l ∧ IntsAre ws ns ∧ decF os = some ns) (decF os = none) := by
  w_top off
  intro mean mg mb dp un gd cn cs a ccd cl outer A₀ base h₀ L m s Q E S N hpre hret hexc
  have hd9 := S.d
  have hu9 := S.u
  have XB1 := S.XB
  have TB1 := S.TB
  k_dflt (refine' enter S N ?k6 ?k7 ?k8 ?k9 ?kB ?_ ?c2 ?c3 ?c4 ?c5; (case k6 => k_is); (case k7 => k_is); (case k8 => ktr_room); (case k9 => (intro kX; first | exact BindsTo.of_eq rfl | exact binds_K kX rfl (by k_is) rfl rfl rfl)); (case c5 => decide); (case kB => exact locs rfl); (case c2 => exact rfl); (case c3 => exact rfl); (case c4 => exact rfl); k_whole)
  intro g L1 h1 F1 N1 B1 X1 T1 hin hup hlt hL1
  (try dsimp only)
  (try k_fold)
  have hb := hpre.1
  have hb2 := hpre.2
  k_steps
  refine Halt.go ?_
  rename Fr _ _ _ _ => kF; rename News _ _ _ _ => kN
  rename_i x dx k1 k2 k3 k4 k5 k6 k7 _ _ ng ne nf _ _ l9 B9 t9 u9 _ _ eB ne1 _ _ _ _ lt _ l1 lc _ l2 D _ l3 _ _ _
  refine KStb.kst_bytes (σ := DbS) (fun c => [(lc, listOf c.vc.toArray c.nc), (lt, listOf c.vt.toArray c.nt), (x, instObj 100 dx), (dx, numD w k1 k2 k3 k4 k5 k6 k7)]) (fun _ => []) (fun c => IntsAre c.vt c.ts) []
    (fun pre c => c.ts = pre ∧ c.vc.length = pre.length ∧ ∀ n ∈ pre, n < 128) ⟨[], [], 0, [], 0⟩ eB rfl rfl kF (kst_newsOf kN (by kst_in)) .nil (by kst_all) ⟨rfl, rfl, by simp⟩ ?_ ?_
  · clear kF kN
    rintro ⟨vt, ts, nt, vc, nc⟩ pre post i ti u9 h9 tk9 own9 eP hm9 i0 i1 hoff hi1 ⟨hP1, hP2, hP3⟩ kF kN
    dsimp only [kstB] at hi1 hP1 hP2 hP3 kF kN
    have hlen1 := hi1.length
    have hsz : vt.length ≤ 4096 := by rw [hlen1, hP1]; have := splA_le os; rw [List.length_take] at hm9; omega
    have hsz2 : vc.length ≤ 4096 := by rw [hP2, ← hP1, ← hlen1]; exact hsz
    dsimp only [List.map] at hoff
    simp only [List.cons_append, List.nil_append] at kN
    (try k_fold)
    k_steps
    · (try dsimp only [InvPostN]); rename Fr _ _ _ _ => kF9; rename News _ _ _ _ => kN9; (try simp only [List.push_toArray] at kN9)
      refine kst_end (⟨vt ++ [.int i ti], ts ++ [i], nt + 1, vc ++ [.bool (isCap i)], nc + 1⟩ : DbS) kF9 kN9 (by kst_in) (by (intro p hp; k_ownIn)) rfl (hi1.append (.cons _ _ .nil)) (by kst_all) (by (intro z hx h2 h3; (try simp only [List.forall_mem_cons, List.not_mem_nil, false_implies, implies_true, and_true, ne_eq] at h2); (try simp only [List.contains_cons, List.contains_nil, Bool.or_false, Bool.or_eq_false_iff, beq_eq_false_iff_ne, ne_eq] at h3); (simp [hx, h2, h3, kstB]))) ⟨by dsimp only; rw [hP1], by dsimp only; simp [hP2], ?_⟩
      intro n hn
      rcases List.mem_append.mp hn with h | h
      · exact hP3 n h
      · rw [List.mem_singleton.mp h]; assumption
    · (refine Halt.go ?_; rename_i h9 e9 t9 dx9 tk9 st9 he9 hen9 hdn9 hne9 hns9; rename Fr _ _ _ _ => kF9; rename News _ _ _ _ => kN9; refine ⟨_, _, _, rfl, bad_at ((X1.keeps kF9.keep).keeps st9), he9, ?_⟩; (iterate 3 ((try k_unfold); (try dsimp only))); refine flew_first B1 kF9 rfl rfl st9 (stays_of N hup kF9.keep (fun p hp => (kN9 p (by first | exact hp | exact absurd hp (List.not_mem_nil) | exact .tail _ hp | exact .tail _ (.tail _ hp) | exact .tail _ (.tail _ (.tail _ hp)) | exact .tail _ (.tail _ (.tail _ (.tail _ hp))) | exact .tail _ (.tail _ (.tail _ (.tail _ (.tail _ hp)))) | exact .tail _ (.tail _ (.tail _ (.tail _ (.tail _ (.tail _ hp))))) | exact .tail _ (.tail _ (.tail _ (.tail _ (.tail _ (.tail _ (.tail _ hp)))))))).1)) hL1 he9 hen9 hdn9 hne9 hns9 fun h' W => hexc _ _ _ ?_ W)
      exact dec_bad (n := i) (by rw [eP]; simp) (by assumption)
  · clear kF kN
    rintro ⟨vt, ts, nt, vc, nc⟩ u9 h9 tk9 hl9 hi1 ⟨hP1, hP2, hP3⟩ kF kN
    dsimp only [kstB] at hl9 hi1 hP1 hP2 hP3 kF kN
    have hlen1 := hi1.length
    (try k_fold)
    k_steps
    refine Halt.go ?_
    rename Fr _ _ _ _ => kF; rename News _ _ _ _ => kN
    have hW0 := dec_start hP3
    have hr0 := splN_rng os
    have hr1 := splA_le os
    rw [← hP1] at hW0
    obtain ⟨W, hW⟩ : ∃ W : Int → Int → Int → Int → List Int → Prop, ∀ a c i b t, W a c i b t ↔ DeW os (splA os) (decF os) a c i b t := ⟨_, fun _ _ _ _ _ => Iff.rfl⟩
    have hlB : (List.take (splA os) os).length = splA os := by rw [List.length_take]; omega
    refine ksw_while (σ := DcS) (fun c => [(c.lc, listOf c.vc.toArray c.nc), (c.lt, listOf c.vt.toArray c.nt), (x, instObj 100 dx), (dx, numD w k1 k2 k3 k4 k5 k6 k7)])
      (fun c => [(Str.ofString "text", .ref c.lt), (Str.ofString "capitals", .ref c.lc), (Str.ofString "at", .int c.a c.at'), (Str.ofString "code", .int c.code c.ct), (Str.ofString "index", .int c.ix c.it), (Str.ofString "bias", .int c.bias c.bt)])
      (fun c => IntsAre c.vt c.ts) [Str.ofString "delta", Str.ofString "many"]
      (fun c => 0 ≤ c.a ∧ c.a ≤ os.length ∧ (c.ts.length : Int) ≤ c.a ∧ c.vc.length = c.ts.length ∧ 0 ≤ c.ix ∧ W c.a c.code c.ix c.bias c.ts) (fun c => os.length - c.a.toNat) ⟨lt, lc, vt, ts, nt, vc, nc, _, _, _, _, _, _, _, _⟩ kF (kst_newsOf kN (by kst_in)) hi1 (by kst_all) ?_ ?_
    · refine ⟨hr0.1, hr0.2.1, ?_, ?_, Int.le_refl _, (hW _ _ _ _ _).mpr hW0⟩
      · dsimp only
        rw [hP1, hlB]
        exact hr0.2.2
      · rw [hP2, hP1]
    clear kF kN hP1 hP2 hP3 hi1 hlen1 hW0 l1 l2 l3 ne1
    rintro ⟨lt2, lc2, vt, ts, nt, vc, nc, a1, a2, cd1, cd2, ix1, ix2, bi1, bi2⟩ u9 h9 tk9 hi1 ⟨hP1, hP2, hP3, hP4, hP5, hP6⟩ kF kN
    dsimp only [kstB] at hi1 hP1 hP2 hP3 hP4 hP5 hP6 kF kN
    have hlen1 := hi1.length
    (try k_fold)
    k_steps
    · (refine Halt.go ?_; rename_i e9 h9 tk9 bad9 W9; rename Fr _ _ _ _ => kF9; rename News _ _ _ _ => kN9; (iterate 3 ((try k_unfold); (try dsimp only))); refine flew_on rfl rfl (stays_of N hup kF9.keep (fun p hp => (kN9 p (by first | exact hp | exact absurd hp (List.not_mem_nil) | exact .tail _ hp | exact .tail _ (.tail _ hp) | exact .tail _ (.tail _ (.tail _ hp)) | exact .tail _ (.tail _ (.tail _ (.tail _ hp))) | exact .tail _ (.tail _ (.tail _ (.tail _ (.tail _ hp)))) | exact .tail _ (.tail _ (.tail _ (.tail _ (.tail _ (.tail _ hp))))) | exact .tail _ (.tail _ (.tail _ (.tail _ (.tail _ (.tail _ (.tail _ hp)))))))).1)) hL1 W9 fun h' W' => hexc _ _ _ ?_ W')
      have q := ((hW _ _ _ _ _).mp hP6).step (by assumption) hP1
      rwa [bad9] at q
    · (refine Halt.go ?_; rename_i h9 e9 t9 dx9 tk9 st9 he9 hen9 hdn9 hne9 hns9; rename Fr _ _ _ _ => kF9; rename News _ _ _ _ => kN9; refine ⟨_, _, _, rfl, bad_at ((X1.keeps kF9.keep).keeps st9), he9, ?_⟩; (iterate 3 ((try k_unfold); (try dsimp only))); refine flew_first B1 kF9 rfl rfl st9 (stays_of N hup kF9.keep (fun p hp => (kN9 p (by first | exact hp | exact absurd hp (List.not_mem_nil) | exact .tail _ hp | exact .tail _ (.tail _ hp) | exact .tail _ (.tail _ (.tail _ hp)) | exact .tail _ (.tail _ (.tail _ (.tail _ hp))) | exact .tail _ (.tail _ (.tail _ (.tail _ (.tail _ hp)))) | exact .tail _ (.tail _ (.tail _ (.tail _ (.tail _ (.tail _ hp))))) | exact .tail _ (.tail _ (.tail _ (.tail _ (.tail _ (.tail _ (.tail _ hp)))))))).1)) hL1 he9 hen9 hdn9 hne9 hns9 fun h' W => hexc _ _ _ ?_ W)
      have q := ((hW _ _ _ _ _).mp hP6).step (by assumption) hP1
      rw [‹numAtT os bi1 a1 = some _›] at q
      dsimp only at q
      rwa [if_pos (by assumption)] at q
    · refine Halt.go ?_; rename Fr _ _ _ _ => kF9; rename News _ _ _ _ => kN9; (try simp only [List.push_toArray] at kN9)
      have q := ((hW _ _ _ _ _).mp hP6).step (by assumption) hP1
      rw [‹numAtT os bi1 a1 = some _›] at q
      dsimp only at q
      rw [if_neg (by assumption), if_pos (by assumption)] at q
      rename (_ = (slicePick vt.toArray none (some _) none).toList) => eZ1
      rename (_ = (slicePick vt.toArray (some _) none none).toList) => eZ2
      rename (_ = (slicePick vc.toArray none (some _) none).toList) => eZ3
      rename (_ = (slicePick vc.toArray (some _) none none).toList) => eZ4
      have hf0 : ∀ z : Int, 0 ≤ z.fmod (ts.length + 1) := fun z => fmod_lo _ (by omega)
      have hf1 : ∀ z : Int, z.fmod (ts.length + 1) < ts.length + 1 := fun z => fmod_hi _ (by omega)
      rw [pick_upto _ (hf0 _)] at eZ1 eZ3
      rw [pick_from _ (hf0 _)] at eZ2 eZ4
      subst eZ1 eZ2 eZ3 eZ4
      refine' ksw_end (⟨_, _, _, _, _, _, _, _, _, _, _, _, _, _, _⟩ : DcS) kF9 kN9 ?hnA (((hi1.take _).append (.cons _ _ .nil)).append (hi1.drop _)) ?hkA ?hrA ⟨?h1A, ?h2A, ?h3A, ?h4A, ?h5A, (hW _ _ _ _ _).mpr ?h6A⟩ ?hmA
      case hkA => kst_all
      case hnA => kst_in
      case hrA => exact (by (intro z h2 h3; (try simp only [List.forall_mem_cons, List.not_mem_nil, false_implies, implies_true, and_true, ne_eq] at h2); (try simp only [List.contains_cons, List.contains_nil, Bool.or_false, Bool.or_eq_false_iff, beq_eq_false_iff_ne, ne_eq] at h3); (simp [h2, h3, kstB])))
      case h6A => exact adapt_congr (by rw [decide_eq_true ‹ix1 = 0›, Bool.true_and, Nat.min_eq_left hr1]; rfl) q
      all_goals (dsimp only; (try simp only [List.length_append, List.length_take, List.length_drop, List.length_cons, List.length_nil]); first | omega | exact Int.add_nonneg (hf0 _) (by decide))
    · (refine Halt.go ?_; rename_i h9 e9 t9 dx9 tk9 st9 he9 hen9 hdn9 hne9 hns9; rename Fr _ _ _ _ => kF9; rename News _ _ _ _ => kN9; refine ⟨_, _, _, rfl, bad_at ((X1.keeps kF9.keep).keeps st9), he9, ?_⟩; (iterate 3 ((try k_unfold); (try dsimp only))); refine flew_first B1 kF9 rfl rfl st9 (stays_of N hup kF9.keep (fun p hp => (kN9 p (by first | exact hp | exact absurd hp (List.not_mem_nil) | exact .tail _ hp | exact .tail _ (.tail _ hp) | exact .tail _ (.tail _ (.tail _ hp)) | exact .tail _ (.tail _ (.tail _ (.tail _ hp))) | exact .tail _ (.tail _ (.tail _ (.tail _ (.tail _ hp)))) | exact .tail _ (.tail _ (.tail _ (.tail _ (.tail _ (.tail _ hp))))) | exact .tail _ (.tail _ (.tail _ (.tail _ (.tail _ (.tail _ (.tail _ hp)))))))).1)) hL1 he9 hen9 hdn9 hne9 hns9 fun h' W => hexc _ _ _ ?_ W)
      have q := ((hW _ _ _ _ _).mp hP6).step (by assumption) hP1
      rw [‹numAtT os bi1 a1 = some _›] at q
      dsimp only at q
      rwa [if_neg (by assumption), if_neg (fun z => by rw [‹isScalar _ = false›] at z; cases z)] at q
    · (refine Halt.go ?_; rename_i h9 e9 t9 dx9 tk9 st9 he9 hen9 hdn9 hne9 hns9; rename Fr _ _ _ _ => kF9; rename News _ _ _ _ => kN9; refine ⟨_, _, _, rfl, bad_at ((X1.keeps kF9.keep).keeps st9), he9, ?_⟩; (iterate 3 ((try k_unfold); (try dsimp only))); refine flew_first B1 kF9 rfl rfl st9 (stays_of N hup kF9.keep (fun p hp => (kN9 p (by first | exact hp | exact absurd hp (List.not_mem_nil) | exact .tail _ hp | exact .tail _ (.tail _ hp) | exact .tail _ (.tail _ (.tail _ hp)) | exact .tail _ (.tail _ (.tail _ (.tail _ hp))) | exact .tail _ (.tail _ (.tail _ (.tail _ (.tail _ hp)))) | exact .tail _ (.tail _ (.tail _ (.tail _ (.tail _ (.tail _ hp))))) | exact .tail _ (.tail _ (.tail _ (.tail _ (.tail _ (.tail _ (.tail _ hp)))))))).1)) hL1 he9 hen9 hdn9 hne9 hns9 fun h' W => hexc _ _ _ ?_ W)
      have q := ((hW _ _ _ _ _).mp hP6).step (by assumption) hP1
      rw [‹numAtT os bi1 a1 = some _›] at q
      dsimp only at q
      rwa [if_pos (by assumption)] at q
    · refine Halt.go ?_; rename Fr _ _ _ _ => kF9; rename News _ _ _ _ => kN9; (try simp only [List.push_toArray] at kN9)
      have q := ((hW _ _ _ _ _).mp hP6).step (by assumption) hP1
      rw [‹numAtT os bi1 a1 = some _›] at q
      dsimp only at q
      rw [if_neg (by assumption), if_pos (by assumption)] at q
      rename (_ = (slicePick vt.toArray none (some _) none).toList) => eZ1
      rename (_ = (slicePick vt.toArray (some _) none none).toList) => eZ2
      rename (_ = (slicePick vc.toArray none (some _) none).toList) => eZ3
      rename (_ = (slicePick vc.toArray (some _) none none).toList) => eZ4
      have hf0 : ∀ z : Int, 0 ≤ z.fmod (ts.length + 1) := fun z => fmod_lo _ (by omega)
      have hf1 : ∀ z : Int, z.fmod (ts.length + 1) < ts.length + 1 := fun z => fmod_hi _ (by omega)
      rw [pick_upto _ (hf0 _)] at eZ1 eZ3
      rw [pick_from _ (hf0 _)] at eZ2 eZ4
      subst eZ1 eZ2 eZ3 eZ4
      refine' ksw_end (⟨_, _, _, _, _, _, _, _, _, _, _, _, _, _, _⟩ : DcS) kF9 kN9 ?hnB (((hi1.take _).append (.cons _ _ .nil)).append (hi1.drop _)) ?hkB ?hrB ⟨?h1B, ?h2B, ?h3B, ?h4B, ?h5B, (hW _ _ _ _ _).mpr ?h6B⟩ ?hmB
      case hkB => kst_all
      case hnB => kst_in
      case hrB => exact (by (intro z h2 h3; (try simp only [List.forall_mem_cons, List.not_mem_nil, false_implies, implies_true, and_true, ne_eq] at h2); (try simp only [List.contains_cons, List.contains_nil, Bool.or_false, Bool.or_eq_false_iff, beq_eq_false_iff_ne, ne_eq] at h3); (simp [h2, h3, kstB])))
      case h6B => exact adapt_congr (by rw [decide_eq_false ‹ix1 ≠ 0›, Bool.false_and]; exact (beq_eq_false_iff_ne.mpr ‹ix1 ≠ 0›).symm) q
      all_goals (dsimp only; (try simp only [List.length_append, List.length_take, List.length_drop, List.length_cons, List.length_nil]); first | omega | exact Int.add_nonneg (hf0 _) (by decide))
    · (refine Halt.go ?_; rename_i h9 e9 t9 dx9 tk9 st9 he9 hen9 hdn9 hne9 hns9; rename Fr _ _ _ _ => kF9; rename News _ _ _ _ => kN9; refine ⟨_, _, _, rfl, bad_at ((X1.keeps kF9.keep).keeps st9), he9, ?_⟩; (iterate 3 ((try k_unfold); (try dsimp only))); refine flew_first B1 kF9 rfl rfl st9 (stays_of N hup kF9.keep (fun p hp => (kN9 p (by first | exact hp | exact absurd hp (List.not_mem_nil) | exact .tail _ hp | exact .tail _ (.tail _ hp) | exact .tail _ (.tail _ (.tail _ hp)) | exact .tail _ (.tail _ (.tail _ (.tail _ hp))) | exact .tail _ (.tail _ (.tail _ (.tail _ (.tail _ hp)))) | exact .tail _ (.tail _ (.tail _ (.tail _ (.tail _ (.tail _ hp))))) | exact .tail _ (.tail _ (.tail _ (.tail _ (.tail _ (.tail _ (.tail _ hp)))))))).1)) hL1 he9 hen9 hdn9 hne9 hns9 fun h' W => hexc _ _ _ ?_ W)
      have q := ((hW _ _ _ _ _).mp hP6).step (by assumption) hP1
      rw [‹numAtT os bi1 a1 = some _›] at q
      dsimp only at q
      rwa [if_neg (by assumption), if_neg (fun z => by rw [‹isScalar _ = false›] at z; cases z)] at q
    · (rename Fr _ _ _ _ => kF9; rename News _ _ _ _ => kN9; (iterate 4 ((try dsimp only [KswPost, InvPostN, InvPost]); (try k_unfold))); (try dsimp only); refine hret _ _ _ (stays_of N hup kF9.keep (fun p hp => (kN9 p (by first | exact hp | exact absurd hp (List.not_mem_nil) | exact .tail _ hp | exact .tail _ (.tail _ hp) | exact .tail _ (.tail _ (.tail _ hp)) | exact .tail _ (.tail _ (.tail _ (.tail _ hp))) | exact .tail _ (.tail _ (.tail _ (.tail _ (.tail _ hp)))) | exact .tail _ (.tail _ (.tail _ (.tail _ (.tail _ (.tail _ hp))))) | exact .tail _ (.tail _ (.tail _ (.tail _ (.tail _ (.tail _ (.tail _ hp)))))))).1)) ?_; (try dsimp only); (try simp only [List.push_toArray] at kN9))
      refine ⟨_, lt2, lc2, vt, ts, nt, rfl, (kN9 _ (.head _)).1, (kN9 _ (.tail _ (.tail _ (.head _)))).1, fresh_of hup kN9 (.head _) (by (intro q9 hq9; (first | (simp only [List.mem_cons, List.not_mem_nil, or_false] at hq9; (rcases hq9 with rfl | rfl | rfl | rfl | rfl | rfl) <;> (refine neN ?_; dsimp only; omega)) | exact absurd hq9 (List.not_mem_nil) | ((simp only [List.mem_cons, List.not_mem_nil, or_false] at hq9; (rcases hq9 with rfl | rfl) <;> (refine neN ?_; dsimp only; omega)))))), fresh_of hup kN9 (.tail _ (.tail _ (.head _))) (by (intro q9 hq9; (first | (simp only [List.mem_cons, List.not_mem_nil, or_false] at hq9; (rcases hq9 with rfl | rfl | rfl | rfl | rfl | rfl) <;> (refine neN ?_; dsimp only; omega)) | exact absurd hq9 (List.not_mem_nil) | ((simp only [List.mem_cons, List.not_mem_nil, or_false] at hq9; (rcases hq9 with rfl | rfl) <;> (refine neN ?_; dsimp only; omega)))))), ?_, hi1, ((hW _ _ _ _ _).mp hP6).fin (by assumption)⟩
      refine neN ?_
      omega
end
section
local macro_rules | `(tactic| walk_at "-") => `(tactic| skip)
local macro_rules | `(tactic| walk_at "-") => `(tactic| skip)
local macro_rules | `(tactic| walk_at "-") => `(tactic| skip)
local macro_rules | `(tactic| walk_at "-") => `(tactic| skip)
local macro_rules | `(tactic| walk_at "-") => `(tactic| skip)
local macro_rules | `(tactic| walk_at "-") => `(tactic| skip)
local macro_rules | `(tactic| walk_at "-") => `(tactic| skip)
local macro_rules | `(tactic| walk_at "-") => `(tactic| skip)
local macro_rules | `(tactic| walk_at "-") => `(tactic| skip)
local macro_rules | `(tactic| walk_at "-") => `(tactic| skip)
theorem list_led {h₀ h : Heap} {L l : Addr} {vs : List Value} {n : Nat} {news : Led} (N : News h₀ L h news) (hm : (l, PySem.W.listOf vs.toArray n) ∈ news) : h.IsList l vs.toArray := PySem.IsL.isList (n := n) (N _ hm).1
section
variable {n : Nat} {w : World} {mean : ExcName → Option Value} {mg mb : Str → Option Value} {dp un : Nat} {gd : Option (List Code)} {cn : Str} {cs : Scope} {a : Addr} {ccd : Value} {cl : List (Str × Addr)} {outer : List Env} {A₀ : Around} {base h₀ : Heap} {L : Addr} {m : Str → Option Value} {s : Shared} {Q E : Value → Shared → Prop} {own : Led}
theorem useXA {f : Addr} {vs : List Value} {pre : Heap → Prop} {bad : Prop} {news : Led} {R : Option (List Int)}
    (C : SpecX w n f own vs pre (fun h r h' => ∃ l lt lc ws ns nn, r = .ref l ∧ h'.get? l = some (tup2 (.ref lt) (.ref lc)) ∧ h'.get? lt = some (listOf ws.toArray nn) ∧ h.get? l = none ∧ h.get? lt = none ∧ lt ≠ l ∧ IntsAre ws ns ∧ R = some ns) bad)
    (S : Site n w mean mg mb dp un cs A₀ base h₀ outer L m s) (N : News h₀ L s.heap news) (ho : ∀ p ∈ own, p ∈ news) (hp : pre s.heap)
    (h : ∀ l lt lc ws ns nn h' tk', Fr h₀ L h' m → News h₀ L h' ((l, tup2 (.ref lt) (.ref lc)) :: (lt, listOf ws.toArray nn) :: news) → (∀ p ∈ news, p.1 ≠ l) → (∀ p ∈ news, p.1 ≠ lt) → @Ne Nat lt l → IntsAre ws ns → R = some ns → Q (.ref l) { s with heap := h', toks := tk' })
    (hx : ∀ e h' tk', bad → Flew s.heap (envX cn cs L a ccd cl :: outer) e h' → E (.ref e) { s with heap := h', toks := tk' }) :
    wpAny (model PR w) (ktrTop dp un gd cn cs L a ccd cl outer) (call (.ref f) vs) Q E s :=
  useX C S N ho hp (fun v h' tk' q st F' N' => by
    obtain ⟨l, lt, lc, ws, ns, nn, rfl, e1, e2, n1, n2, ne, hi, hr⟩ := q
    obtain ⟨N2, hne2⟩ := news_add S.F N st e2 n2
    obtain ⟨N1, hne1⟩ := news_add S.F N st e1 n1
    refine h l lt lc ws ns nn h' tk' F' (fun p hp => ?_) hne1 hne2 ne hi hr
    rcases List.mem_cons.mp hp with rfl | hp
    · exact N1 _ (.head _)
    · exact N2 _ hp) hx
theorem useXL {f : Addr} {vs : List Value} {pre : Heap → Prop} {bad : Prop} {news : Led} {R : Option (List Int)}
    (C : SpecX w n f own vs pre (fun h r h' => ∃ lt ws ns nn, r = .ref lt ∧ h'.get? lt = some (listOf ws.toArray nn) ∧ h.get? lt = none ∧ IntsAre ws ns ∧ R = some ns ∧ ns.length ≤ 4096) bad)
    (S : Site n w mean mg mb dp un cs A₀ base h₀ outer L m s) (N : News h₀ L s.heap news) (ho : ∀ p ∈ own, p ∈ news) (hp : pre s.heap)
    (h : ∀ lt ws ns nn h' tk', Fr h₀ L h' m → News h₀ L h' ((lt, listOf ws.toArray nn) :: news) → (∀ p ∈ news, p.1 ≠ lt) → IntsAre ws ns → R = some ns → ns.length ≤ 4096 → Q (.ref lt) { s with heap := h', toks := tk' })
    (hx : ∀ e h' tk', bad → Flew s.heap (envX cn cs L a ccd cl :: outer) e h' → E (.ref e) { s with heap := h', toks := tk' }) :
    wpAny (model PR w) (ktrTop dp un gd cn cs L a ccd cl outer) (call (.ref f) vs) Q E s :=
  useX C S N ho hp (fun v h' tk' q st F' N' => by
    obtain ⟨lt, ws, ns, nn, rfl, e2, n2, hi, hr, hz⟩ := q
    obtain ⟨N2, hne2⟩ := news_add S.F N st e2 n2
    exact h lt ws ns nn h' tk' F' N2 hne2 hi hr hz) hx
theorem useXb {f : Addr} {vs : List Value} {pre : Heap → Prop} {bad : Prop} {news : Led} {R : List Int}
    (C : SpecX w n f own vs pre (fun _ r _ => ∃ B t, r = .bytes B t ∧ KBw.bInts B = R ∧ R.length ≤ 200000) bad)
    (S : Site n w mean mg mb dp un cs A₀ base h₀ outer L m s) (N : News h₀ L s.heap news) (ho : ∀ p ∈ own, p ∈ news) (hp : pre s.heap)
    (h : ∀ B t h' tk', KBw.bInts B = R → R.length ≤ 200000 → Fr h₀ L h' m → News h₀ L h' news → Q (.bytes B t) { s with heap := h', toks := tk' })
    (hx : ∀ e h' tk', bad → Flew s.heap (envX cn cs L a ccd cl :: outer) e h' → E (.ref e) { s with heap := h', toks := tk' }) :
    wpAny (model PR w) (ktrTop dp un gd cn cs L a ccd cl outer) (call (.ref f) vs) Q E s :=
  useX C S N ho hp (fun v h' tk' q st F' N' => by
    obtain ⟨B, t, rfl, e, e2⟩ := q
    exact h B t h' tk' e e2 F' N') hx
end
end
local macro_rules | `(tactic| walk_at "H20") => `(tactic| (k_here; (with_reducible show wpAny _ _ (call (Value.ref 190) _) _ _ _); k_dflt (refine' useXA (c_annot _ _ _ _) ?kS ?kN ?ko ?kp ?ka ?kb; walk_at "M_ASK"); walk_at "M_B9"))
section
local macro_rules | `(tactic| walk_at "-") => `(tactic| skip)
local macro_rules | `(tactic| walk_at "-") => `(tactic| skip)
local macro_rules | `(tactic| walk_at "-") => `(tactic| skip)
local macro_rules | `(tactic| walk_at "-") => `(tactic| skip)
local macro_rules | `(tactic| walk_at "-") => `(tactic| skip)
local macro_rules | `(tactic| walk_at "-") => `(tactic| skip)
local macro_rules | `(tactic| walk_at "-") => `(tactic| skip)
local macro_rules | `(tactic| walk_at "-") => `(tactic| skip)
local macro_rules | `(tactic| walk_at "-") => `(tactic| skip)
local macro_rules | `(tactic| walk_at "call ref") => `(tactic| first | walk_at "H20")
theorem bytes_low {b : Array UInt8} {os : List Int} (h : KBw.bInts b = os) : ∀ n ∈ os, 0 ≤ n := fun n hn => by
  rw [← h] at hn
  exact (KBw.ints_in hn).1
theorem c_dec (w : World) (b : Array UInt8) (os : List Int) (t : Tok) : SpecX w 18 198 [] [.bytes b t, .none] (fun _ => KBw.bInts b = os ∧ os.length ≤ 4096)
    (fun h r h' => ∃ lt ws ns nn, r = .ref lt ∧ h'.get? lt = some (listOf ws.toArray nn) ∧ h.get? lt = none ∧ IntsAre ws ns ∧ decF os = some ns ∧ ns.length ≤ 4096) (decF os = none) := by
  w_top off
  intro mean mg mb dp un gd cn cs a ccd cl outer A₀ base h₀ L m s Q E S N hpre hret hexc
  have hd9 := S.d
  have hu9 := S.u
  have XB1 := S.XB
  have TB1 := S.TB
  k_dflt (refine' enter S N ?k6 ?k7 ?k8 ?k9 ?kB ?_ ?c2 ?c3 ?c4 ?c5; (case k6 => k_is); (case k7 => k_is); (case k8 => ktr_room); (case k9 => (intro kX; first | exact BindsTo.of_eq rfl | exact binds_K kX rfl (by k_is) rfl rfl rfl)); (case c5 => decide); (case kB => exact locs rfl); (case c2 => exact rfl); (case c3 => exact rfl); (case c4 => exact rfl); k_whole)
  intro g L1 h1 F1 N1 B1 X1 T1 hin hup hlt hL1
  (try dsimp only)
  (try k_fold)
  have hb := hpre.1
  have hb2 := hpre.2
  k_steps
  · (refine Halt.go ?_; rename_i e9 h9 tk9 bad9 W9; rename Fr _ _ _ _ => kF9; rename News _ _ _ _ => kN9; (iterate 3 ((try k_unfold); (try dsimp only))); refine flew_on rfl rfl (stays_of N hup kF9.keep (fun p hp => (kN9 p (by first | exact hp | exact absurd hp (List.not_mem_nil) | exact .tail _ hp | exact .tail _ (.tail _ hp) | exact .tail _ (.tail _ (.tail _ hp)) | exact .tail _ (.tail _ (.tail _ (.tail _ hp))) | exact .tail _ (.tail _ (.tail _ (.tail _ (.tail _ hp)))) | exact .tail _ (.tail _ (.tail _ (.tail _ (.tail _ (.tail _ hp))))) | exact .tail _ (.tail _ (.tail _ (.tail _ (.tail _ (.tail _ (.tail _ hp)))))))).1)) hL1 W9 fun h' W' => hexc _ _ _ ?_ W')
    exact bad9
  · (rename Fr _ _ _ _ => kF9; rename News _ _ _ _ => kN9; (iterate 4 ((try dsimp only [KswPost, InvPostN, InvPost]); (try k_unfold))); (try dsimp only); refine hret _ _ _ (stays_of N hup kF9.keep (fun p hp => (kN9 p (by first | exact hp | exact absurd hp (List.not_mem_nil) | exact .tail _ hp | exact .tail _ (.tail _ hp) | exact .tail _ (.tail _ (.tail _ hp)) | exact .tail _ (.tail _ (.tail _ (.tail _ hp))) | exact .tail _ (.tail _ (.tail _ (.tail _ (.tail _ hp)))) | exact .tail _ (.tail _ (.tail _ (.tail _ (.tail _ (.tail _ hp))))) | exact .tail _ (.tail _ (.tail _ (.tail _ (.tail _ (.tail _ (.tail _ hp)))))))).1)) ?_; (try dsimp only); (try simp only [List.push_toArray] at kN9))
    exact ⟨_, _, _, _, rfl, (kN9 _ (.tail _ (.head _))).1, fresh_of hup kN9 (.tail _ (.head _)) allNe_nil, by assumption, by assumption, Nat.le_trans (decF_ok (by assumption) (bytes_low hb)).1 hb2⟩
end
local macro_rules | `(tactic| walk_at "H21") => `(tactic| (k_here; (with_reducible show wpAny _ _ (call (Value.ref 198) _) _ _ _); k_dflt (refine' useXL (c_dec _ _ _ _) ?kS ?kN ?ko ?kp ?ka ?kb; walk_at "M_ASK"); walk_at "M_B10"))
section
local macro_rules | `(tactic| walk_at "-") => `(tactic| skip)
local macro_rules | `(tactic| walk_at "-") => `(tactic| skip)
local macro_rules | `(tactic| walk_at "-") => `(tactic| skip)
local macro_rules | `(tactic| walk_at "-") => `(tactic| skip)
local macro_rules | `(tactic| walk_at "-") => `(tactic| skip)
local macro_rules | `(tactic| walk_at "-") => `(tactic| skip)
local macro_rules | `(tactic| walk_at "-") => `(tactic| skip)
local macro_rules | `(tactic| walk_at "-") => `(tactic| skip)
local macro_rules | `(tactic| walk_at "-") => `(tactic| skip)
local macro_rules | `(tactic| walk_at "call ref") => `(tactic| first | walk_at "H21" | walk_at "H20")
theorem c_dec1 (w : World) (b : Array UInt8) (os : List Int) (t : Tok) : SpecX w 18 198 [] [.bytes b t] (fun _ => KBw.bInts b = os ∧ os.length ≤ 4096)
    (fun h r h' => ∃ lt ws ns nn, r = .ref lt ∧ h'.get? lt = some (listOf ws.toArray nn) ∧ h.get? lt = none ∧ IntsAre ws ns ∧ decF os = some ns ∧ ns.length ≤ 4096) (decF os = none) := by
  w_top off
  intro mean mg mb dp un gd cn cs a ccd cl outer A₀ base h₀ L m s Q E S N hpre hret hexc
  have hd9 := S.d
  have hu9 := S.u
  have XB1 := S.XB
  have TB1 := S.TB
  k_dflt (refine' enter S N ?k6 ?k7 ?k8 ?k9 ?kB ?_ ?c2 ?c3 ?c4 ?c5; (case k6 => k_is); (case k7 => k_is); (case k8 => ktr_room); (case k9 => (intro kX; first | exact BindsTo.of_eq rfl | exact binds_K kX rfl (by k_is) rfl rfl rfl)); (case c5 => decide); (case kB => exact locs rfl); (case c2 => exact rfl); (case c3 => exact rfl); (case c4 => exact rfl); k_whole)
  intro g L1 h1 F1 N1 B1 X1 T1 hin hup hlt hL1
  (try dsimp only)
  (try k_fold)
  have hb := hpre.1
  have hb2 := hpre.2
  k_steps
  · (refine Halt.go ?_; rename_i e9 h9 tk9 bad9 W9; rename Fr _ _ _ _ => kF9; rename News _ _ _ _ => kN9; (iterate 3 ((try k_unfold); (try dsimp only))); refine flew_on rfl rfl (stays_of N hup kF9.keep (fun p hp => (kN9 p (by first | exact hp | exact absurd hp (List.not_mem_nil) | exact .tail _ hp | exact .tail _ (.tail _ hp) | exact .tail _ (.tail _ (.tail _ hp)) | exact .tail _ (.tail _ (.tail _ (.tail _ hp))) | exact .tail _ (.tail _ (.tail _ (.tail _ (.tail _ hp)))) | exact .tail _ (.tail _ (.tail _ (.tail _ (.tail _ (.tail _ hp))))) | exact .tail _ (.tail _ (.tail _ (.tail _ (.tail _ (.tail _ (.tail _ hp)))))))).1)) hL1 W9 fun h' W' => hexc _ _ _ ?_ W')
    exact bad9
  · (rename Fr _ _ _ _ => kF9; rename News _ _ _ _ => kN9; (iterate 4 ((try dsimp only [KswPost, InvPostN, InvPost]); (try k_unfold))); (try dsimp only); refine hret _ _ _ (stays_of N hup kF9.keep (fun p hp => (kN9 p (by first | exact hp | exact absurd hp (List.not_mem_nil) | exact .tail _ hp | exact .tail _ (.tail _ hp) | exact .tail _ (.tail _ (.tail _ hp)) | exact .tail _ (.tail _ (.tail _ (.tail _ hp))) | exact .tail _ (.tail _ (.tail _ (.tail _ (.tail _ hp)))) | exact .tail _ (.tail _ (.tail _ (.tail _ (.tail _ (.tail _ hp))))) | exact .tail _ (.tail _ (.tail _ (.tail _ (.tail _ (.tail _ (.tail _ hp)))))))).1)) ?_; (try dsimp only); (try simp only [List.push_toArray] at kN9))
    exact ⟨_, _, _, _, rfl, (kN9 _ (.tail _ (.head _))).1, fresh_of hup kN9 (.tail _ (.head _)) allNe_nil, by assumption, by assumption, Nat.le_trans (decF_ok (by assumption) (bytes_low hb)).1 hb2⟩
end
local macro_rules | `(tactic| walk_at "M_PREL") => `(tactic| ((try dsimp only); repeat' (first | exact True.intro | assumption | omega | (refine list_led ?lN ?lm; (case lN => k_asm); (case lm => k_mem)) | is_list | refine And.intro ?_ ?_)))
local macro_rules | `(tactic| walk_at "H22") => `(tactic| (k_here; (with_reducible show wpAny _ _ (call (Value.ref 198) _) _ _ _); k_dflt (refine' useXL (c_dec1 _ _ _ _) ?kS ?kN ?ko ?kp ?ka ?kb; walk_at "M_ASK"); walk_at "M_B10"))
section
local macro_rules | `(tactic| walk_at "-") => `(tactic| skip)
local macro_rules | `(tactic| walk_at "-") => `(tactic| skip)
local macro_rules | `(tactic| walk_at "-") => `(tactic| skip)
local macro_rules | `(tactic| walk_at "-") => `(tactic| skip)
local macro_rules | `(tactic| walk_at "-") => `(tactic| skip)
local macro_rules | `(tactic| walk_at "-") => `(tactic| skip)
local macro_rules | `(tactic| walk_at "-") => `(tactic| skip)
local macro_rules | `(tactic| walk_at "-") => `(tactic| skip)
local macro_rules | `(tactic| walk_at "call ref") => `(tactic| first | walk_at "H22" | walk_at "H21" | walk_at "H20")
def KeptBut (fs : List Addr) (h h' : Heap) : Prop := (∀ b o, h.get? b = some o → b ∉ fs → h'.get? b = some o) ∧ h.UpToSlots h'
abbrev SpecT (w : World) (n : Nat) (f : Addr) (own : Led) (vs : List Value) (pre : Heap → Prop) (post : Heap → Value → Heap → Prop) : Prop :=
  ∀ (mean : ExcName → Option Value) (mg mb : Str → Option Value) (dp un : Nat) (gd : Option (List Code)) (cn : Str) (cs : Scope) (a : Addr) (ccd : Value) (cl : List (Str × Addr)) (outer : List Env) (A₀ : Around) (base h₀ : Heap) (L : Addr) (m : Str → Option Value) (s : Shared) (Q E : Value → Shared → Prop),
    Site n w mean mg mb dp un cs A₀ base h₀ outer L m s → News h₀ L s.heap own → pre s.heap →
    (∀ v h' tk', KeptBut (frs (envX cn cs L a ccd cl :: outer)) s.heap h' → post s.heap v h' → Q v { s with heap := h', toks := tk' }) →
    wpAny (model PR w) (ktrTop dp un gd cn cs L a ccd cl outer) (call (.ref f) vs) Q E s
theorem kept_stays {fs : List Addr} {h h' : Heap} (st : h.StaysIn h') : KeptBut fs h h' := ⟨fun b o e _ => st b o e, Heap.UpToSlots.of_keeps st⟩
theorem kept_turn {fs : List Addr} {h g g' h' : Heap} (hup : ∀ b o, h.get? b = some o → (∀ p ∈ ([] : Led), p.1 ≠ b) → g.get? b = some o) (T : KtsTurn fs g g') (k : ∀ b o, g'.get? b = some o → h'.get? b = some o) : KeptBut fs h h' :=
  ⟨fun b o e nm => k b o (T.other b o (hup b o e allNe_nil) nm), fun b o e _ => by
    obtain ⟨sl, q⟩ := T.up (hup b o e allNe_nil)
    exact ⟨sl, k _ _ q⟩⟩
section
variable {n : Nat} {w : World} {mean : ExcName → Option Value} {mg mb : Str → Option Value} {dp un : Nat} {gd : Option (List Code)} {cn : Str} {cs : Scope} {a : Addr} {ccd : Value} {cl : List (Str × Addr)} {outer : List Env} {A₀ : Around} {base h₀ : Heap} {L : Addr} {m : Str → Option Value} {s : Shared} {Q E : Value → Shared → Prop} {own : Led}
theorem useT {f : Addr} {vs : List Value} {pre : Heap → Prop} {post : Heap → Value → Heap → Prop} {news : Led} (C : SpecT w n f own vs pre post) (S : Site n w mean mg mb dp un cs A₀ base h₀ outer L m s)
    (N : News h₀ L s.heap news) (ho : ∀ p ∈ own, p ∈ news) (hp : pre s.heap)
    (h : ∀ v h' g' tk', post s.heap v h' → KeptBut (frs (envX cn cs L a ccd cl :: outer)) s.heap h' → KtsTurn (frs outer) h₀ g' → Fr g' L h' m → News g' L h' news → Below A₀ base outer g' → (hd.heap_39 w.params).In g' → Top hd.view_39 LO mean mg mb g' → Q v { s with heap := h', toks := tk' }) :
    wpAny (model PR w) (ktrTop dp un gd cn cs L a ccd cl outer) (call (.ref f) vs) Q E s :=
  C mean mg mb dp un gd cn cs a ccd cl outer A₀ base h₀ L m s Q E S (fun p hp => N p (ho p hp)) hp fun v h' tk' kp q => by
    obtain ⟨g', T', F', K'⟩ := my_ground (env := envX cn cs L a ccd cl) S.B S.F rfl kp.1 (fun b o e => e) kp.2
    refine h v h' g' tk' q kp T' F' (fun p hp => ?_) K' (S.XB.keeps K'.stays) (S.TB.keeps K'.stays)
    refine ⟨kp.1 _ _ (N p hp).1 fun hm => ?_, (N p hp).2.1, T'.none_ _ (N p hp).2.2⟩
    rcases mem_frs (env := envX cn cs L a ccd cl) rfl hm with z | z
    · exact (N p hp).2.1 z
    · obtain ⟨_, o', ho', _⟩ := S.B.frames.mem z
      rw [(N p hp).2.2] at ho'; cases ho'
theorem useT0 {f : Addr} {vs : List Value} {pre : Heap → Prop} {post : Heap → Value → Heap → Prop} {news : Led} (C : SpecT w n f own vs pre post) (S : Site n w mean mg mb dp un cs A₀ base h₀ [] L m s)
    (N : News h₀ L s.heap news) (ho : ∀ p ∈ own, p ∈ news) (hp : pre s.heap)
    (h : ∀ v h' tk', post s.heap v h' → KeptBut (frs [envX cn cs L a ccd cl]) s.heap h' → Fr h₀ L h' m → News h₀ L h' news → Q v { s with heap := h', toks := tk' }) :
    wpAny (model PR w) (ktrTop dp un gd cn cs L a ccd cl []) (call (.ref f) vs) Q E s :=
  useT C S N ho hp fun v h' g' tk' q kp T F' N' _ _ _ => h v h' tk' q kp ⟨F'.ns, fun b o e => F'.keep b o (T.other b o e List.not_mem_nil), by have := F'.above; rw [T.size] at this; exact this⟩
    fun p hp => ⟨(N' p hp).1, (N' p hp).2.1, (N p hp).2.2⟩
end
theorem bytes_rng {b : Array UInt8} {os : List Int} (h : KBw.bInts b = os) : ∀ n ∈ os, 0 ≤ n ∧ n < 256 := fun n hn => by
  rw [← h] at hn
  exact KBw.ints_in hn
theorem c_read (w : World) (b : Array UInt8) (os : List Int) (t : Tok) : SpecT w 20 259 [] [.bytes b t] (fun _ => KBw.bInts b = os ∧ os.length ≤ 4096)
    (fun h r h' => (decF os = none ∧ r = .none) ∨ ∃ lt ws ns nn, r = .ref lt ∧ h'.get? lt = some (listOf ws.toArray nn) ∧ h.get? lt = none ∧ IntsAre ws ns ∧ decF os = some ns) := by
  w_top off
  intro mean mg mb dp un gd cn cs a ccd cl outer A₀ base h₀ L m s Q E S N hpre hret
  have hd9 := S.d
  have hu9 := S.u
  have XB1 := S.XB
  have TB1 := S.TB
  k_dflt (refine' enter S N ?k6 ?k7 ?k8 ?k9 ?kB ?_ ?c2 ?c3 ?c4 ?c5; (case k6 => k_is); (case k7 => k_is); (case k8 => ktr_room); (case k9 => (intro kX; first | exact BindsTo.of_eq rfl | exact binds_K kX rfl (by k_is) rfl rfl rfl)); (case c5 => decide); (case kB => exact locs rfl); (case c2 => exact rfl); (case c3 => exact rfl); (case c4 => exact rfl); k_whole)
  intro g L1 h1 F1 N1 B1 X1 T1 hin hup hlt hL1
  (try dsimp only)
  (try k_fold)
  have hb := hpre.1
  have hb2 := hpre.2
  k_steps
  · refine Halt.go ?_
    rename Fr _ _ _ _ => kF; rename News _ _ _ _ => kN
    refine caught0 (by assumption) kF kN B1 XB1 TB1 (by k_is) ?_
    clear kF kN
    intro h9 g9 T9 kF kN kB kX kT
    (try k_fold)
    k_steps
    (rename Fr _ _ _ _ => kF9; rename News _ _ _ _ => kN9; (try rename KtsTurn _ _ _ => kT9); (iterate 4 ((try dsimp only [KswPost, InvPostN, InvPost]); (try k_unfold))); (try dsimp only); refine hret _ _ _ (kept_turn hup kT9 kF9.keep) ?_; (try dsimp only); (try simp only [List.push_toArray] at kN9))
    exact .inl ⟨by assumption, rfl⟩
  · rename IntsAre _ _ => hi9
    rename decF _ = some _ => ok9
    have hok := decF_ok ok9 (bytes_low hb)
    have hlen := hi9.length
    have hz := hok.1
    (try k_fold)
    k_steps
    (rename Fr _ _ _ _ => kF9; rename News _ _ _ _ => kN9; (iterate 4 ((try dsimp only [KswPost, InvPostN, InvPost]); (try k_unfold))); (try dsimp only); refine hret _ _ _ (kept_stays (stays_of N hup kF9.keep (fun p hp => (kN9 p (by first | exact hp | exact absurd hp (List.not_mem_nil) | exact .tail _ hp | exact .tail _ (.tail _ hp) | exact .tail _ (.tail _ (.tail _ hp)) | exact .tail _ (.tail _ (.tail _ (.tail _ hp))) | exact .tail _ (.tail _ (.tail _ (.tail _ (.tail _ hp)))) | exact .tail _ (.tail _ (.tail _ (.tail _ (.tail _ (.tail _ hp))))) | exact .tail _ (.tail _ (.tail _ (.tail _ (.tail _ (.tail _ (.tail _ hp)))))))).1))) ?_; (try dsimp only); (try simp only [List.push_toArray] at kN9))
    exact .inr ⟨_, _, _, _, rfl, (kN9 _ (.head _)).1, fresh_of hup kN9 (.head _) allNe_nil, hi9, ok9⟩
end
section
section
theorem ints_of_at : ∀ {vs : List Value} {os : List Int}, vs.length = os.length → (∀ (j : Nat) v n, vs[j]? = some v → os[j]? = some n → ∃ u, v = .int n u) → IntsAre vs os
  | [], [], _, _ => .nil
  | [], _ :: _, h, _ => by cases h
  | _ :: _, [], h, _ => by cases h
  | v :: vs, n :: os, h, k => by
    obtain ⟨u, rfl⟩ := k 0 v n rfl rfl
    exact .cons _ _ (ints_of_at (Nat.succ.inj h) fun j v' n' e1 e2 => k (j + 1) v' n' e1 e2)
theorem ints_paired {d : Int → Int} : ∀ {vs ys : List Value} {os : List Int}, IntsAre vs os → Paired (fun v y => ∃ n u t, v = Value.int n u ∧ y = Value.int (d n) t) vs ys → IntsAre ys (os.map d)
  | _, _, _, .nil, .nil => .nil
  | _, _, _, .cons n t r, .cons h p => by
    obtain ⟨n', u, t', e, rfl⟩ := h
    cases e
    exact .cons _ _ (ints_paired r p)
variable {prog : Program} {w : World} {A : Around} {E : Value → Shared → Prop} {s : Shared} {env : Env} {h₀ : Heap} {L : Addr} {m : Str → Option Value}
theorem own_name {M : Model} {s : Shared} {g₁ : Heap} {C : Addr} {m₂ : Str → Option Value} {scope : Scope} {cl : List (Str × Addr)} {x : Str} {pos : Pos} {v : Value} {Q : Value → Shared → Prop} (F : Fr g₁ C s.heap m₂) (hx : m₂ x = some v) (h : Q v s)
    (hk : (compEnvC scope cl C env).scope.kind = .function := by rfl) (hl : (compEnvC scope cl C env).kindOf x = some .local := by rfl) (hd : (x == ("__debug__" : Str)) = false := by decide) :
    wpAny M A (eval (.Name x pos) (compEnvC scope cl C env)) Q E s := ldVarK F.ns hx h hk hl hd
theorem comp_bytes {elt iter : Expr} {x : Str} {px : Pos} {scope : Scope} {cl : List (Str × Addr)} {pos : Pos} {Q : Value → Shared → Prop} (d : Int → Int) (kF0 : Fr h₀ L s.heap m)
    (hclos : closureFor scope env = pure cl) (hcell : ∀ y ∈ scope.names, y.2 ≠ .cell) (hkind : scope.kind = .function)
    (hnames : ∀ y ∈ scope.names, y.2 = .local → scope.names.lookup y.1 = some .local) (hx : scope.names.lookup x = some .local) (hh : A.handled = none)
    (h : ∀ Z : Value → Shared → Prop, (∀ b tb os news s₁, KBw.bInts b = os → os.length ≤ 200000 → Fr h₀ L s₁.heap m → News h₀ L s₁.heap news →
      (∀ C n u m₂ E' s₂ (Y : Value → Shared → Prop), n ∈ os → Fr s₁.heap C s₂.heap m₂ → m₂ x = some (.int n u) → Fr h₀ L s₂.heap m → News h₀ L s₂.heap news →
        (∀ v h' tk', s₂.heap.StaysIn h' → (∃ t, v = .int (d n) t) → Y v { s₂ with heap := h', toks := tk' }) → wpAny (model prog w) A (eval elt (compEnvC scope cl C env)) Y E' s₂) →
      (∀ D ys n' h' tk, Fr h₀ L h' m → News h₀ L h' ((D, PySem.W.listOf ys.toArray n') :: news) → (∀ p ∈ news, p.1 ≠ D) → IntsAre ys (os.map d) → Q (.ref D) { s₁ with heap := h', toks := tk }) → Z (.bytes b tb) s₁) → wpAny (model prog w) A (eval iter env) Z E s)
    (hs : ∀ x, foldedSetIterable iter env x = pure x := by intro _; rfl) :
    wpAny (model prog w) A (eval (.ListComp elt [⟨.Name x px, iter, [], 0⟩] scope pos) env) Q E s := by
  refine wpAny_ListComp_free (fun _ => true) (fun v y => ∃ n u t, v = Value.int n u ∧ y = Value.int (d n) t) hclos hcell hkind hnames hx (h _ ?_) hs
  intro b tb os news s₁ hb hsz F N helt hQ
  have hbz : b.size = os.length := by rw [← hb]; exact (KBw.ints_length b).symm
  refine KBw.pyIter_bytes ?_
  have up : ∀ (h' : Heap), (∀ b' o, b' ∉ [s₁.heap.objs.size] → (s₁.heap.push { cls := .type "bytes_iterator", data := .fields #[.bytes b tb, .int 0 0] }).get? b' = some o → h'.get? b' = some o) → ∀ b' o, s₁.heap.get? b' = some o → h'.get? b' = some o :=
    fun h' hk b' o e => hk b' o (fun hm => absurd (Heap.lt_size e) ((List.mem_singleton.mp hm) ▸ Nat.lt_irrefl _)) (Heap.get?_push_of_some _ e)
  refine ⟨s₁.heap.objs.size, [s₁.heap.objs.size], [s₁.heap.objs.size], b.size, _, _, rfl, KBw.walks hh s₁.heap.objs.size b tb, by rw [hbz, sizeLine_eq]; omega, ⟨_, Heap.get?_push_size _ rfl, rfl, rfl⟩, ?_, ⟨?_, ?_⟩, ?_⟩
  · intro b' hb'
    rw [List.mem_singleton.mp hb', Heap.size_push]
    exact Nat.lt_succ_self _
  · intro C i v s₃ m₃ E' hC hP hn hm hk htk
    exact wpAny_tests_nil ⟨rfl, _, _, rfl, fun _ _ e => e⟩
  · intro C i v s₃ m₃ E' hC hP hp hn hm hk htk
    obtain ⟨c, u, hc, rfl⟩ := hP
    have st := up s₃.heap hk
    have hmem : (c.toNat : Int) ∈ os := by
      have := KBw.ints_get hc
      rw [hb] at this
      exact List.mem_of_getElem? this
    refine helt C _ u m₃ E' s₃ _ hmem (frInComp hn st (Nat.le_of_succ_le (by simpa [Heap.size_push] using hC))) hm (F.keeps st) (N.grown st) fun v h' tk' k e => ?_
    obtain ⟨t, rfl⟩ := e
    exact ⟨⟨_, _, _, rfl, rfl⟩, _, _, rfl, k⟩
  · intro D h' tk ys vs hnew hl hpl hlen hP hF hk
    have hi : IntsAre vs os := ints_of_at (by rw [hlen, hbz]) fun j v n e1 e2 => by
      obtain ⟨c, u, hc, rfl⟩ := hP j v e1
      have := KBw.ints_get hc
      rw [hb, e2] at this
      rw [Option.some.inj this]
      exact ⟨u, rfl⟩
    have hf : vs.filter (fun _ => true) = vs := filter_allG vs
    rw [hf] at hF
    have hold : s₁.heap.get? D = none := by
      cases q : s₁.heap.get? D with
      | none => rfl
      | some o => rw [Heap.get?_push_of_some _ q] at hnew; cases hnew
    obtain ⟨n', hpl⟩ := hpl
    have F' := F.keeps (up h' hk)
    refine hQ D ys.toList n' h' tk F' (fun p hp => ?_) (fun p hp q => by have := (N p hp).1; rw [q, hold] at this; cases this) (ints_paired hi hF)
    rcases List.mem_cons.mp hp with rfl | hp
    · refine ⟨by rw [Array.toArray_toList]; exact hpl, fun q => ?_, ?_⟩
      · obtain ⟨o, _, _, hL, _⟩ := F.ns
        rw [← q, hold] at hL; cases hL
      · cases q : h₀.get? D with
        | none => rfl
        | some o => have := F.keep _ _ q; rw [hold] at this; cases this
    · exact N.grown (up h' hk) p hp
end
section
variable {n : Nat} {w : World} {mean : ExcName → Option Value} {mg mb : Str → Option Value} {dp un : Nat} {gd : Option (List Code)} {cn : Str} {cs : Scope} {a : Addr} {ccd : Value} {cl : List (Str × Addr)} {outer : List Env} {A₀ : Around} {base h₀ : Heap} {L : Addr} {m : Str → Option Value} {s : Shared} {Q E : Value → Shared → Prop} {own : Led}
theorem useY {f : Addr} {vs : List Value} {pre : Heap → Prop} {news : Led} {R : List Int}
    (C : Spec w n f own vs pre (fun _ r _ => ∃ B t, r = .bytes B t ∧ KBw.bInts B = R ∧ R.length ≤ 200000))
    (S : Site n w mean mg mb dp un cs A₀ base h₀ outer L m s) (N : News h₀ L s.heap news) (ho : ∀ p ∈ own, p ∈ news) (hp : pre s.heap)
    (h : ∀ B t h' tk', KBw.bInts B = R → R.length ≤ 200000 → Fr h₀ L h' m → News h₀ L h' news → Q (.bytes B t) { s with heap := h', toks := tk' }) :
    wpAny (model PR w) (ktrTop dp un gd cn cs L a ccd cl outer) (call (.ref f) vs) Q E s :=
  use C S N ho hp (fun v h' tk' q st F' N' => by
    obtain ⟨B, t, rfl, e, e2⟩ := q
    exact h B t h' tk' e e2 F' N')
end
end
section
local macro_rules | `(tactic| walk_at "-") => `(tactic| skip)
section
variable {prog : Program} {w : World} {A : Around} {E : Value → Shared → Prop} {s : Shared}
theorem bb_slot : typeLookup (.type "bytes") "__bytes__" = pure (some (.builtin "bytes.__bytes__")) := by rw [typeLookup_type, builtinLookup_eq_fast]; kernel_rfl
theorem bb_new {b : Array UInt8} {t : Tok} {Q : Value → Shared → Prop} (hQ : Q (.bytes b t) s) :
    codeAny (model prog w) A (.call (.builtin "bytes.__new__") ⟨[.type "bytes", .bytes b t], []⟩) (wants Q E) s := by
  refine codeAny_of_tree ?_
  show wpAny _ A.in1 (do checkBuiltinCall "bytes.__new__" ⟨[.type "bytes", .bytes b t], []⟩; again (.builtin "bytes.__new__" ⟨[.type "bytes", .bytes b t], []⟩)) _ _ s
  refine wpAny_bind (wpAny_of_eq (F.bm_newCall _) (wpAny_pure ⟨plainId_quiet F.bm_plain _, codeAny_builtin F.bm_entry ?_⟩))
  rw [Around.under_plainId F.bm_plain _]
  unfold Builtin.«bytes.__new__»
  refine wpAny_bind (wpAny_of_eq (a := true) rfl ?_)
  refine bm_if_false rfl ?_
  refine wpAny_bind (wpAny_of_eq F.bm_sub ?_)
  refine bm_if_false rfl ?_
  refine wpAny_bind (wpAny_of_eq (F.bm_bind _) ?_)
  refine wpAny_bind (wpAny_of_eq (a := ()) rfl ?_)
  refine wpAny_bind (wpAny_of_eq (a := ()) rfl ?_)
  refine bm_if_false rfl ?_
  refine wpAny_bind (wpAny_specialOf (PySem.W.typeIs_bytes s b t) bb_slot ?_)
  dsimp only
  first | refine wpAny_bind (wpAny_rule ?_) | refine wpAny_bind (wpAny_of_eq (a := ()) rfl ?_)
  refine wpAny_bind (wpAny_of_eq (a := Value.type "bytes") rfl ?_)
  refine bm_if_true (by decide) ?_
  refine wpAny_of_eq (a := .done (.ret (.bytes b t))) (by first | rfl | kernel_rfl | with_unfolding_all rfl) ?_
  exact hQ
theorem call_bytes_bytes {b : Array UInt8} {t : Tok} {Q : Value → Shared → Prop} (hQ : Q (.bytes b t) s) : wpAny (model prog w) A (call (.type "bytes") [.bytes b t]) Q E s := by
  refine callType_codes (Q₁ := fun obj s₁ => s₁.TypeIs obj "bytes" ∧ Q obj s₁) F.bm_called (F.bm_typeCall _) F.entry_object_init
    (bb_new ⟨PySem.W.typeIs_bytes _ _ _, hQ⟩) fun obj s₁ h₁ => ?_
  exact ⟨h₁.1, F.args_object_init_2 obj _, object_init_meets F.bm_called.init.lookup F.bm_called.made (by decide) prog w A.in1 _ s₁ ⟨h₁.1, rfl, h₁.2⟩⟩
end
local macro_rules | `(tactic| walk_at "call type:bytes") => `(tactic| ((with_reducible show wpAny _ _ (call (Value.type "bytes") [Value.bytes _ _]) _ _ _); refine call_bytes_bytes ?_))
end
section
local macro_rules | `(tactic| walk_at "-") => `(tactic| skip)
local macro_rules | `(tactic| walk_at "-") => `(tactic| skip)
structure DkS where
  vs : List Value
  ns : List Int
  n : Nat
  od : Obj
  mx : Int
  mt : Tok
  tu : Int
  tt : Tok
def DkOk (w : World) (lc : Addr) (c : DkS) : Prop :=
  Obj.IsDictOf (strKind PR w) c.od [(Str.ofString "cells", Value.ref lc), (Str.ofString "mixed", .int c.mx c.mt), (Str.ofString "turn", .int c.tu c.tt)] ∧ IntsAre c.vs c.ns ∧ c.ns.length ≤ 16
structure MixS where
  x : Int
  t : Tok
theorem c_deck (w : World) (l : Addr) (vs : List Value) (ns : List Int) : Spec w 4 225 [] [.ref l] (fun h => h.IsList l vs.toArray ∧ IntsAre vs ns ∧ ns.length ≤ 63) (fun h v h' => ∃ dk lc c, v = .ref dk ∧ h'.get? dk = some c.od ∧ h'.get? lc = some (PySem.W.listOf c.vs.toArray c.n) ∧ h.get? dk = none ∧ h.get? lc = none ∧ @Ne Nat dk lc ∧ DkOk w lc c ∧ c.tu = 0) := by
  w_top off
  intro mean mg mb dp un gd cn cs a ccd cl outer A₀ base h₀ L m s Q E S N hpre hret
  have hd9 := S.d
  have hu9 := S.u
  have XB1 := S.XB
  have TB1 := S.TB
  k_dflt (refine' enter S N ?k6 ?k7 ?k8 ?k9 ?kB ?_ ?c2 ?c3 ?c4 ?c5; (case k6 => k_is); (case k7 => k_is); (case k8 => ktr_room); (case k9 => (intro kX; first | exact BindsTo.of_eq rfl | exact binds_K kX rfl (by k_is) rfl rfl rfl)); (case c5 => decide); (case kB => exact locs rfl); (case c2 => exact rfl); (case c3 => exact rfl); (case c4 => exact rfl); k_whole)
  intro g L1 h1 F1 N1 B1 X1 T1 hin hup hlt hL1
  (try dsimp only)
  (try k_fold)
  have hl : g.IsList l vs.toArray := isList_up hup hpre.1 allNe_nil
  have hi := hpre.2.1
  have hsz := hpre.2.2
  have hlen := hi.length
  k_steps
  refine Halt.go ?_
  rename Fr _ _ _ _ => kF; rename News _ _ _ _ => kN
  rename_i DC _ _ _ _ _ _ _ _ _
  refine kst_listL (σ := MixS) (fun c => [(DC, PySem.W.listOf ys.toArray ys.length)]) (fun c => [(Str.ofString "mixed", .int c.x c.t)]) (fun _ => True) [] (fun pre c => True) ⟨_, _⟩ rfl (fun _ => .head _) (by assumption) kF (kst_newsOf kN (by kst_in)) trivial (by kst_all) trivial ?_ ?_
  · clear kF kN
    rintro ⟨x, xt⟩ pre post n t u9 h9 tk9 own9 eP hm9 hoff _ _ kF kN
    dsimp only [kstB] at kF kN
    dsimp only [List.map] at hoff
    simp only [List.cons_append, List.nil_append] at kN
    (try k_fold)
    k_steps
    (try dsimp only [InvPostN]); rename Fr _ _ _ _ => kF9; rename News _ _ _ _ => kN9; (try simp only [List.push_toArray] at kN9)
    exact kst_end (⟨_, _⟩ : MixS) kF9 kN9 (by kst_in) (by (intro p hp; k_ownIn)) rfl trivial (by kst_all) (by (intro z hx h2 h3; (try simp only [List.forall_mem_cons, List.not_mem_nil, false_implies, implies_true, and_true, ne_eq] at h2); (try simp only [List.contains_cons, List.contains_nil, Bool.or_false, Bool.or_eq_false_iff, beq_eq_false_iff_ne, ne_eq] at h3); (simp [hx, h2, h3, kstB]))) trivial
  · clear kF kN
    rintro ⟨x, xt⟩ u9 h9 tk9 _ _ kF kN
    dsimp only [kstB] at kF kN
    (try k_fold)
    k_steps
    (rename Fr _ _ _ _ => kF9; rename News _ _ _ _ => kN9; (iterate 4 ((try dsimp only [KswPost, InvPostN, InvPost]); (try k_unfold))); (try dsimp only); refine hret _ _ _ (stays_of N hup kF9.keep (fun p hp => (kN9 p (by first | exact hp | exact absurd hp (List.not_mem_nil) | exact .tail _ hp | exact .tail _ (.tail _ hp) | exact .tail _ (.tail _ (.tail _ hp)) | exact .tail _ (.tail _ (.tail _ (.tail _ hp))) | exact .tail _ (.tail _ (.tail _ (.tail _ (.tail _ hp)))) | exact .tail _ (.tail _ (.tail _ (.tail _ (.tail _ (.tail _ hp))))) | exact .tail _ (.tail _ (.tail _ (.tail _ (.tail _ (.tail _ (.tail _ hp)))))))).1)) ?_; (try dsimp only); (try simp only [List.push_toArray] at kN9))
    rename IntsAre _ (List.reverse _) => hrv
    have hrl : (List.map (fun k' => k') (List.take 16 ns)).reverse.length ≤ 16 := by simp; omega
    refine ⟨_, _, ⟨_, _, 0, _, _, _, _, _⟩, rfl, (kN9 _ (.tail _ (.head _))).1, (kN9 _ (.head _)).1, fresh_of hup kN9 (.tail _ (.head _)) allNe_nil, fresh_of hup kN9 (.head _) allNe_nil, ?_, ⟨by assumption, hrv, hrl⟩, rfl⟩
    omega
end
section
local macro_rules | `(tactic| walk_at "-") => `(tactic| skip)
local macro_rules | `(tactic| walk_at "-") => `(tactic| skip)
local macro_rules | `(tactic| walk_at "call ref") => `(tactic| first | walk_at "H22" | walk_at "H21" | walk_at "H20")
abbrev DeckL (dk lc : Addr) (c : DkS) : Led := [(dk, c.od), (lc, PySem.W.listOf c.vs.toArray c.n)]
/-- a def that draws from the deck: the deck's two objects change, all else stays -/
abbrev SpecD (w : World) (n : Nat) (f : Addr) (dk lc : Addr) (c : DkS) (vs : List Value) (pre : Heap → Prop) (post : Heap → Value → Heap → Prop) : Prop :=
  ∀ (mean : ExcName → Option Value) (mg mb : Str → Option Value) (dp un : Nat) (gd : Option (List Code)) (cn : Str) (cs : Scope) (a : Addr) (ccd : Value) (cl : List (Str × Addr)) (outer : List Env) (A₀ : Around) (base h₀ : Heap) (L : Addr) (m : Str → Option Value) (s : Shared) (Q E : Value → Shared → Prop),
    Site n w mean mg mb dp un cs A₀ base h₀ outer L m s → News h₀ L s.heap (DeckL dk lc c) → (DkOk w lc c ∧ @Ne Nat dk lc ∧ pre s.heap) →
    (∀ v h' tk' c', (∀ b o, s.heap.get? b = some o → b ≠ dk → b ≠ lc → h'.get? b = some o) → h'.get? dk = some c'.od → h'.get? lc = some (PySem.W.listOf c'.vs.toArray c'.n) → DkOk w lc c' → c'.tu = c.tu + 1 → post s.heap v h' → Q v { s with heap := h', toks := tk' }) →
    wpAny (model PR w) (ktrTop dp un gd cn cs L a ccd cl outer) (call (.ref f) vs) Q E s
theorem fmod_rng {x b : Int} (h : 1 ≤ b) : 0 ≤ x.fmod b ∧ x.fmod b < b := ⟨Int.fmod_nonneg_of_pos x (by omega), Int.fmod_lt_of_pos x (by omega)⟩
local macro_rules | `(tactic| walk_at "compareOp NotEq ref ref") => `(tactic| (k_here; (try k_fold); (with_reducible show wpAny _ _ (compareOp CmpOp.NotEq (Value.ref _) (Value.ref _)) _ _ _); k_dflt (refine' ke_ne_ints ?a ?b ?c ?d ?e ?_; (case a => (refine list_led ?lN ?lm; (case lN => k_asm); (case lm => k_mem))); (case b => (refine list_led ?lN ?lm; (case lN => k_asm); (case lm => k_mem))); (case c => first | exact IntsAre.nil | assumption); (case d => first | exact IntsAre.nil | assumption); (case e => ktr_units)); k_whole; (try ke_norm)))
local macro_rules | `(tactic| walk_at "compareOp Eq ref ref") => `(tactic| (k_here; (try k_fold); (with_reducible show wpAny _ _ (compareOp CmpOp.Eq (Value.ref _) (Value.ref _)) _ _ _); k_dflt (refine' ke_eq_ints ?a ?b ?c ?d ?e ?_; (case a => (refine list_led ?lN ?lm; (case lN => k_asm); (case lm => k_mem))); (case b => (refine list_led ?lN ?lm; (case lN => k_asm); (case lm => k_mem))); (case c => first | exact IntsAre.nil | assumption); (case d => first | exact IntsAre.nil | assumption); (case e => ktr_units)); k_whole; (try ke_norm)))
theorem q9 (b dk lc : Addr) {o1 o2 : Obj} (p : Addr × Obj) (hp : p ∈ [(dk, o1), (lc, o2)]) (q1 : b ≠ dk) (q2 : b ≠ lc) : p.1 ≠ b := by
  rcases List.mem_cons.mp hp with rfl | hp
  · exact fun z => q1 z.symm
  · rw [List.mem_singleton.mp hp]; exact fun z => q2 z.symm
theorem c_draw (w : World) (dk lc : Addr) (c : DkS) (below : Int) (t : Tok) : SpecD w 8 232 dk lc c [.ref dk, .int below t] (fun _ => 1 ≤ below ∧ below ≤ 1000 ∧ 0 ≤ c.tu ∧ c.tu ≤ 100000) (fun _ v _ => ∃ r t, v = .int r t ∧ 0 ≤ r ∧ r < below) := by
  obtain ⟨vs, ns, n, od, mx, mt, tu, tt⟩ := c
  w_top off
  intro mean mg mb dp un gd cn cs a ccd cl outer A₀ base h₀ L m s Q E S N hpre hret
  have hd9 := S.d
  have hu9 := S.u
  have XB1 := S.XB
  have TB1 := S.TB
  k_dflt (refine' enter S N ?k6 ?k7 ?k8 ?k9 ?kB ?_ ?c2 ?c3 ?c4 ?c5; (case k6 => k_is); (case k7 => k_is); (case k8 => ktr_room); (case k9 => (intro kX; first | exact BindsTo.of_eq rfl | exact binds_K kX rfl (by k_is) rfl rfl rfl)); (case c5 => decide); (case kB => exact locs rfl); (case c2 => exact rfl); (case c3 => exact rfl); (case c4 => exact rfl); k_whole)
  intro g L1 h1 F1 N1 B1 X1 T1 hin hup hlt hL1
  (try dsimp only)
  (try k_fold)
  obtain ⟨⟨hd1, hi, hsz⟩, hne, hb1, hb2, ht1, ht2⟩ := hpre
  dsimp only at hd1 hi hsz ht1 ht2
  change News g L1 h1 [(dk, od), (lc, PySem.W.listOf vs.toArray n)] at N1
  have hlen := hi.length
  k_steps
  · (rename Fr _ _ _ _ => kF9; rename News _ _ _ _ => kN9; (try simp only [List.push_toArray] at kN9); (iterate 3 ((try k_unfold); (try dsimp only))); refine hret _ _ _ (⟨vs, ns, n, _, mx, mt, tu + 1, _⟩ : DkS) (fun b o e q1 q2 => kF9.keep b o (hup b o e fun p hp => ?_)) (kN9 _ (.tail _ (.head _))).1 (kN9 _ (.tail _ (.tail _ (.head _)))).1 ⟨by assumption, hi, hsz⟩ rfl ⟨_, _, rfl, fmod_rng hb1⟩)
    exact q9 b dk lc p hp q1 q2
  · rename decide (ns = []) = false => hn2
    have hnl : ns ≠ [] := of_decide_eq_false hn2
    have hpos : 0 < ns.length := List.length_pos_iff.mpr hnl
    have hzz : vs.length ≤ 16 := by omega
    have hdl : vs.dropLast.length ≤ 15 := by rw [List.length_dropLast]; omega
    have hdm : ns.dropLast.length ≤ 15 := by rw [List.length_dropLast]; omega
    (try k_fold)
    k_steps
    all_goals (try dsimp only)
    · rename IntsAre vs.dropLast _ => hI9
      (rename Fr _ _ _ _ => kF9; rename News _ _ _ _ => kN9; (try simp only [List.push_toArray] at kN9); (iterate 3 ((try k_unfold); (try dsimp only))); refine hret _ _ _ (⟨vs.dropLast ++ [.int ((ns.getLastD 0).fdiv below) _], ns.dropLast ++ [(ns.getLastD 0).fdiv below], n + 2, _, mx, mt, tu + 1, _⟩ : DkS) (fun b o e q1 q2 => kF9.keep b o (hup b o e fun p hp => ?_)) (kN9 _ (.tail _ (.head _))).1 (kN9 _ (.tail _ (.tail _ (.head _)))).1 ⟨by assumption, hI9.append (.cons _ _ .nil), by simp; omega⟩ rfl ⟨_, _, rfl, fmod_rng hb1⟩)
      exact q9 b dk lc p hp q1 q2
    · rename IntsAre vs.dropLast _ => hI9
      (rename Fr _ _ _ _ => kF9; rename News _ _ _ _ => kN9; (try simp only [List.push_toArray] at kN9); (iterate 3 ((try k_unfold); (try dsimp only))); refine hret _ _ _ (⟨vs.dropLast, ns.dropLast, n + 1, _, mx, mt, tu + 1, _⟩ : DkS) (fun b o e q1 q2 => kF9.keep b o (hup b o e fun p hp => ?_)) (kN9 _ (.tail _ (.head _))).1 (kN9 _ (.tail _ (.tail _ (.head _)))).1 ⟨by assumption, hI9, by dsimp only; omega⟩ rfl ⟨_, _, rfl, fmod_rng hb1⟩)
      exact q9 b dk lc p hp q1 q2
end
section
local macro_rules | `(tactic| walk_at "-") => `(tactic| skip)
local macro_rules | `(tactic| walk_at "-") => `(tactic| skip)
local macro_rules | `(tactic| walk_at "-") => `(tactic| skip)
local macro_rules | `(tactic| walk_at "-") => `(tactic| skip)
local macro_rules | `(tactic| walk_at "-") => `(tactic| skip)
local macro_rules | `(tactic| walk_at "-") => `(tactic| skip)
section
variable {n : Nat} {w : World} {mean : ExcName → Option Value} {mg mb : Str → Option Value} {dp un : Nat} {gd : Option (List Code)} {cn : Str} {cs : Scope} {a : Addr} {ccd : Value} {cl : List (Str × Addr)} {outer : List Env} {A₀ : Around} {base h₀ : Heap} {L : Addr} {m : Str → Option Value} {s : Shared} {Q E : Value → Shared → Prop} {own : Led}
theorem useD {f dk lc : Addr} {c : DkS} {vs : List Value} {pre : Heap → Prop} {post : Heap → Value → Heap → Prop} {rest : Led} (C : SpecD w n f dk lc c vs pre post) (S : Site n w mean mg mb dp un cs A₀ base h₀ outer L m s)
    (N : News h₀ L s.heap ((dk, c.od) :: (lc, PySem.W.listOf c.vs.toArray c.n) :: rest)) (hr : ∀ p ∈ rest, p.1 ≠ dk ∧ p.1 ≠ lc) (ok : DkOk w lc c) (hne : @Ne Nat dk lc) (hp : pre s.heap)
    (h : ∀ v h' tk' c', Fr h₀ L h' m → News h₀ L h' ((dk, c'.od) :: (lc, PySem.W.listOf c'.vs.toArray c'.n) :: rest) → DkOk w lc c' → c'.tu = c.tu + 1 → post s.heap v h' → Q v { s with heap := h', toks := tk' }) :
    wpAny (model PR w) (ktrTop dp un gd cn cs L a ccd cl outer) (call (.ref f) vs) Q E s := by
  have n1 := N _ (.head _)
  have n2 := N _ (.tail _ (.head _))
  refine C mean mg mb dp un gd cn cs a ccd cl outer A₀ base h₀ L m s Q E S (fun p hp => N p ?_) ⟨ok, hne, hp⟩ fun v h' tk' c' keep e1 e2 ok' ht q => ?_
  · rcases List.mem_cons.mp hp with rfl | hp
    · exact .head _
    · rw [List.mem_singleton.mp hp]; exact .tail _ (.head _)
  · refine h v h' tk' c' ⟨S.F.ns.at' fun o e => keep _ o e (Ne.symm n1.2.1) (Ne.symm n2.2.1), fun b o e => keep b o (S.F.keep b o e) ?_ ?_, S.F.above⟩ (fun p hp => ?_) ok' ht q
    · rintro rfl; have := n1.2.2; rw [e] at this; cases this
    · rintro rfl; have := n2.2.2; rw [e] at this; cases this
    · rcases List.mem_cons.mp hp with rfl | hp
      · exact ⟨e1, n1.2⟩
      · rcases List.mem_cons.mp hp with rfl | hp
        · exact ⟨e2, n2.2⟩
        · have z := N p (.tail _ (.tail _ hp))
          exact ⟨keep _ _ z.1 (hr p hp).1 (hr p hp).2, z.2⟩
end
end
section
local macro_rules | `(tactic| walk_at "-") => `(tactic| skip)
local macro_rules | `(tactic| walk_at "-") => `(tactic| skip)
local macro_rules | `(tactic| walk_at "-") => `(tactic| skip)
local macro_rules | `(tactic| walk_at "-") => `(tactic| skip)
local macro_rules | `(tactic| walk_at "-") => `(tactic| skip)
local macro_rules | `(tactic| walk_at "call ref") => `(tactic| first | walk_at "H22" | walk_at "H21" | walk_at "H20")
local macro_rules | `(tactic| walk_at "call ref") => `(tactic| ((with_reducible show wpAny _ _ (call (Value.ref 232) _) _ _ _); refine halt ?_))
theorem c_pick (w : World) (dk lc : Addr) (c : DkS) (l : Addr) (vs : List Value) (ns : List Int) : SpecD w 12 239 dk lc c [.ref dk, .ref l]
    (fun h => h.IsList l vs.toArray ∧ IntsAre vs ns ∧ 1 ≤ ns.length ∧ ns.length ≤ 100 ∧ @Ne Nat dk l ∧ @Ne Nat lc l ∧ 0 ≤ c.tu ∧ c.tu ≤ 100000) (fun _ v _ => ∃ x t, v = .int x t ∧ x ∈ ns) := by
  obtain ⟨cv, cn', cm, od, mx, mt, tu, tt⟩ := c
  w_top off
  intro mean mg mb dp un gd cn cs a ccd cl outer A₀ base h₀ L m s Q E S N hpre hret
  have hd9 := S.d
  have hu9 := S.u
  have XB1 := S.XB
  have TB1 := S.TB
  k_dflt (refine' enter S N ?k6 ?k7 ?k8 ?k9 ?kB ?_ ?c2 ?c3 ?c4 ?c5; (case k6 => k_is); (case k7 => k_is); (case k8 => ktr_room); (case k9 => (intro kX; first | exact BindsTo.of_eq rfl | exact binds_K kX rfl (by k_is) rfl rfl rfl)); (case c5 => decide); (case kB => exact locs rfl); (case c2 => exact rfl); (case c3 => exact rfl); (case c4 => exact rfl); k_whole)
  intro g L1 h1 F1 N1 B1 X1 T1 hin hup hlt hL1
  (try dsimp only)
  (try k_fold)
  obtain ⟨ok, hne, hl0, hi, hz1, hz2, hn1, hn2, ht1, ht2⟩ := hpre
  dsimp only at ht1 ht2
  change News g L1 h1 [(dk, od), (lc, PySem.W.listOf cv.toArray cm)] at N1
  have hl : g.IsList l vs.toArray := isList_up hup hl0 (by intro p hp; rcases List.mem_cons.mp hp with rfl | hp; exact hn1; rw [List.mem_singleton.mp hp]; exact hn2)
  have hlen := hi.length
  k_steps
  refine Halt.go ?_
  rename Fr _ _ _ _ => kF; rename News _ _ _ _ => kN
  refine useD (c_draw w dk lc ⟨cv, cn', cm, od, mx, mt, tu, tt⟩ _ _) ⟨B1, kF, X1, T1, rfl, by ktr_room, by ktr_units, XB1, TB1⟩ kN (List.forall_mem_nil _) ok hne ⟨by omega, by omega, ht1, ht2⟩ ?_
  clear kF kN
  rintro v h9 tk9 ⟨cv2, cn2, cm2, od2, mx2, mt2, tu2, tt2⟩ kF kN ok2 hte ⟨r, rt, rfl, hr1, hr2⟩
  dsimp only at kN hte
  (try k_fold)
  k_steps
  (rename Fr _ _ _ _ => kF9; rename News _ _ _ _ => kN9; (iterate 3 ((try k_unfold); (try dsimp only))); refine hret _ _ _ (⟨cv2, cn2, cm2, od2, mx2, mt2, tu2, tt2⟩ : DkS) (fun b o e q1 q2 => kF9.keep b o (hup b o e fun p hp => ?_)) (kN9 _ (.head _)).1 (kN9 _ (.tail _ (.head _))).1 ok2 hte ⟨_, _, rfl, ?_⟩)
  · exact q9 b dk lc p hp q1 q2
  · rw [List.getD_eq_getElem?_getD, List.getElem?_eq_getElem (by omega)]
    exact List.getElem_mem _
end
section
local macro_rules | `(tactic| walk_at "-") => `(tactic| skip)
local macro_rules | `(tactic| walk_at "-") => `(tactic| skip)
local macro_rules | `(tactic| walk_at "-") => `(tactic| skip)
local macro_rules | `(tactic| walk_at "-") => `(tactic| skip)
local macro_rules | `(tactic| walk_at "-") => `(tactic| skip)
local macro_rules | `(tactic| walk_at "-") => `(tactic| skip)
local macro_rules | `(tactic| walk_at "call ref") => `(tactic| first | walk_at "H22" | walk_at "H21" | walk_at "H20")
local macro_rules | `(tactic| walk_at "call ref") => `(tactic| ((with_reducible show wpAny _ _ (call (Value.ref 232) _) _ _ _); refine halt ?_))
abbrev SpecE (w : World) (n : Nat) (f : Addr) (dk lc : Addr) (c : DkS) (k : Nat) (vs : List Value) (pre : Heap → Prop) (post : Heap → Value → Heap → Prop) : Prop :=
  ∀ (mean : ExcName → Option Value) (mg mb : Str → Option Value) (dp un : Nat) (gd : Option (List Code)) (cn : Str) (cs : Scope) (a : Addr) (ccd : Value) (cl : List (Str × Addr)) (outer : List Env) (A₀ : Around) (base h₀ : Heap) (L : Addr) (m : Str → Option Value) (s : Shared) (Q E : Value → Shared → Prop),
    Site n w mean mg mb dp un cs A₀ base h₀ outer L m s → News h₀ L s.heap (DeckL dk lc c) → (DkOk w lc c ∧ @Ne Nat dk lc ∧ pre s.heap) →
    (∀ v h' tk' c', (∀ b o, s.heap.get? b = some o → b ≠ dk → b ≠ lc → h'.get? b = some o) → h'.get? dk = some c'.od → h'.get? lc = some (PySem.W.listOf c'.vs.toArray c'.n) → DkOk w lc c' → (c.tu ≤ c'.tu ∧ c'.tu ≤ c.tu + k) → post s.heap v h' → Q v { s with heap := h', toks := tk' }) →
    wpAny (model PR w) (ktrTop dp un gd cn cs L a ccd cl outer) (call (.ref f) vs) Q E s
theorem xor_all : ∀ k : Fin 256, 0 ≤ Builtin.bitXor (k.val : Int) 32 ∧ Builtin.bitXor (k.val : Int) 32 < 256 := by decide +kernel
theorem xor_rng {i : Int} (h0 : 0 ≤ i) (h1 : i < 256) : 0 ≤ Builtin.bitXor i 32 ∧ Builtin.bitXor i 32 < 256 := by
  have h := xor_all ⟨i.toNat, by omega⟩
  have e : ((i.toNat : Nat) : Int) = i := by omega
  dsimp only at h
  rwa [e] at h
theorem byt_snoc {fs : List Int} {x : Int} (h : byt fs) (hx : 0 ≤ x ∧ x < 256) : byt (fs ++ [x]) := fun y hy => by
  rcases List.mem_append.mp hy with hy | hy
  · exact h y hy
  · rw [List.mem_singleton.mp hy]; exact hx
structure TnS where
  c : DkS
  vf : List Value
  fs : List Int
  nf : Nat
theorem c_turned (w : World) (dk lc : Addr) (c : DkS) (b : Array UInt8) (os : List Int) (t : Tok) : SpecE w 12 252 dk lc c os.length [.ref dk, .bytes b t]
    (fun _ => KBw.bInts b = os ∧ os.length ≤ 4096 ∧ 0 ≤ c.tu ∧ c.tu ≤ 1000) (fun _ v _ => ∃ B t, v = .bytes B t ∧ (KBw.bInts B).length = os.length) := by
  w_top off
  intro mean mg mb dp un gd cn cs a ccd cl outer A₀ base h₀ L m s Q E S N hpre hret
  have hd9 := S.d
  have hu9 := S.u
  have XB1 := S.XB
  have TB1 := S.TB
  k_dflt (refine' enter S N ?k6 ?k7 ?k8 ?k9 ?kB ?_ ?c2 ?c3 ?c4 ?c5; (case k6 => k_is); (case k7 => k_is); (case k8 => ktr_room); (case k9 => (intro kX; first | exact BindsTo.of_eq rfl | exact binds_K kX rfl (by k_is) rfl rfl rfl)); (case c5 => decide); (case kB => exact locs rfl); (case c2 => exact rfl); (case c3 => exact rfl); (case c4 => exact rfl); k_whole)
  intro g L1 h1 F1 N1 B1 X1 T1 hin hup hlt hL1
  (try dsimp only)
  (try k_fold)
  obtain ⟨ok, hne, hb, hz, ht1, ht2⟩ := hpre
  change News g L1 h1 [(dk, c.od), (lc, PySem.W.listOf c.vs.toArray c.n)] at N1
  k_steps
  all_goals (try refine Halt.go ?_)
  rename Fr _ _ _ _ => kF; rename News _ _ _ _ => kN
  rename_i lf _ l1 _
  refine KStb.kst_bytes (σ := TnS) (fun x => [(dk, x.c.od), (lc, PySem.W.listOf x.c.vs.toArray x.c.n), (lf, PySem.W.listOf x.vf.toArray x.nf)]) (fun _ => []) (fun x => IntsAre x.vf x.fs) [Str.ofString "is_letter"]
    (fun pre x => DkOk w lc x.c ∧ x.fs.length = pre.length ∧ byt x.fs ∧ c.tu ≤ x.c.tu ∧ x.c.tu ≤ c.tu + pre.length) ⟨c, [], [], 0⟩ hb rfl rfl kF (kst_newsOf kN (by kst_in)) .nil (by kst_all) ⟨ok, rfl, (fun x hx => absurd hx List.not_mem_nil), Int.le_refl _, by simp⟩ ?_ ?_
  · clear kF kN
    rintro ⟨⟨cv, cn', cm, od, mx, mt, tu, tt⟩, vf, fs, nf⟩ pre post i ti u9 h9 tk9 own9 eP hm9 i0 i1 hoff hi1 ⟨hok, hP2, hP3, hP4, hP5⟩ kF kN
    dsimp only [kstB] at hi1 hok hP2 hP3 hP4 hP5 kF kN
    have hlen1 := hi1.length
    have hvl : vf.length ≤ 4096 := by omega
    dsimp only [List.map] at hoff
    simp only [List.cons_append, List.nil_append] at kN
    (try k_fold)
    k_steps
    all_goals (try (refine Halt.go ?_; rename Fr _ _ _ _ => kF; rename News _ _ _ _ => kN
                    refine useD (c_draw w dk lc ⟨cv, cn', cm, od, mx, mt, tu, tt⟩ _ _) ⟨B1, kF, X1, T1, rfl, by ktr_room, by ktr_units, XB1, TB1⟩ kN (fun p hp => by rcases List.mem_cons.mp hp with rfl | hp; exact ⟨Nat.ne_of_gt l1.1, Nat.ne_of_gt l1.2⟩; exact ⟨hoff p hp dk (.head _), hoff p hp lc (.tail _ (.head _))⟩) hok hne ⟨by omega, by omega, by dsimp only; omega, by dsimp only; omega⟩ ?_))
    all_goals (try (clear kF kN; rintro v h9 tk9 ⟨cv2, cn2, cm2, od2, mx2, mt2, tu2, tt2⟩ kF kN ok2 hte ⟨r, rt, rfl, hr1, hr2⟩; dsimp only at kN hte; (try k_fold); k_steps))
    all_goals ((try dsimp only [InvPostN]); rename Fr _ _ _ _ => kF9; rename News _ _ _ _ => kN9; (try simp only [List.push_toArray] at kN9))
    all_goals first
      | exact kst_end (⟨⟨cv2, cn2, cm2, od2, mx2, mt2, tu2, tt2⟩, vf ++ [.int (Builtin.bitXor i 32) _], fs ++ [Builtin.bitXor i 32], nf + 1⟩ : TnS) kF9 kN9 (by kst_in) (by (intro p hp; k_ownIn)) rfl (hi1.append (.cons _ _ .nil)) (by kst_all) (by (intro z hx h2 h3; (try simp only [List.forall_mem_cons, List.not_mem_nil, false_implies, implies_true, and_true, ne_eq] at h2); (try simp only [List.contains_cons, List.contains_nil, Bool.or_false, Bool.or_eq_false_iff, beq_eq_false_iff_ne, ne_eq] at h3); (simp [hx, h2, h3, kstB]))) ⟨ok2, by dsimp only; simp [hP2], byt_snoc hP3 (xor_rng i0 i1), by dsimp only; omega, by dsimp only; simp; omega⟩
      | exact kst_end (⟨⟨cv2, cn2, cm2, od2, mx2, mt2, tu2, tt2⟩, vf ++ [.int i _], fs ++ [i], nf + 1⟩ : TnS) kF9 kN9 (by kst_in) (by (intro p hp; k_ownIn)) rfl (hi1.append (.cons _ _ .nil)) (by kst_all) (by (intro z hx h2 h3; (try simp only [List.forall_mem_cons, List.not_mem_nil, false_implies, implies_true, and_true, ne_eq] at h2); (try simp only [List.contains_cons, List.contains_nil, Bool.or_false, Bool.or_eq_false_iff, beq_eq_false_iff_ne, ne_eq] at h3); (simp [hx, h2, h3, kstB]))) ⟨ok2, by dsimp only; simp [hP2], byt_snoc hP3 ⟨i0, i1⟩, by dsimp only; omega, by dsimp only; simp; omega⟩
      | exact kst_end (⟨⟨cv, cn', cm, od, mx, mt, tu, tt⟩, vf ++ [.int i _], fs ++ [i], nf + 1⟩ : TnS) kF9 kN9 (by kst_in) (by (intro p hp; k_ownIn)) rfl (hi1.append (.cons _ _ .nil)) (by kst_all) (by (intro z hx h2 h3; (try simp only [List.forall_mem_cons, List.not_mem_nil, false_implies, implies_true, and_true, ne_eq] at h2); (try simp only [List.contains_cons, List.contains_nil, Bool.or_false, Bool.or_eq_false_iff, beq_eq_false_iff_ne, ne_eq] at h3); (simp [hx, h2, h3, kstB]))) ⟨hok, by dsimp only; simp [hP2], byt_snoc hP3 ⟨i0, i1⟩, by dsimp only; omega, by dsimp only; simp; omega⟩
  · clear kF kN
    rintro ⟨⟨cv, cn', cm, od, mx, mt, tu, tt⟩, vf, fs, nf⟩ u9 h9 tk9 hl9 hi1 ⟨hok, hP2, hP3, hP4, hP5⟩ kF kN
    dsimp only [kstB] at hl9 hi1 hok hP2 hP3 hP4 hP5 kF kN
    have hIn : KBa.In fs := hP3
    have hlen1 := hi1.length
    (try k_fold)
    k_steps
    (rename Fr _ _ _ _ => kF9; rename News _ _ _ _ => kN9; (iterate 3 ((try k_unfold); (try dsimp only))); refine hret _ _ _ (⟨cv, cn', cm, od, mx, mt, tu, tt⟩ : DkS) (fun b o e q1 q2 => kF9.keep b o (hup b o e fun p hp => ?_)) (kN9 _ (.head _)).1 (kN9 _ (.tail _ (.head _))).1 hok ⟨hP4, hP5⟩ ⟨_, _, rfl, ?_⟩)
    · exact q9 b dk lc p hp q1 q2
    · rw [KBa.ints_make hIn, hP2]
end
section
section
variable {n : Nat} {w : World} {mean : ExcName → Option Value} {mg mb : Str → Option Value} {dp un : Nat} {gd : Option (List Code)} {cn : Str} {cs : Scope} {a : Addr} {ccd : Value} {cl : List (Str × Addr)} {outer : List Env} {A₀ : Around} {base h₀ : Heap} {L : Addr} {m : Str → Option Value} {s : Shared} {Q E : Value → Shared → Prop} {own : Led}
theorem useE {f dk lc : Addr} {k : Nat} {c : DkS} {vs : List Value} {pre : Heap → Prop} {post : Heap → Value → Heap → Prop} {rest : Led} (C : SpecE w n f dk lc c k vs pre post) (S : Site n w mean mg mb dp un cs A₀ base h₀ outer L m s)
    (N : News h₀ L s.heap ((dk, c.od) :: (lc, PySem.W.listOf c.vs.toArray c.n) :: rest)) (hr : ∀ p ∈ rest, p.1 ≠ dk ∧ p.1 ≠ lc) (ok : DkOk w lc c) (hne : @Ne Nat dk lc) (hp : pre s.heap)
    (h : ∀ v h' tk' c', Fr h₀ L h' m → News h₀ L h' ((dk, c'.od) :: (lc, PySem.W.listOf c'.vs.toArray c'.n) :: rest) → DkOk w lc c' → (c.tu ≤ c'.tu ∧ c'.tu ≤ c.tu + k) → post s.heap v h' → Q v { s with heap := h', toks := tk' }) :
    wpAny (model PR w) (ktrTop dp un gd cn cs L a ccd cl outer) (call (.ref f) vs) Q E s := by
  have n1 := N _ (.head _)
  have n2 := N _ (.tail _ (.head _))
  refine C mean mg mb dp un gd cn cs a ccd cl outer A₀ base h₀ L m s Q E S (fun p hp => N p ?_) ⟨ok, hne, hp⟩ fun v h' tk' c' keep e1 e2 ok' ht q => ?_
  · rcases List.mem_cons.mp hp with rfl | hp
    · exact .head _
    · rw [List.mem_singleton.mp hp]; exact .tail _ (.head _)
  · refine h v h' tk' c' ⟨S.F.ns.at' fun o e => keep _ o e (Ne.symm n1.2.1) (Ne.symm n2.2.1), fun b o e => keep b o (S.F.keep b o e) ?_ ?_, S.F.above⟩ (fun p hp => ?_) ok' ht q
    · rintro rfl; have := n1.2.2; rw [e] at this; cases this
    · rintro rfl; have := n2.2.2; rw [e] at this; cases this
    · rcases List.mem_cons.mp hp with rfl | hp
      · exact ⟨e1, n1.2⟩
      · rcases List.mem_cons.mp hp with rfl | hp
        · exact ⟨e2, n2.2⟩
        · have z := N p (.tail _ (.tail _ hp))
          exact ⟨keep _ _ z.1 (hr p hp).1 (hr p hp).2, z.2⟩
end
end
section
local macro_rules | `(tactic| walk_at "-") => `(tactic| skip)
local macro_rules | `(tactic| walk_at "-") => `(tactic| skip)
local macro_rules | `(tactic| walk_at "-") => `(tactic| skip)
local macro_rules | `(tactic| walk_at "-") => `(tactic| skip)
local macro_rules | `(tactic| walk_at "-") => `(tactic| skip)
local macro_rules | `(tactic| walk_at "call ref") => `(tactic| first | walk_at "H11" | walk_at "H16" | walk_at "H15")
local macro_rules | `(tactic| walk_at "eval Name") => `(tactic| (k_here; (with_reducible show wpAny _ _ (eval (PySem.Expr.Name _ _) (compEnvC _ _ _ _)) _ _ _); k_dflt (first
  | refine own_name (by assumption) (by assumption) ?_
  | refine LCgL.ld_global (by k_asm) (by k_asm) (by k_asm) (by k_is) ?_)))
local macro_rules | `(tactic| walk_at "eval ListComp") => `(tactic| ((with_reducible show wpAny _ _ (eval (PySem.Expr.ListComp _ [⟨_, PySem.Expr.Subscript _ _ _, _, _⟩] _ _) _) _ _ _); refine halt ?_))
local macro_rules | `(tactic| walk_at "eval ListComp") => `(tactic| ((with_reducible show wpAny _ _ (eval (PySem.Expr.ListComp _ [⟨_, PySem.Expr.Name (Str.ofString "octets") _, _, _⟩] _ _) _) _ _ _); refine halt ?_))
theorem c_law_small (w : World) (b : Array UInt8) (os : List Int) (t : Tok) :
    Spec w 18 245 [] [.bytes b t] (fun h => KBw.bInts b = os ∧ os.length ≤ 200000) (fun _ r _ => ∃ B t, r = .bytes B t ∧ KBw.bInts B = os.map casedF ∧ (os.map casedF).length ≤ 200000) := by
  w_top off
  intro mean mg mb dp un gd cn cs a ccd cl outer A₀ base h₀ L m s Q E S N hpre hret
  have hd9 := S.d
  have hu9 := S.u
  have XB1 := S.XB
  have TB1 := S.TB
  k_dflt (refine' enter S N ?k6 ?k7 ?k8 ?k9 ?kB ?_ ?c2 ?c3 ?c4 ?c5; (case k6 => k_is); (case k7 => k_is); (case k8 => ktr_room); (case k9 => (intro kX; first | exact BindsTo.of_eq rfl | exact binds_K kX rfl (by k_is) rfl rfl rfl)); (case c5 => decide); (case kB => exact locs rfl); (case c2 => exact rfl); (case c3 => exact rfl); (case c4 => exact rfl); k_whole)
  intro g L1 h1 F1 N1 B1 X1 T1 hin hup hlt hL1
  (try dsimp only)
  (try k_fold)
  obtain ⟨hb, hb2⟩ := hpre
  have hrng := bytes_rng hb
  k_steps
  refine Halt.go ?_
  refine comp_bytes casedF F1 (by rfl) (by decide) (by rfl) (by decide) (by rfl) (by rfl) ?_ (by intro _; with_unfolding_all rfl)
  intro Z hZ
  k_steps
  refine hZ _ _ os _ _ hb hb2 F1 N1 ?_ ?_
  · rintro C n u m₂ E' ⟨h₂, ge, dr, tk₂, so⟩ Y hn Fc hm F₂ N₂ hY
    clear hZ
    have hnr := hrng n hn
    (try dsimp only at Fc F₂ N₂)
    k_steps
    all_goals refine hY _ _ _ (fun _ _ e => e) (ex_int ?_)
    · rw [casedF, if_pos ⟨by assumption, by assumption⟩]
    · rw [casedF, if_neg (fun q => absurd q.2 (by assumption))]
    · rw [casedF, if_neg (fun q => absurd q.1 (by assumption))]
  · intro D ys n' h' tk F' N' ne hi
    clear hZ
    have hIn : KBa.In (os.map casedF) := fun x hx => by
      obtain ⟨n, hn, rfl⟩ := List.mem_map.mp hx
      exact casedF_rng (hrng n hn).1 (hrng n hn).2
    have hlen := hi.length
    rw [List.length_map] at hlen
    k_steps
    (rename Fr _ _ _ _ => kF9; rename News _ _ _ _ => kN9; (iterate 4 ((try dsimp only [KswPost, InvPostN, InvPost]); (try k_unfold))); (try dsimp only); refine hret _ _ _ (stays_of N hup kF9.keep (fun p hp => (kN9 p (by first | exact hp | exact absurd hp (List.not_mem_nil) | exact .tail _ hp | exact .tail _ (.tail _ hp) | exact .tail _ (.tail _ (.tail _ hp)) | exact .tail _ (.tail _ (.tail _ (.tail _ hp))) | exact .tail _ (.tail _ (.tail _ (.tail _ (.tail _ hp)))) | exact .tail _ (.tail _ (.tail _ (.tail _ (.tail _ (.tail _ hp))))) | exact .tail _ (.tail _ (.tail _ (.tail _ (.tail _ (.tail _ (.tail _ hp)))))))).1)) ?_; (try dsimp only); (try simp only [List.push_toArray] at kN9))
    exact ⟨_, _, rfl, KBa.ints_make hIn, by rw [List.length_map]; exact hb2⟩
end
section
local macro_rules | `(tactic| walk_at "eval Name") => `(tactic| (k_here; (with_reducible show wpAny _ _ (eval (PySem.Expr.Name _ _) (compEnvC _ _ _ _)) _ _ _); k_dflt (first
  | refine own_name (by assumption) (by assumption) ?_
  | refine LCgL.ld_global (by k_asm) (by k_asm) (by k_asm) (by k_is) ?_)))
local macro_rules | `(tactic| walk_at "eval ListComp") => `(tactic| ((with_reducible show wpAny _ _ (eval (PySem.Expr.ListComp _ [⟨_, PySem.Expr.Subscript _ _ _, _, _⟩] _ _) _) _ _ _); refine halt ?_))
local macro_rules | `(tactic| walk_at "eval ListComp") => `(tactic| ((with_reducible show wpAny _ _ (eval (PySem.Expr.ListComp _ [⟨_, PySem.Expr.Name (Str.ofString "octets") _, _, _⟩] _ _) _) _ _ _); refine halt ?_))
end
local macro_rules | `(tactic| walk_at "H24") => `(tactic| (k_here; (with_reducible show wpAny _ _ (call (Value.ref 160) _) _ _ _); k_dflt (refine' useI (c_cased2 _ _ _) ?kS ?kN ?ko ?kp ?_; walk_at "M_ASK"); walk_at "M_B3"))
section
local macro_rules | `(tactic| walk_at "-") => `(tactic| skip)
local macro_rules | `(tactic| walk_at "-") => `(tactic| skip)
local macro_rules | `(tactic| walk_at "-") => `(tactic| skip)
local macro_rules | `(tactic| walk_at "-") => `(tactic| skip)
local macro_rules | `(tactic| walk_at "-") => `(tactic| skip)
local macro_rules | `(tactic| walk_at "call ref") => `(tactic| first | walk_at "H24" | walk_at "H11" | walk_at "H16" | walk_at "H15")
local macro_rules | `(tactic| walk_at "eval Name") => `(tactic| (k_here; (with_reducible show wpAny _ _ (eval (PySem.Expr.Name _ _) (compEnvC _ _ _ _)) _ _ _); k_dflt (first
  | refine own_name (by assumption) (by assumption) ?_
  | refine LCgL.ld_global (by k_asm) (by k_asm) (by k_asm) (by k_is) ?_)))
local macro_rules | `(tactic| walk_at "eval ListComp") => `(tactic| ((with_reducible show wpAny _ _ (eval (PySem.Expr.ListComp _ [⟨_, PySem.Expr.Subscript _ _ _, _, _⟩] _ _) _) _ _ _); refine halt ?_))
local macro_rules | `(tactic| walk_at "eval ListComp") => `(tactic| ((with_reducible show wpAny _ _ (eval (PySem.Expr.ListComp _ [⟨_, PySem.Expr.Name (Str.ofString "octets") _, _, _⟩] _ _) _) _ _ _); refine halt ?_))
theorem pick_drop (os : List Int) (k : Nat) : List.take (os.length - min k os.length) (List.drop (min k os.length) os) = os.drop k := by
  rcases Nat.le_total k os.length with h | h
  · rw [Nat.min_eq_left h, List.take_of_length_le (by rw [List.length_drop]; omega)]
  · rw [Nat.min_eq_right h, List.drop_of_length_le (Nat.le_refl _), List.drop_of_length_le h, List.take_nil]
theorem pick_take (os : List Int) (k : Nat) : List.take (min k os.length) os = os.take k := by
  rcases Nat.le_total k os.length with h | h
  · rw [Nat.min_eq_left h]
  · rw [Nat.min_eq_right h, List.take_of_length_le (Nat.le_refl _), List.take_of_length_le h]
theorem c_smallG (w : World) (b : Array UInt8) (os : List Int) (t : Tok) (l : Addr) (vs : List Value) (ns : List Int) (args : List Value) (ha : args = [.bytes b t, .ref l, .none] ∨ args = [.bytes b t, .ref l]) :
    Spec w 18 212 [] args (fun h => KBw.bInts b = os ∧ os.length ≤ 200000 ∧ h.IsList l vs.toArray ∧ IntsAre vs ns ∧ ns.length ≤ 4096) (fun _ r _ => ∃ B t, r = .bytes B t ∧ KBw.bInts B = smallF os ns ∧ (smallF os ns).length ≤ 200000) := by
  w_top off
  intro mean mg mb dp un gd cn cs a ccd cl outer A₀ base h₀ L m s Q E S N hpre hret
  have hd9 := S.d
  have hu9 := S.u
  have XB1 := S.XB
  have TB1 := S.TB
  k_dflt (refine' enterC S N ?k6 ?k7 ?k8 ?k9 ?kB ?kD ?_ ?c2 ?c3 ?c4; (case k6 => k_is); (case k7 => k_is); (case k8 => ktr_room); (case k9 => (intro kX; rcases ha with rfl | rfl <;> first | exact BindsTo.of_eq rfl | exact binds_K kX rfl (by k_is) rfl rfl rfl)); (case kB => exact rfl); (case kD => decide +kernel); (case c2 => exact rfl); (case c3 => exact rfl); (case c4 => exact rfl); k_whole)
  intro g L1 h1 tk1 cells1 F1 N1 Y1 B1 X1 T1 hin hup hlt hL1
  (k_dflt (k_cells Y1))
  (try simp only [List.cons_append, List.nil_append] at N1)
  (try dsimp only)
  (try k_fold)
  clear ha
  obtain ⟨hb, hb2, hl0, hi, hsz⟩ := hpre
  have hl : g.IsList l vs.toArray := isList_up hup hl0 allNe_nil
  have hlen := hi.length
  have hfl : (ns.filter (fun a => decide (a < 128))).length ≤ 4096 := Nat.le_trans (List.length_filter_le _ _) hsz
  k_steps
  all_goals (try k_data)
  have hiy := IntsAre.ofCarried (by assumption)
  have hyl := hiy.length
  k_steps
  refine Halt.go ?_
  rename Fr _ _ _ _ => kF; rename News _ _ _ _ => kN
  refine comp_bytes casedF kF (by rfl) (by decide) (by rfl) (by decide) (by rfl) (by rfl) ?_ (by intro _; with_unfolding_all rfl)
  intro Z hZ
  k_steps
  rename KBw.bInts (KBy.picked b none (some _)) = _ => hT
  rename KBw.bInts (KBy.picked b (some _) none) = _ => hD
  rw [pick_take] at hT
  rw [pick_drop] at hD
  rename Fr _ _ _ _ => kF2; rename News _ _ _ _ => kN2
  have hrng : ∀ n ∈ os.drop (ns.filter (fun a => decide (a < 128))).length, 0 ≤ n ∧ n < 256 := fun n hn => bytes_rng hb n (List.mem_of_mem_drop hn)
  refine hZ _ _ (os.drop (ns.filter (fun a => decide (a < 128))).length) _ _ hD (by rw [List.length_drop]; omega) kF2 kN2 ?_ ?_
  · rintro C n u m₂ E' ⟨h₂, ge, dr, tk₂, so⟩ Y hn Fc hm F₂ N₂ hY
    clear hZ
    have hnr := hrng n hn
    (try dsimp only at Fc F₂ N₂)
    k_steps
    exact hY _ _ _ (by assumption) ⟨_, rfl⟩
  · intro D ys n' h' tk F' N' ne hi2
    clear hZ
    have hIn : KBa.In ((os.drop (ns.filter (fun a => decide (a < 128))).length).map casedF) := fun x hx => by
      obtain ⟨n, hn, rfl⟩ := List.mem_map.mp hx
      exact casedF_rng (hrng n hn).1 (hrng n hn).2
    have hlen2 := hi2.length
    rw [List.length_map, List.length_drop] at hlen2
    k_steps
    (rename Fr _ _ _ _ => kF9; rename News _ _ _ _ => kN9; (iterate 4 ((try dsimp only [KswPost, InvPostN, InvPost]); (try k_unfold))); (try dsimp only); refine hret _ _ _ (stays_of N hup kF9.keep (fun p hp => (kN9 p (by first | exact hp | exact absurd hp (List.not_mem_nil) | exact .tail _ hp | exact .tail _ (.tail _ hp) | exact .tail _ (.tail _ (.tail _ hp)) | exact .tail _ (.tail _ (.tail _ (.tail _ hp))) | exact .tail _ (.tail _ (.tail _ (.tail _ (.tail _ hp)))) | exact .tail _ (.tail _ (.tail _ (.tail _ (.tail _ (.tail _ hp))))) | exact .tail _ (.tail _ (.tail _ (.tail _ (.tail _ (.tail _ (.tail _ hp)))))))).1)) ?_; (try dsimp only); (try simp only [List.push_toArray] at kN9))
    rename KBw.bInts (_ ++ _) = _ => hA
    refine ⟨_, _, rfl, hA, ?_⟩
    simp only [smallF, List.length_append, List.length_map, List.length_take, List.length_drop]
    omega
def c_small (w : World) (b : Array UInt8) (os : List Int) (t : Tok) (l : Addr) (vs : List Value) (ns : List Int) := c_smallG w b os t l vs ns _ (.inl rfl)
end
section
local macro_rules | `(tactic| walk_at "eval Name") => `(tactic| (k_here; (with_reducible show wpAny _ _ (eval (PySem.Expr.Name _ _) (compEnvC _ _ _ _)) _ _ _); k_dflt (first
  | refine own_name (by assumption) (by assumption) ?_
  | refine LCgL.ld_global (by k_asm) (by k_asm) (by k_asm) (by k_is) ?_)))
local macro_rules | `(tactic| walk_at "eval ListComp") => `(tactic| ((with_reducible show wpAny _ _ (eval (PySem.Expr.ListComp _ [⟨_, PySem.Expr.Subscript _ _ _, _, _⟩] _ _) _) _ _ _); refine halt ?_))
local macro_rules | `(tactic| walk_at "eval ListComp") => `(tactic| ((with_reducible show wpAny _ _ (eval (PySem.Expr.ListComp _ [⟨_, PySem.Expr.Name (Str.ofString "octets") _, _, _⟩] _ _) _) _ _ _); refine halt ?_))
def c_small2 (w : World) (b : Array UInt8) (os : List Int) (t : Tok) (l : Addr) (vs : List Value) (ns : List Int) := c_smallG w b os t l vs ns _ (.inr rfl)
end
local macro_rules | `(tactic| walk_at "H18") => `(tactic| (k_here; (try k_fold); (with_reducible show wpAny _ _ (call (Value.ref 168) _) _ _ _); k_dflt (refine' useXb (c_enc _ _ _ _) ?kS ?kN ?ko ?kp ?ka ?kb; walk_at "M_ASKL"); walk_at "M_B8"))
local macro_rules | `(tactic| walk_at "H19") => `(tactic| (k_here; (try k_fold); (with_reducible show wpAny _ _ (call (Value.ref 168) _) _ _ _); k_dflt (refine' useXb (c_enc1 _ _ _ _) ?kS ?kN ?ko ?kp ?ka ?kb; walk_at "M_ASKL"); walk_at "M_B8"))
local macro_rules | `(tactic| walk_at "H25") => `(tactic| (k_here; (try k_fold); (with_reducible show wpAny _ _ (call (Value.ref 212) _) _ _ _); k_dflt (refine' useY (c_small _ _ _ _ _ _ _) ?kS ?kN ?ko ?kp ?_; walk_at "M_ASKL"); walk_at "M_B4"))
local macro_rules | `(tactic| walk_at "H26") => `(tactic| (k_here; (try k_fold); (with_reducible show wpAny _ _ (call (Value.ref 212) _) _ _ _); k_dflt (refine' useY (c_small2 _ _ _ _ _ _ _) ?kS ?kN ?ko ?kp ?_; walk_at "M_ASKL"); walk_at "M_B4"))
section
local macro_rules | `(tactic| walk_at "-") => `(tactic| skip)
local macro_rules | `(tactic| walk_at "-") => `(tactic| skip)
local macro_rules | `(tactic| walk_at "-") => `(tactic| skip)
local macro_rules | `(tactic| walk_at "-") => `(tactic| skip)
local macro_rules | `(tactic| walk_at "-") => `(tactic| skip)
local macro_rules | `(tactic| walk_at "call ref") => `(tactic| first | walk_at "H26" | walk_at "H25" | walk_at "H24" | walk_at "H22" | walk_at "H21" | walk_at "H20" | walk_at "H19" | walk_at "H18" | walk_at "H17")
theorem c_length (w : World) (l : Addr) (vs : List Value) (ns : List Int) : SpecX w 18 220 [] [.ref l] (fun h => h.IsList l vs.toArray ∧ IntsAre vs ns ∧ ns.length ≤ 4096)
    (fun _ r _ => ∃ t, r = .int (encF ns).length t) (¬ ∀ i ∈ ns, isScalar i = true) := by
  w_top off
  intro mean mg mb dp un gd cn cs a ccd cl outer A₀ base h₀ L m s Q E S N hpre hret hexc
  have hd9 := S.d
  have hu9 := S.u
  have XB1 := S.XB
  have TB1 := S.TB
  k_dflt (refine' enter S N ?k6 ?k7 ?k8 ?k9 ?kB ?_ ?c2 ?c3 ?c4 ?c5; (case k6 => k_is); (case k7 => k_is); (case k8 => ktr_room); (case k9 => (intro kX; first | exact BindsTo.of_eq rfl | exact binds_K kX rfl (by k_is) rfl rfl rfl)); (case c5 => decide); (case kB => exact locs rfl); (case c2 => exact rfl); (case c3 => exact rfl); (case c4 => exact rfl); k_whole)
  intro g L1 h1 F1 N1 B1 X1 T1 hin hup hlt hL1
  (try dsimp only)
  (try k_fold)
  have hl : g.IsList l vs.toArray := isList_up hup hpre.1 allNe_nil
  have hi := hpre.2.1
  have hsz := hpre.2.2
  have hlen := hi.length
  k_steps
  · (refine Halt.go ?_; rename_i e9 h9 tk9 bad9 W9; rename Fr _ _ _ _ => kF9; rename News _ _ _ _ => kN9; (iterate 3 ((try k_unfold); (try dsimp only))); refine flew_on rfl rfl (stays_of N hup kF9.keep (fun p hp => (kN9 p (by first | exact hp | exact absurd hp (List.not_mem_nil) | exact .tail _ hp | exact .tail _ (.tail _ hp) | exact .tail _ (.tail _ (.tail _ hp)) | exact .tail _ (.tail _ (.tail _ (.tail _ hp))) | exact .tail _ (.tail _ (.tail _ (.tail _ (.tail _ hp)))) | exact .tail _ (.tail _ (.tail _ (.tail _ (.tail _ (.tail _ hp))))) | exact .tail _ (.tail _ (.tail _ (.tail _ (.tail _ (.tail _ (.tail _ hp)))))))).1)) hL1 W9 fun h' W' => hexc _ _ _ ?_ W')
    exact bad9
  · (rename Fr _ _ _ _ => kF9; rename News _ _ _ _ => kN9; (iterate 4 ((try dsimp only [KswPost, InvPostN, InvPost]); (try k_unfold))); (try dsimp only); refine hret _ _ _ (stays_of N hup kF9.keep (fun p hp => (kN9 p (by first | exact hp | exact absurd hp (List.not_mem_nil) | exact .tail _ hp | exact .tail _ (.tail _ hp) | exact .tail _ (.tail _ (.tail _ hp)) | exact .tail _ (.tail _ (.tail _ (.tail _ hp))) | exact .tail _ (.tail _ (.tail _ (.tail _ (.tail _ hp)))) | exact .tail _ (.tail _ (.tail _ (.tail _ (.tail _ (.tail _ hp))))) | exact .tail _ (.tail _ (.tail _ (.tail _ (.tail _ (.tail _ (.tail _ hp)))))))).1)) ?_; (try dsimp only); (try simp only [List.push_toArray] at kN9))
    exact ex_int rfl
theorem bytes_beq (B C : Array UInt8) : (B.toList == C.toList) = decide (KBw.bInts B = KBw.bInts C) := by
  have inj : ∀ {x y : List UInt8}, x.map (fun c => ((c.toNat : Nat) : Int)) = y.map (fun c => ((c.toNat : Nat) : Int)) → x = y := by
    intro x y h
    refine List.map_inj_right (f := fun c : UInt8 => ((c.toNat : Nat) : Int)) ?_ |>.mp h
    intro a b e
    exact UInt8.toNat_inj.mp (by exact_mod_cast e)
  apply Bool.eq_iff_iff.mpr
  rw [beq_iff_eq, decide_eq_true_iff]
  constructor
  · intro h
    have : B = C := Array.toList_inj.mp h
    rw [this]
  · intro h
    exact inj h
local macro_rules | `(tactic| walk_at "call ref") => `(tactic| ((with_reducible show wpAny _ _ (call (Value.ref 168) _) _ _ _); refine halt ?_))
local macro_rules | `(tactic| walk_at "call ref") => `(tactic| ((with_reducible show wpAny _ _ (call (Value.ref 212) _) _ _ _); refine halt ?_))
theorem c_told (w : World) (b : Array UInt8) (os : List Int) (t : Tok) : SpecT w 20 206 [] [.bytes b t] (fun _ => KBw.bInts b = os ∧ os.length ≤ 4096)
    (fun _ r _ => r = .bool (toldF os)) := by
  w_top off
  intro mean mg mb dp un gd cn cs a ccd cl outer A₀ base h₀ L m s Q E S N hpre hret
  have hd9 := S.d
  have hu9 := S.u
  have XB1 := S.XB
  have TB1 := S.TB
  k_dflt (refine' enter S N ?k6 ?k7 ?k8 ?k9 ?kB ?_ ?c2 ?c3 ?c4 ?c5; (case k6 => k_is); (case k7 => k_is); (case k8 => ktr_room); (case k9 => (intro kX; first | exact BindsTo.of_eq rfl | exact binds_K kX rfl (by k_is) rfl rfl rfl)); (case c5 => decide); (case kB => exact locs rfl); (case c2 => exact rfl); (case c3 => exact rfl); (case c4 => exact rfl); k_whole)
  intro g L1 h1 F1 N1 B1 X1 T1 hin hup hlt hL1
  (try dsimp only)
  (try k_fold)
  have hb := hpre.1
  have hb2 := hpre.2
  k_steps
  · refine Halt.go ?_
    rename Fr _ _ _ _ => kF; rename News _ _ _ _ => kN
    refine caught0 (by assumption) kF kN B1 XB1 TB1 (by k_is) ?_
    clear kF kN
    intro h9 g9 T9 kF kN kB kX kT
    (try k_fold)
    k_steps
    (rename Fr _ _ _ _ => kF9; rename News _ _ _ _ => kN9; (try rename KtsTurn _ _ _ => kT9); (iterate 4 ((try dsimp only [KswPost, InvPostN, InvPost]); (try k_unfold))); (try dsimp only); refine hret _ _ _ (kept_turn hup kT9 kF9.keep) ?_; (try dsimp only); (try simp only [List.push_toArray] at kN9))
    rw [toldF, show decF os = none by assumption]
  · rename IntsAre _ _ => hi9
    rename decF _ = some _ => ok9
    have hok := decF_ok ok9 (bytes_low hb)
    have hlen := hi9.length
    have hz := hok.1
    have hz2 := Nat.le_trans hz hb2
    have hsc := hok.2
    clear hok
    k_steps
    (refine Halt.go ?_; (try k_fold); (with_reducible show wpAny _ _ (call (Value.ref 168) _) _ _ _); k_dflt (refine' useXb (c_enc _ _ _ _) ?kS ?kN ?ko ?kp ?ka ?kb; (case kS => walk_at "M_SITE"); (case kN => k_asm); (case ko => walk_at "M_OWN"); (case kp => walk_at "M_PREL")); (case' ka => intro B9 t9 h9 tk9 e9 g9 F9 N9; (try dsimp only); (try k_sweep)); (case' kb => intro e9 h9 tk9 bad9 W9; refine halt ?_))
    · exact absurd hsc bad9
    (try k_fold)
    k_steps
    (refine Halt.go ?_; (try k_fold); (with_reducible show wpAny _ _ (call (Value.ref 212) _) _ _ _); k_dflt (refine' useY (c_small _ _ _ _ _ _ _) ?kS ?kN ?ko ?kp ?_; (case kS => walk_at "M_SITE"); (case kN => k_asm); (case ko => walk_at "M_OWN"); (case kp => walk_at "M_PREL")); k_whole; intro B9 t9 h9 tk9 e9 g9 F9 N9; (try dsimp only); (try k_sweep))
    (try k_fold)
    k_steps
    (refine Halt.go ?_; (try k_fold); (with_reducible show wpAny _ _ (call (Value.ref 212) _) _ _ _); k_dflt (refine' useY (c_small _ _ _ _ _ _ _) ?kS ?kN ?ko ?kp ?_; (case kS => walk_at "M_SITE"); (case kN => k_asm); (case ko => walk_at "M_OWN"); (case kp => walk_at "M_PREL")); k_whole; intro B9 t9 h9 tk9 e9 g9 F9 N9; (try dsimp only); (try k_sweep))
    (try k_fold)
    k_steps
    (rename Fr _ _ _ _ => kF9; rename News _ _ _ _ => kN9; (iterate 4 ((try dsimp only [KswPost, InvPostN, InvPost]); (try k_unfold))); (try dsimp only); refine hret _ _ _ (kept_stays (stays_of N hup kF9.keep (fun p hp => (kN9 p (by first | exact hp | exact absurd hp (List.not_mem_nil) | exact .tail _ hp | exact .tail _ (.tail _ hp) | exact .tail _ (.tail _ (.tail _ hp)) | exact .tail _ (.tail _ (.tail _ (.tail _ hp))) | exact .tail _ (.tail _ (.tail _ (.tail _ (.tail _ hp)))) | exact .tail _ (.tail _ (.tail _ (.tail _ (.tail _ (.tail _ hp))))) | exact .tail _ (.tail _ (.tail _ (.tail _ (.tail _ (.tail _ (.tail _ hp)))))))).1))) ?_; (try dsimp only); (try simp only [List.push_toArray] at kN9))
    rw [bytes_beq, toldF, ok9]
    dsimp only
    simp only [*]
end
local macro_rules | `(tactic| walk_at "H23") => `(tactic| (k_here; (try k_fold); (with_reducible show wpAny _ _ (call (Value.ref 245) _) _ _ _); k_dflt (refine' useY (c_law_small _ _ _ _) ?kS ?kN ?ko ?kp ?_; walk_at "M_ASKL"); walk_at "M_B4"))
section
local macro_rules | `(tactic| walk_at "-") => `(tactic| skip)
local macro_rules | `(tactic| walk_at "-") => `(tactic| skip)
local macro_rules | `(tactic| walk_at "call ref") => `(tactic| first | walk_at "H26" | walk_at "H25" | walk_at "H24" | walk_at "H23" | walk_at "H22" | walk_at "H21" | walk_at "H20" | walk_at "H19" | walk_at "H18" | walk_at "H17")
local macro_rules | `(tactic| walk_at "call type:bytes") => `(tactic| ((with_reducible show wpAny _ _ (call (Value.type "bytes") [Value.bytes _ _]) _ _ _); refine call_bytes_bytes ?_))
local macro_rules | `(tactic| walk_at "eval Name") => `(tactic| (k_here; (with_reducible show wpAny _ _ (eval (PySem.Expr.Name _ _) (compEnvC _ _ _ _)) _ _ _); k_dflt (first
  | refine own_name (by assumption) (by assumption) ?_
  | refine LCgL.ld_global (by k_asm) (by k_asm) (by k_asm) (by k_is) ?_)))
local macro_rules | `(tactic| walk_at "call ref") => `(tactic| ((with_reducible show wpAny _ _ (call (Value.ref 168) _) _ _ _); refine halt ?_))
local macro_rules | `(tactic| walk_at "call ref") => `(tactic| ((with_reducible show wpAny _ _ (call (Value.ref 259) _) _ _ _); refine halt ?_))
local macro_rules | `(tactic| walk_at "call ref") => `(tactic| ((with_reducible show wpAny _ _ (call (Value.ref 245) _) _ _ _); refine halt ?_))
theorem lt_yes {os ts : List Int} {k : Nat} (h : decF os = some ts) (hk : k = (encB ts).length) (e : os.take k = (encF ts).take k) : lawTold os = decide ((os.drop k).map casedF = ((encF ts).drop k).map casedF) := by
  subst hk
  unfold lawTold
  rw [h]
  dsimp only
  rw [decide_eq_true e, Bool.true_and]
theorem lt_no {os ts : List Int} {k : Nat} (h : decF os = some ts) (hk : k = (encB ts).length) (e : ¬ os.take k = (encF ts).take k) : lawTold os = false := by
  subst hk
  unfold lawTold
  rw [h]
  dsimp only
  rw [decide_eq_false e, Bool.false_and]
theorem c_law_told (w : World) (b : Array UInt8) (os : List Int) (t : Tok) : SpecT w 22 264 [] [.bytes b t] (fun _ => KBw.bInts b = os ∧ os.length ≤ 4096)
    (fun _ r _ => r = .bool (lawTold os)) := by
  w_top off
  intro mean mg mb dp un gd cn cs a ccd cl outer A₀ base h₀ L m s Q E S N hpre hret
  have hd9 := S.d
  have hu9 := S.u
  have XB1 := S.XB
  have TB1 := S.TB
  k_dflt (refine' enter S N ?k6 ?k7 ?k8 ?k9 ?kB ?_ ?c2 ?c3 ?c4 ?c5; (case k6 => k_is); (case k7 => k_is); (case k8 => ktr_room); (case k9 => (intro kX; first | exact BindsTo.of_eq rfl | exact binds_K kX rfl (by k_is) rfl rfl rfl)); (case c5 => decide); (case kB => exact locs rfl); (case c2 => exact rfl); (case c3 => exact rfl); (case c4 => exact rfl); k_whole)
  intro g L1 h1 F1 N1 B1 X1 T1 hin hup hlt hL1
  (try dsimp only)
  (try k_fold)
  have hb := hpre.1
  have hb2 := hpre.2
  k_steps
  refine Halt.go ?_
  rename Fr _ _ _ _ => kF0; rename News _ _ _ _ => kN
  refine useT (c_read w b os _) ⟨B1, kF0, X1, T1, rfl, by ktr_room, by ktr_units, XB1, TB1⟩ kN (List.forall_mem_nil _) ⟨hb, hb2⟩ ?_
  clear kN
  rintro v h9 g9 tk9 (⟨hdec, rfl⟩ | ⟨lt, ws, ns, nn, rfl, e1, e2, hi, hdec⟩) kp T9 kF kN kB kX kT
  · clear kF0
    (try k_fold)
    k_steps
    (rename Fr _ _ _ _ => kF9; rename News _ _ _ _ => kN9; (try rename KtsTurn _ _ _ => kT9); (iterate 4 ((try dsimp only [KswPost, InvPostN, InvPost]); (try k_unfold))); (try dsimp only); refine hret _ _ _ (kept_turn hup kT9 kF9.keep) ?_; (try dsimp only); (try simp only [List.push_toArray] at kN9))
    rw [lawTold, hdec]
  · have N9 : News g9 L1 h9 [(lt, PySem.W.listOf ws.toArray nn)] := fun p hp => by
      obtain rfl := List.mem_singleton.mp hp
      refine ⟨e1, fun q => ?_, T9.none_ _ ?_⟩
      · obtain ⟨o, _, _, hL, _⟩ := kF0.ns
        rw [← q] at hL
        exact absurd (hL.symm.trans e2) (by simp)
      · cases q : g.get? lt with
        | none => rfl
        | some o => exact absurd ((kF0.keep _ _ q).symm.trans e2) (by simp)
    clear kN kF0 e1 e2 kp
    have hok := decF_ok hdec (bytes_low hb)
    have hlen := hi.length
    have hz := hok.1
    have hz2 := Nat.le_trans hz hb2
    have hsc := hok.2
    clear hok
    have hfl : (ns.filter (fun a => decide (a < 128))).length ≤ 4096 := Nat.le_trans (List.length_filter_le _ _) hz2
    (try k_fold)
    k_steps
    (refine Halt.go ?_; (try k_fold); (with_reducible show wpAny _ _ (call (Value.ref 168) _) _ _ _); k_dflt (refine' useXb (c_enc1 _ _ _ _) ?kS ?kN ?ko ?kp ?ka ?kb; (case kS => walk_at "M_SITE"); (case kN => k_asm); (case ko => walk_at "M_OWN"); (case kp => walk_at "M_PREL")); (case' ka => intro B9 t9 h9 tk9 e9 g9 F9 N9; (try dsimp only); (try k_sweep)); (case' kb => intro e9 h9 tk9 bad9 W9; refine halt ?_))
    · exact absurd hsc bad9
    (try k_fold)
    k_steps
    · rename KBw.bInts (KBy.picked b none (some _)) = _ => hT1
      rename KBw.bInts (KBy.picked B9 none (some _)) = _ => hT2
      rename KBw.bInts (KBy.picked b (some _) none) = _ => hD1
      rename (_ == _) = true => hEq
      rw [pick_take] at hT1 hT2
      rw [pick_drop] at hD1
      rw [bytes_beq, decide_eq_true_iff, hT1, hT2] at hEq
      have hDl : (os.drop (ns.filter (fun a => decide (a < 128))).length).length ≤ 200000 := by rw [List.length_drop]; omega
      (refine Halt.go ?_; (try k_fold); (with_reducible show wpAny _ _ (call (Value.ref 245) _) _ _ _); k_dflt (refine' useY (c_law_small _ _ _ _) ?kS ?kN ?ko ?kp ?_; (case kS => walk_at "M_SITE"); (case kN => k_asm); (case ko => walk_at "M_OWN"); (case kp => walk_at "M_PREL")); k_whole; intro B9 t9 h9 tk9 e9 g9 F9 N9; (try dsimp only); (try k_sweep))
      (try k_fold)
      k_steps
      rename KBw.bInts (KBy.picked _ (some _) none) = List.take _ (List.drop _ (encF ns)) => hD2
      rw [pick_drop] at hD2
      have hDl2 : ((encF ns).drop (ns.filter (fun a => decide (a < 128))).length).length ≤ 200000 := by rw [List.length_drop]; omega
      (refine Halt.go ?_; (try k_fold); (with_reducible show wpAny _ _ (call (Value.ref 245) _) _ _ _); k_dflt (refine' useY (c_law_small _ _ _ _) ?kS ?kN ?ko ?kp ?_; (case kS => walk_at "M_SITE"); (case kN => k_asm); (case ko => walk_at "M_OWN"); (case kp => walk_at "M_PREL")); k_whole; intro B9 t9 h9 tk9 e9 g9 F9 N9; (try dsimp only); (try k_sweep))
      (try k_fold)
      k_steps
      (rename Fr _ _ _ _ => kF9; rename News _ _ _ _ => kN9; (try rename KtsTurn _ _ _ => kT9); (iterate 4 ((try dsimp only [KswPost, InvPostN, InvPost]); (try k_unfold))); (try dsimp only); refine hret _ _ _ (kept_turn hup kT9 kF9.keep) ?_; (try dsimp only); (try simp only [List.push_toArray] at kN9))
      rename KBw.bInts _ = List.map casedF (List.drop _ os) => hS1
      rename KBw.bInts _ = List.map casedF (List.drop _ (encF ns)) => hS2
      rw [bytes_beq, hS1, hS2, lt_yes hdec rfl hEq]
      rfl
    · rename KBw.bInts (KBy.picked b none (some _)) = _ => hT1
      rename KBw.bInts (KBy.picked B9 none (some _)) = _ => hT2
      rename (_ == _) = false => hEq
      have hE2 := hEq
      rw [pick_take] at hT1 hT2
      rw [bytes_beq, decide_eq_false_iff_not, hT1, hT2] at hE2
      rw [hEq]
      (try k_fold)
      (rename Fr _ _ _ _ => kF9; rename News _ _ _ _ => kN9; (try rename KtsTurn _ _ _ => kT9); (iterate 4 ((try dsimp only [KswPost, InvPostN, InvPost]); (try k_unfold))); (try dsimp only); refine hret _ _ _ (kept_turn hup kT9 kF9.keep) ?_; (try dsimp only); (try simp only [List.push_toArray] at kN9))
      rw [lt_no hdec rfl hE2]
end
section
section
variable {w : World} {A : Around} {h₀ : Heap} {L dk lc : Addr} {m : Str → Option Value} {env : Env} {elt : Expr} {x : Str} {scope : Scope} {cl : List (Str × Addr)} {s : Shared} {rest : Led}
abbrev Led2 (dk lc : Addr) (cc : DkS) (rest : Led) : Led := (dk, cc.od) :: (lc, PySem.W.listOf cc.vs.toArray cc.n) :: rest
theorem rest_deck (menu : List Int) (hrest : ∀ p ∈ rest, p.1 ≠ dk ∧ p.1 ≠ lc) {P : Nat → Value → Prop} {Fin : List Value → Led → Prop}
    (helt : ∀ v I oI C oC D ys m₂ h tk (cc : DkS) (E' Y : Value → Shared → Prop), LCg.NsObj oC m₂ → m₂ x = some v → Fr h₀ L h m → News h₀ L h (Led2 dk lc cc ((I, oI) :: (C, oC) :: (D, LCg.lst ys) :: rest)) →
      (∀ p ∈ (I, oI) :: (C, oC) :: (D, LCg.lst ys) :: rest, p.1 ≠ dk ∧ p.1 ≠ lc) → DkOk w lc cc → (0 ≤ cc.tu ∧ cc.tu ≤ 1000) →
      (∀ i t h' tk' (cc' : DkS) led, Fr h₀ L h' m → News h₀ L h' led → (∀ p ∈ Led2 dk lc cc' ((I, oI) :: (C, oC) :: (D, LCg.lst ys) :: rest), p ∈ led) → DkOk w lc cc' → cc'.tu = cc.tu + 1 → i ∈ menu → Y (.int i t) { s with heap := h', toks := tk' }) →
      wpAny (model PR w) A (eval elt (compEnvC scope cl C env)) Y E' { s with heap := h, toks := tk }) :
    ∀ (k i : Nat) (ys : List Value) (ns : List Int) (cc : DkS), IntsAre ys ns → (∀ n ∈ ns, n ∈ menu) → DkOk w lc cc → 0 ≤ cc.tu → cc.tu + k ≤ 1000 →
    (∀ ys' ns' (cc' : DkS), IntsAre ys' ns' → ns'.length = ns.length + k → (∀ n ∈ ns', n ∈ menu) → DkOk w lc cc' → 0 ≤ cc'.tu → cc'.tu ≤ cc.tu + k → Fin ys' (Led2 dk lc cc' rest)) →
    LCg.CompRest PR w A h₀ L m env elt x scope cl s (fun _ => True) P Fin k i ys (Led2 dk lc cc rest)
  | 0, i, ys, ns, cc, hi, hm, ok, h0, h1, hF => LCg.CompRest.zero (hF ys ns cc hi rfl hm ok h0 (by simp))
  | k + 1, i, ys, ns, cc, hi, hm, ok, h0, h1, hF => by
    refine LCg.CompRest.succ fun v I oI C oC D m₂ h tk E' _ hC hx F N off ne => ?_
    have o3 := off.mem
    have hd := o3 _ (.head _)
    have hl := o3 _ (.tail _ (.head _))
    refine helt v I oI C oC D ys m₂ h tk cc E' _ hC hx F (fun p hp => N p ?_) ?_ ok ⟨h0, by omega⟩ fun n t h' tk' cc' led F' N' hs ok' ht hn => ?_
    · simp only [List.mem_cons] at hp ⊢
      rcases hp with hp | hp | hp | hp | hp | hp
      · exact .inr (.inr (.inr (.inl hp)))
      · exact .inr (.inr (.inr (.inr (.inl hp))))
      · exact .inl hp
      · exact .inr (.inl hp)
      · exact .inr (.inr (.inl hp))
      · exact .inr (.inr (.inr (.inr (.inr hp))))
    · intro p hp
      simp only [List.mem_cons] at hp
      rcases hp with rfl | rfl | rfl | hp
      · exact ⟨fun q => hd.1 q.symm, fun q => hl.1 q.symm⟩
      · exact ⟨fun q => hd.2.1 q.symm, fun q => hl.2.1 q.symm⟩
      · exact ⟨fun q => hd.2.2 q.symm, fun q => hl.2.2 q.symm⟩
      · exact hrest p hp
    · refine LCg.CompEnd.intro F' N' (Led2 dk lc cc' rest) (fun p hp => hs p ?_) (LCg.Off3.of fun p hp => ?_) trivial ?_
      · simp only [List.mem_cons] at hp ⊢
        rcases hp with hp | hp | hp | hp | hp | hp
        · exact .inr (.inr (.inl hp))
        · exact .inr (.inr (.inr (.inl hp)))
        · exact .inr (.inr (.inr (.inr (.inl hp))))
        · exact .inl hp
        · exact .inr (.inl hp)
        · exact .inr (.inr (.inr (.inr (.inr hp))))
      · simp only [List.mem_cons] at hp
        rcases hp with rfl | rfl | hp
        · exact hd
        · exact hl
        · exact o3 _ (.tail _ (.tail _ hp))
      · refine rest_deck menu hrest helt k (i + 1) (ys ++ [.int n t]) (ns ++ [n]) cc' (hi.append (.cons _ _ .nil)) (fun a ha => ?_) ok' (by omega) (by omega) fun ys' ns' cc'' a b d e f g' => hF ys' ns' cc'' a (by rw [b, List.length_append, List.length_singleton]; omega) d e f (by omega)
        rcases List.mem_append.mp ha with ha | ha
        · exact hm a ha
        · rw [List.mem_singleton.mp ha]; exact hn
end
end
section
local macro_rules | `(tactic| walk_at "-") => `(tactic| skip)
section
variable {prog : Program} {w : World} {A : Around} {E : Value → Shared → Prop} {s : Shared}
theorem lb_len : typeLookup (.type "bytes") "__len__" = pure (some (.builtin "bytes.__len__")) := by rw [typeLookup_type, builtinLookup_eq_fast]; kernel_rfl
abbrev ByteAt (b : Array UInt8) : Nat → Value → Prop := fun i v => ∃ c u, b[i]? = some c ∧ v = .int (c.toNat : Int) u
theorem lb_extend {R : Result → Shared → Prop} (hh : A.handled = none) (b : Array UInt8) (t : Tok) (S : Addr) (res : Value) (c₀ : Nat) (hS : s.heap.get? S = some { cls := .type "list", data := .seq #[] c₀ })
    (hR : ∀ h' tk acc' c', (∀ b o, b ≠ S → s.heap.get? b = some o → h'.get? b = some o) → h'.get? S = some { cls := .type "list", dict := none, data := .seq acc' c', slots := #[] } →
      ItemsOf (ByteAt b) acc' b.size → R (.ok (.ret res)) { s with heap := h', toks := tk }) (hn : b.size ≤ sizeLine) :
    wpAny (model prog w) A.in1 (Builtin.List.listExtendWith (.ref S) (.bytes b t) res)
      (fun fin s' => match fin with | .done f => R (.ok f) s' | .again c' => c'.quiet = true ∧ codeAny (model prog w) A c' R s') (fun e s' => R (.error e) s') s := by
  have hSI : S ≠ s.heap.objs.size := Nat.ne_of_lt (Heap.lt_size hS)
  have hSf : S ∉ [s.heap.objs.size] := fun hm => hSI (List.mem_singleton.mp hm)
  unfold Builtin.List.listExtendWith
  refine wpAny_bind (wpAny_typeOf (T := "bytes") (v := .bytes b t) rfl ?_)
  have h1 : Builtin.List.listSameRef (.ref S) (.bytes b t) = false := rfl
  have h2 : (Value.type "bytes" == Value.type "list") = false := by decide
  have h3 : (Value.type "bytes" == Value.type "tuple") = false := by decide
  simp only [h1, h2, h3, Bool.or_false, Bool.false_eq_true, if_false]
  refine wpAny_bind (KBw.pyIter_bytes ?_)
  refine wpAny_bind (wpAny_holding ?_)
  unfold Builtin.List.listLengthHint
  refine wpAny_bind (wpAny_specialOf (T := "bytes") (v := .bytes b t) rfl lb_len ?_)
  wp_delta
  refine wpAny_bind (wpAny_isInstance (T := "bytes") (v := .bytes b t) (b := true) rfl (by rw [isSubtype_type]; kernel_rfl) ?_)
  show wpAny _ _ (typeOf (Value.bytes b t) >>= _) _ _ _
  refine wpAny_bind (wpAny_typeOf (T := "bytes") (v := .bytes b t) rfl ?_)
  refine wpAny_pure ?_
  rw [if_neg (by decide)]
  have W := KBw.walks (prog := prog) (w := w) (A := A.in1) hh s.heap.objs.size b t
  refine wpAny_pure ⟨plainId_quiet F.plain_extend_loop _, codeAny_extend_loopS W.toS hn _ hSf _ b.size 0 _ _ _ rfl (Nat.zero_le _) ⟨_, Heap.get?_push_size _ rfl, rfl, rfl⟩ (Heap.get?_push_of_some _ hS) (ItemsOf.nil _) fun s' acc' c' hm hS' hacc => ?_⟩
  rw [Moved.eq_with hm]
  refine hR s'.heap s'.toks acc' c' (fun b ob hb e => hm.heap b ob (fun hmem => ?_) (Heap.get?_push_of_some _ e)) hS' hacc
  rcases List.mem_cons.mp hmem with e' | hmem
  · exact hb e'
  · exact absurd (Heap.lt_size e) (by rw [List.mem_singleton.mp hmem]; exact Nat.lt_irrefl _)
theorem lb_init {R : Result → Shared → Prop} (hh : A.handled = none) (b : Array UInt8) (t : Tok) (S : Addr) (hS : s.heap.get? S = some { cls := .type "list", data := .seq #[] })
    (hR : ∀ h' tk acc' c', (∀ b o, b ≠ S → s.heap.get? b = some o → h'.get? b = some o) → h'.get? S = some { cls := .type "list", dict := none, data := .seq acc' c', slots := #[] } →
      ItemsOf (ByteAt b) acc' b.size → R (.ok (.ret .none)) { s with heap := h', toks := tk }) (hn : b.size ≤ sizeLine) :
    wpAny (model prog w) A.in1 (Builtin.«list.__init__» ⟨[.ref S, .bytes b t], []⟩)
      (fun fin s' => match fin with | .done f => R (.ok f) s' | .again c' => c'.quiet = true ∧ codeAny (model prog w) A c' R s') (fun e s' => R (.error e) s') s := by
  show wpAny _ _ (do let old ← Builtin.List.listItems (.ref S); Builtin.List.listUpdate (.ref S) (fun _ => #[]); letGo old.toList.reverse; Builtin.List.listExtendWith (.ref S) (.bytes b t) .none) _ _ s
  refine wpAny_bind ?_
  unfold Builtin.List.listItems
  refine wpAny_bind (wpAny_seqItems hS rfl (wpAny_pure ?_))
  show wpAny _ _ (updateSeq S (fun _ => #[]) >>= fun _ => letGo (#[] : Array Value).toList.reverse >>= fun _ => Builtin.List.listExtendWith (.ref S) (.bytes b t) .none) _ _ s
  refine wpAny_bind (wpAny_updateSeq hS rfl ?_)
  have hS₂ := Heap.get?_update_self (Obj.mapSeq (fun _ => (#[] : Array Value))) hS rfl
  have oth : ∀ b o, b ≠ S → s.heap.get? b = some o → (s.heap.update S (Obj.mapSeq (fun _ => (#[] : Array Value)))).get? b = some o :=
    fun b o hb e => (Heap.get?_update_other _ _ (Ne.symm hb)).trans e
  refine wpAny_bind (wpAny_letGo ?_)
  refine lb_extend (hn := hn) hh b t S .none _ hS₂ fun h' tk acc' c' hk hS' hacc => ?_
  exact hR h' tk acc' c' (fun b o hb e => hk b o hb (oth b o hb e)) hS' hacc
theorem call_list_bytes {Q : Value → Shared → Prop} (hh : A.handled = none) (b : Array UInt8) (t : Tok)
    (hQ : ∀ h' tk acc' c', (∀ b o, s.heap.get? b = some o → h'.get? b = some o) →
      h'.get? s.heap.objs.size = some { cls := .type "list", dict := none, data := .seq acc' c', slots := #[] } → ItemsOf (ByteAt b) acc' b.size → Q (.ref s.heap.objs.size) { s with heap := h', toks := tk }) (hn : b.size ≤ sizeLine) :
    wpAny (model prog w) A (call (.type "list") [.bytes b t]) Q E s := by
  refine callType_codes (Q₁ := fun obj s₁ => obj = .ref s.heap.objs.size ∧ s₁ = { s with heap := s.heap.push { cls := .type "list", data := .seq #[] } }) F.called_list (F.typeCall_list_1 _) F.entry_list_init
    (code_list_new _ ⟨rfl, rfl⟩) fun obj s₁ h₁ => ?_
  obtain ⟨rfl, rfl⟩ := h₁
  have hS : (s.heap.push { cls := .type "list", data := .seq #[] }).get? s.heap.objs.size = some { cls := .type "list", data := .seq #[] } := Heap.get?_push_size _ rfl
  refine ⟨⟨_, hS, rfl⟩, F.args_list_init_2 _ _, lb_init (A := A.in1) (hn := hn) hh b t _ hS fun h' tk acc' c' hk hS' hacc => ?_⟩
  exact ⟨rfl, hQ h' tk acc' c' (fun b o e => hk b o (Nat.ne_of_lt (Heap.lt_size e)) (Heap.get?_push_of_some _ e)) hS' hacc⟩
theorem list_bytesL {h₀ : Heap} {L : Addr} {m : Str → Option Value} {news : Led} {b : Array UInt8} {t : Tok} {Q : Value → Shared → Prop} (hh : A.handled = none) (F : Fr h₀ L s.heap m) (N : News h₀ L s.heap news) (hn : b.size ≤ 4096)
    (h : ∀ l ws n h' tk', Fr h₀ L h' m → News h₀ L h' ((l, PySem.W.listOf ws.toArray n) :: news) → (∀ p ∈ news, p.1 < l) → IntsAre ws (KBw.bInts b) → Q (.ref l) { s with heap := h', toks := tk' }) :
    wpAny (model prog w) A (call (.type "list") [.bytes b t]) Q E s := by
  refine call_list_bytes hh b t (hn := by rw [sizeLine_eq]; omega) fun h' tk acc c hk hD hI => ?_
  have hD' : h'.get? s.heap.objs.size = some (PySem.W.listOf (List.toArray acc.toList) c) := by
    rw [Array.toArray_toList]
    exact hD
  refine h _ acc.toList c h' tk (F.keeps hk) (news_pushed F N hk hD' rfl) (fun p hp => Heap.lt_size (N p hp).1) (ints_of_at (by rw [Array.length_toList, hI.1]; exact (KBw.ints_length b).symm) fun j v n e1 e2 => ?_)
  obtain ⟨c', u, hc, rfl⟩ := hI.2 j v (by rw [← e1, Array.getElem?_toList])
  have := KBw.ints_get hc
  rw [e2] at this
  rw [Option.some.inj this]
  exact ⟨u, rfl⟩
end
end
section
local macro_rules | `(tactic| walk_at "-") => `(tactic| skip)
local macro_rules | `(tactic| walk_at "-") => `(tactic| skip)
local macro_rules | `(tactic| walk_at "-") => `(tactic| skip)
local macro_rules | `(tactic| walk_at "-") => `(tactic| skip)
local macro_rules | `(tactic| walk_at "-") => `(tactic| skip)
local macro_rules | `(tactic| walk_at "-") => `(tactic| skip)
local macro_rules | `(tactic| walk_at "-") => `(tactic| skip)
local macro_rules | `(tactic| walk_at "-") => `(tactic| skip)
local macro_rules | `(tactic| walk_at "-") => `(tactic| skip)
section
variable {n : Nat} {w : World} {mean : ExcName → Option Value} {mg mb : Str → Option Value} {dp un : Nat} {gd : Option (List Code)} {cn : Str} {cs : Scope} {a : Addr} {ccd : Value} {cl : List (Str × Addr)} {outer : List Env} {A₀ : Around} {base h₀ : Heap} {L : Addr} {m : Str → Option Value} {s : Shared} {Q E : Value → Shared → Prop} {own : Led}
theorem useXF {f : Addr} {vs : List Value} {pre : Heap → Prop} {bad : Prop} {news : Led} (C : SpecX w n f own vs pre (fun _ _ _ => False) bad) (S : Site n w mean mg mb dp un cs A₀ base h₀ outer L m s)
    (N : News h₀ L s.heap news) (ho : ∀ p ∈ own, p ∈ news) (hp : pre s.heap)
    (hx : ∀ e h' tk', bad → Flew s.heap (envX cn cs L a ccd cl :: outer) e h' → E (.ref e) { s with heap := h', toks := tk' }) :
    wpAny (model PR w) (ktrTop dp un gd cn cs L a ccd cl outer) (call (.ref f) vs) Q E s :=
  useX C S N ho hp (fun _ _ _ q _ _ _ => q.elim) hx
end
theorem c_checkbad (w : World) (l : Addr) (vs : List Value) (ns : List Int) : SpecX w 8 148 [] [.ref l] (fun h => (h.IsList l vs.toArray ∧ IntsAre vs ns) ∧ ¬ ∀ i ∈ ns, isScalar i = true) (fun _ _ _ => False) True := by
  intro mean mg mb dp un gd cn cs a ccd cl outer A₀ base h₀ L m s Q E S N hp hret hexc
  exact c_check w l vs ns mean mg mb dp un gd cn cs a ccd cl outer A₀ base h₀ L m s Q E S N hp.1 (fun v h' tk' st q => absurd q.2 hp.2) fun e h' tk' _ W => hexc e h' tk' trivial W
local macro_rules | `(tactic| walk_at "call ref") => `(tactic| ((with_reducible show wpAny _ _ (call (Value.ref 148) _) _ _ _); refine halt ?_))
theorem c_encbad (w : World) (l : Addr) (vs : List Value) (ns : List Int) : SpecX w 16 168 [] [.ref l, .none] (fun h => (h.IsList l vs.toArray ∧ IntsAre vs ns) ∧ ¬ ∀ i ∈ ns, isScalar i = true)
    (fun _ _ _ => False) True := by
  w_top off
  intro mean mg mb dp un gd cn cs a ccd cl outer A₀ base h₀ L m s Q E S N hpre hret hexc
  have hd9 := S.d
  have hu9 := S.u
  have XB1 := S.XB
  have TB1 := S.TB
  k_dflt (refine' enter S N ?k6 ?k7 ?k8 ?k9 ?kB ?_ ?c2 ?c3 ?c4 ?c5; (case k6 => k_is); (case k7 => k_is); (case k8 => ktr_room); (case k9 => (intro kX; first | exact BindsTo.of_eq rfl | exact binds_K kX rfl (by k_is) rfl rfl rfl)); (case c5 => decide); (case kB => exact locs rfl); (case c2 => exact rfl); (case c3 => exact rfl); (case c4 => exact rfl); k_whole)
  intro g L1 h1 F1 N1 B1 X1 T1 hin hup hlt hL1
  (try dsimp only)
  (try k_fold)
  have hl : g.IsList l vs.toArray := isList_up hup hpre.1.1 allNe_nil
  have hi := hpre.1.2
  have hbad := hpre.2
  k_steps
  refine Halt.go ?_
  rename Fr _ _ _ _ => kF; rename News _ _ _ _ => kN
  refine useXF (c_checkbad w l vs ns) ⟨B1, kF, X1, T1, rfl, by ktr_room, by ktr_units, XB1, TB1⟩ kN (List.forall_mem_nil _) ⟨⟨Fr.lst kF hl, hi⟩, hbad⟩ ?_
  intro _ _ _ _ _
  refine halt ?_
  (refine Halt.go ?_; rename_i e9 h9 tk9 bad9 W9; rename Fr _ _ _ _ => kF9; rename News _ _ _ _ => kN9; (iterate 3 ((try k_unfold); (try dsimp only))); refine flew_on rfl rfl (stays_of N hup kF9.keep (fun p hp => (kN9 p (by first | exact hp | exact absurd hp (List.not_mem_nil) | exact .tail _ hp | exact .tail _ (.tail _ hp) | exact .tail _ (.tail _ (.tail _ hp)) | exact .tail _ (.tail _ (.tail _ (.tail _ hp))) | exact .tail _ (.tail _ (.tail _ (.tail _ (.tail _ hp)))) | exact .tail _ (.tail _ (.tail _ (.tail _ (.tail _ (.tail _ hp))))) | exact .tail _ (.tail _ (.tail _ (.tail _ (.tail _ (.tail _ (.tail _ hp)))))))).1)) hL1 W9 fun h' W' => hexc _ _ _ ?_ W')
  exact trivial
local macro_rules | `(tactic| walk_at "call ref") => `(tactic| ((with_reducible show wpAny _ _ (call (Value.ref 168) _) _ _ _); refine halt ?_))
theorem c_lenbad (w : World) (l : Addr) (vs : List Value) (ns : List Int) : SpecX w 18 220 [] [.ref l] (fun h => (h.IsList l vs.toArray ∧ IntsAre vs ns) ∧ ¬ ∀ i ∈ ns, isScalar i = true)
    (fun _ _ _ => False) True := by
  w_top off
  intro mean mg mb dp un gd cn cs a ccd cl outer A₀ base h₀ L m s Q E S N hpre hret hexc
  have hd9 := S.d
  have hu9 := S.u
  have XB1 := S.XB
  have TB1 := S.TB
  k_dflt (refine' enter S N ?k6 ?k7 ?k8 ?k9 ?kB ?_ ?c2 ?c3 ?c4 ?c5; (case k6 => k_is); (case k7 => k_is); (case k8 => ktr_room); (case k9 => (intro kX; first | exact BindsTo.of_eq rfl | exact binds_K kX rfl (by k_is) rfl rfl rfl)); (case c5 => decide); (case kB => exact locs rfl); (case c2 => exact rfl); (case c3 => exact rfl); (case c4 => exact rfl); k_whole)
  intro g L1 h1 F1 N1 B1 X1 T1 hin hup hlt hL1
  (try dsimp only)
  (try k_fold)
  have hl : g.IsList l vs.toArray := isList_up hup hpre.1.1 allNe_nil
  have hi := hpre.1.2
  have hbad := hpre.2
  k_steps
  refine Halt.go ?_
  rename Fr _ _ _ _ => kF; rename News _ _ _ _ => kN
  refine useXF (c_encbad w l vs ns) ⟨B1, kF, X1, T1, rfl, by ktr_room, by ktr_units, XB1, TB1⟩ kN (List.forall_mem_nil _) ⟨⟨Fr.lst kF hl, hi⟩, hbad⟩ ?_
  intro _ _ _ _ _
  refine halt ?_
  (refine Halt.go ?_; rename_i e9 h9 tk9 bad9 W9; rename Fr _ _ _ _ => kF9; rename News _ _ _ _ => kN9; (iterate 3 ((try k_unfold); (try dsimp only))); refine flew_on rfl rfl (stays_of N hup kF9.keep (fun p hp => (kN9 p (by first | exact hp | exact absurd hp (List.not_mem_nil) | exact .tail _ hp | exact .tail _ (.tail _ hp) | exact .tail _ (.tail _ (.tail _ hp)) | exact .tail _ (.tail _ (.tail _ (.tail _ hp))) | exact .tail _ (.tail _ (.tail _ (.tail _ (.tail _ hp)))) | exact .tail _ (.tail _ (.tail _ (.tail _ (.tail _ (.tail _ hp))))) | exact .tail _ (.tail _ (.tail _ (.tail _ (.tail _ (.tail _ (.tail _ hp)))))))).1)) hL1 W9 fun h' W' => hexc _ _ _ ?_ W')
  exact trivial
theorem EnI.runL {ns : List Int} {many : Int} {R : List Int} (hs : ∀ i ∈ ns, i ≤ 1114111) : ∀ (k : Nat) (code : Int) (c : EnS), EnI ns many R code c → ns.length - c.n.toNat ≤ k → (R.length : Int) ≤ ns.length + 1 + 41 * ns.length
  | 0, code, c, h, hk => by
    have h0 := h.n0
    have hl := h.l
    rw [h.fin (by omega)]
    omega
  | k + 1, code, c, h, hk => by
    have h0 := h.n0
    by_cases hn : c.n < ns.length
    · obtain ⟨j, hj, hc⟩ := h.more hn
      cases hm : leastOf code ns with
      | none =>
        have sp := leastOf_spec code ns
        rw [hm] at sp
        exact absurd hc (sp j hj)
      | some m =>
        have st := h.step hn hm hs
        exact EnI.runL hs k _ _ st.1 (by dsimp only; omega)
    · have hl := h.l
      rw [h.fin hn]
      omega
theorem encF_len {ns : List Int} (h : ∀ i ∈ ns, isScalar i = true) : (encF ns).length ≤ 42 * ns.length + 1 := by
  have hs : ∀ i ∈ ns, 0 ≤ i ∧ i ≤ 1114111 := fun i hi => by
    have := h i hi
    simp only [isScalar, isCode, Bool.and_eq_true, decide_eq_true_eq] at this
    exact this.1
  have := EnI.runL (fun i hi => (hs i hi).2) _ _ _ (en_start fun i hi => (hs i hi).1) (Nat.le_refl _)
  omega
noncomputable def lawB : List Stmt := match PR.main.body.getLast? with
  | some (.FunctionDef _ _ body _ _ _ _ _ _ _) => body
  | _ => []
noncomputable def lawS : Option Scope := match PR.main.body.getLast? with
  | some (.FunctionDef _ _ _ _ _ _ sc _ _ _) => some sc
  | _ => none
theorem fr_eq {h₀ h : Heap} {L : Addr} {m m' : Str → Option Value} (F : Fr h₀ L h m) (e : ∀ z, m z = m' z) : Fr h₀ L h m' := by
  have : m = m' := funext e
  rw [← this]; exact F
theorem news_sub {h₀ h : Heap} {L : Addr} {news own : Led} (N : News h₀ L h news) (e : ∀ p ∈ own, p ∈ news) : News h₀ L h own := fun p hp => N p (e p hp)
end
section
local macro_rules | `(tactic| walk_at "-") => `(tactic| skip)
local macro_rules | `(tactic| walk_at "call ref") => `(tactic| first | walk_at "H23" | walk_at "H26" | walk_at "H25" | walk_at "H24" | walk_at "H22" | walk_at "H21" | walk_at "H20" | walk_at "H19" | walk_at "H18" | walk_at "H17")
local macro_rules | `(tactic| walk_at "call ref") => `(tactic| ((with_reducible show wpAny _ _ (call (Value.ref 168) _) _ _ _); refine halt ?_))
local macro_rules | `(tactic| walk_at "call ref") => `(tactic| ((with_reducible show wpAny _ _ (call (Value.ref 206) _) _ _ _); refine halt ?_))
local macro_rules | `(tactic| walk_at "call ref") => `(tactic| ((with_reducible show wpAny _ _ (call (Value.ref 198) _) _ _ _); refine halt ?_))
local macro_rules | `(tactic| walk_at "call ref") => `(tactic| ((with_reducible show wpAny _ _ (call (Value.ref 212) _) _ _ _); refine halt ?_))
local macro_rules | `(tactic| walk_at "call ref") => `(tactic| ((with_reducible show wpAny _ _ (call (Value.ref 245) _) _ _ _); refine halt ?_))
local macro_rules | `(tactic| walk_at "eval Name") => `(tactic| (k_here; (with_reducible show wpAny _ _ (eval (PySem.Expr.Name _ _) (compEnvC _ _ _ _)) _ _ _); k_dflt (first
  | refine own_name (by assumption) (by assumption) ?_
  | refine LCgL.ld_global (by k_asm) (by k_asm) (by k_asm) (by k_is) ?_)))
local macro_rules | `(tactic| walk_at "call type:bytes") => `(tactic| ((with_reducible show wpAny _ _ (call (Value.type "bytes") [Value.bytes _ _]) _ _ _); refine call_bytes_bytes ?_))
local macro_rules | `(tactic| walk_at "compareOp NotEq ref ref") => `(tactic| (k_here; (try k_fold); (with_reducible show wpAny _ _ (compareOp CmpOp.NotEq (Value.ref _) (Value.ref _)) _ _ _); k_dflt (refine' ke_ne_ints ?a ?b ?c ?d ?e ?_; (case a => (refine list_led ?lN ?lm; (case lN => k_asm); (case lm => k_mem))); (case b => (refine list_led ?lN ?lm; (case lN => k_asm); (case lm => k_mem))); (case c => first | exact IntsAre.nil | assumption); (case d => first | exact IntsAre.nil | assumption); (case e => ktr_units)); k_whole; (try ke_norm)))
local macro_rules | `(tactic| walk_at "compareOp Eq ref ref") => `(tactic| (k_here; (try k_fold); (with_reducible show wpAny _ _ (compareOp CmpOp.Eq (Value.ref _) (Value.ref _)) _ _ _); k_dflt (refine' ke_eq_ints ?a ?b ?c ?d ?e ?_; (case a => (refine list_led ?lN ?lm; (case lN => k_asm); (case lm => k_mem))); (case b => (refine list_led ?lN ?lm; (case lN => k_asm); (case lm => k_mem))); (case c => first | exact IntsAre.nil | assumption); (case d => first | exact IntsAre.nil | assumption); (case e => ktr_units)); k_whole; (try ke_norm)))
local macro_rules | `(tactic| walk_at "eval ListComp") => `(tactic| ((with_reducible show wpAny _ _ (eval (PySem.Expr.ListComp _ [⟨_, PySem.Expr.Call _ _ _ _, _, _⟩] _ _) _) _ _ _); refine halt ?_))
def capF (one : Int) : Int := if 97 ≤ one ∧ one ≤ 122 then one - 32 else one
theorem great_is : (encF [233, 945]).map capF = greatF := rfl
theorem great_small : smallF greatF [233, 945] = greatF.map casedF := by decide +kernel
theorem great_len : greatF.length ≤ 20 := by decide +kernel
theorem cap_rng {n : Int} (h : 0 ≤ n ∧ n < 256) : 0 ≤ capF n ∧ capF n < 256 := by unfold capF; split <;> omega
theorem sc2 : ∀ i ∈ ([233, 945] : List Int), isScalar i = true := by decide
theorem st9 (w : World) (mean : ExcName → Option Value) (mg mb : Str → Option Value) (base : Heap) (X : (hd.heap_39 w.params).In base) (T : Top hd.view_39 LO mean mg mb base) (L a c lt lw rv : Addr) (cd : Value) (m : Str → Option Value) (vt vw : List Value) (ts : List Int) (nt nw : Nat)
    (ht : IntsAre vt ts) (hw : IntsAre vw ts) (hz : ts.length ≤ 5) (s : Shared) (Q : Flow → Shared → Prop) (E : Value → Shared → Prop)
    (F : Fr base L s.heap (fun z => if z = Str.ofString "refused" then some (.ref rv) else if z = Str.ofString "text" then some (.ref lt) else if z = Str.ofString "was" then some (.ref lw) else m z))
    (N : News base L s.heap [(lt, PySem.W.listOf vt.toArray nt), (lw, PySem.W.listOf vw.toArray nw)])
    (hQ : ∀ h' tk', base.StaysIn h' → Q (.ret (.bool true)) { s with heap := h', toks := tk' }) (hne : @Ne Nat lt lw) :
    ∀ S B, some S = lawS → B = lawB.drop 10 → wpAny (model PR w) (callerA.deeper (envX (Str.ofString "law") S L a cd [(Str.ofString "deck", c)])) (execs B (envX (Str.ofString "law") S L a cd [(Str.ofString "deck", c)])) Q E s := by
  w_top off
  intro S B hS hB
  conv at hS => rhs; whnf
  conv at hB => rhs; whnf
  cases hS
  subst hB
  have K0 := below_caller base
  k_steps
  refine Halt.go ?_
  refine comp_bytes capF F (by rfl) (by decide) (by rfl) (by decide) (by rfl) (by rfl) ?_ (by intro _; with_unfolding_all rfl)
  intro Z hZ
  k_steps
  refine Halt.go ?_
  rename Fr _ _ _ _ => kF; rename News _ _ _ _ => kN
  refine useXb (c_enc1 w _ _ [233, 945]) ⟨K0, kF, X, T, rfl, by decide, by decide, X, T⟩ kN (List.forall_mem_nil _) ⟨list_led kN (.head _), .cons _ _ (.cons _ _ .nil), by decide⟩ ?_ ?_
  rotate_left
  · intro _ _ _ bad _; exact absurd sc2 bad
  clear kF
  intro B1 tb h9 tk9 hb1 hbl kF kN
  (try k_fold)
  k_steps
  refine hZ _ _ (encF [233, 945]) _ _ hb1 hbl kF kN ?_ ?_
  · rintro C n u m₂ E' ⟨h₂, ge, dr, tk₂, so⟩ Y hn Fc hm F₂ N₂ hY
    clear hZ
    have hnr := (bytes_rng hb1) n hn
    (try dsimp only at Fc F₂ N₂)
    k_steps
    all_goals refine hY _ _ _ (fun _ _ e => e) (ex_int ?_)
    · rw [capF, if_pos ⟨by assumption, by assumption⟩]
    · rw [capF, if_neg (fun q => absurd q.2 (by assumption))]
    · rw [capF, if_neg (fun q => absurd q.1 (by assumption))]
  · intro D ys n' h' tk F' N' ne hi
    clear hZ
    have hIn : KBa.In ((encF [233, 945]).map capF) := fun x hx => by
      obtain ⟨n, hn, rfl⟩ := List.mem_map.mp hx
      exact cap_rng (bytes_rng hb1 n hn)
    have hlen := hi.length
    rw [List.length_map] at hlen
    k_steps
    refine Halt.go ?_
    have hg : KBw.bInts (byteArr ((encF [233, 945]).map capF)) = greatF := KBa.ints_make hIn
    rename Fr _ _ _ _ => kF; rename News _ _ _ _ => kN
    generalize byteArr ((encF [233, 945]).map capF) = G at hg kF ⊢
    clear hIn hi hlen hbl hb1
    have hgl := great_len
    refine useT0 (c_told w G greatF _) ⟨K0, kF, X, T, rfl, by decide, by decide, X, T⟩ kN (List.forall_mem_nil _) ⟨hg, by omega⟩ ?_
    clear kF kN
    intro v h9 tk9 hv kp kF kN
    clear kp
    rw [great_told] at hv
    subst hv
    (try k_fold)
    k_steps
    refine Halt.go ?_
    rename Fr _ _ _ _ => kF; rename News _ _ _ _ => kN
    refine useXL (c_dec1 w G greatF _) ⟨K0, kF, X, T, rfl, by decide, by decide, X, T⟩ kN (List.forall_mem_nil _) ⟨hg, by omega⟩ ?_ ?_
    rotate_left
    · intro _ _ _ bad _; rw [great_dec] at bad; cases bad
    clear kF kN
    intro lt2 ws ns nn h9 tk9 kF kN hne2 hi hr hz2
    rw [great_dec] at hr
    cases hr
    (replace hne2 := allNe_of hne2); (simp only [AllNe, and_true] at hne2)
    (try k_fold)
    k_steps
    refine Halt.go ?_
    rename Fr _ _ _ _ => kF; rename News _ _ _ _ => kN
    refine useY (c_small2 w G greatF _ _ _ [233, 945]) ⟨K0, kF, X, T, rfl, by decide, by decide, X, T⟩ kN (List.forall_mem_nil _) ⟨hg, by omega, list_led kN (.head _), .cons _ _ (.cons _ _ .nil), by decide⟩ ?_
    clear kF kN
    intro B1 tb1 h9 tk9 hs1 hs1l kF kN
    (try k_fold)
    k_steps
    refine Halt.go ?_
    rename Fr _ _ _ _ => kF; rename News _ _ _ _ => kN
    refine useY (c_law_small w G greatF _) ⟨K0, kF, X, T, rfl, by decide, by decide, X, T⟩ kN (List.forall_mem_nil _) ⟨hg, by omega⟩ ?_
    clear kF kN
    intro B2 tb2 h9 tk9 hs2 hs2l kF kN
    (try k_fold)
    k_steps
    · rename Fr _ _ _ _ => kF
      exact hQ _ _ kF.keep
    · rename_i a9
      rw [bytes_beq, hs1, hs2, decide_eq_true great_small] at a9
      cases a9
end
section
local macro_rules | `(tactic| walk_at "-") => `(tactic| skip)
local macro_rules | `(tactic| walk_at "call ref") => `(tactic| first | walk_at "H23" | walk_at "H26" | walk_at "H25" | walk_at "H24" | walk_at "H22" | walk_at "H21" | walk_at "H20" | walk_at "H19" | walk_at "H18" | walk_at "H17")
theorem look_told {h : Heap} {dx : Addr} {od : Obj} {v : Value} {x : Str} (e : h.get? dx = some od) (n : h.Ns dx (fun y => if y = x then some v else none)) : lookIn x od = some (some v) := by
  obtain ⟨o, es, ep, q, hd, hk, hf⟩ := n
  rw [e] at q; cases q
  have := hf x
  dsimp only at this
  rw [if_pos rfl] at this
  unfold nsFind findBy at this
  unfold lookIn
  rw [hd]
  dsimp only
  rw [← Array.find?_toList] at this
  cases hq : es.toList.find? (fun e => e.key.isStr x) with
  | none => rw [hq] at this; cases this
  | some y => rw [hq] at this; cases this; rfl
theorem getattr_exc {prog : Program} {w : World} {A : Around} {E : Value → Shared → Prop} {s : Shared} {K : Frag} {x C : Addr} {ox : Obj} {od : Option Obj} {name : Str} {expr : Bool} {v : Value} {Q : Value → Shared → Prop} (X : K.In s.heap) (I : InstAt s.heap x ox C od)
    (hga : findIn K (.ref C) "__getattribute__" = some (some (.builtin "BaseException.__getattribute__"))) (hgh : findIn K (.ref C) "__getattr__" = some none) (hm : mroIn K C (.type "BaseException") = some true)
    (hf : findObj K C od name = some (.value v)) (hh : handedIn v = true) (h : Q v { s with toks := s.toks + 1 }) : wpAny (model prog w) A (getAttr (.ref x) name expr) Q E s := by
  obtain ⟨hp, g, d, t, os⟩ := s
  have L0 := I.type (M := model prog w)
  have L1 := looks_findIn (M := model prog w) X hga
  have L2 := looks_findIn (M := model prog w) X hgh
  have L3 := looks_find (M := model prog w) X I hf
  have sub : Looks (model prog w) hp (isInstance (.ref x) (.type "BaseException")) true := I.type.andThen (looks_mroIn X hm)
  have SF := PySem.F.attr_Exception.ga
  have hx2 : (Value.builtin "BaseException.__getattribute__" == Value.builtin "object.__getattribute__") = false := by decide +kernel
  unfold getAttr getAttrBy
  refine wpAny_bind (wpAny_mkText (wpAny_holding (wpAny_bind (L0.at (wpAny_bind (L1.at ?_))))))
  dsimp only
  rw [hx2, Bool.and_false, if_neg (by decide)]
  unfold getAttrByItsOwn hookBefore
  refine wpAny_bind ?_
  rw [if_pos (show onTheHeap (Value.ref C) = true from rfl)]
  refine L2.at ?_
  refine wpAny_bind (wpAny_attempt (wpAny_holding ?_))
  unfold callGetattribute
  rw [if_neg (by cases expr <;> decide)]
  unfold boundAndCalled
  refine wpAny_bind ?_
  rw [SF.bind (.ref x)]
  refine wpAny_pure ?_
  dsimp only
  refine wpAny_call (codeAny_call_builtin SF.plain PySem.F.entry_bexc_ga ?_)
  refine @check_slot (model prog w) _ _ _ "BaseException.__getattribute__" "BaseException" "__getattribute__" (.ref x) [.str name t] [] _ (by decide +kernel) (by decide +kernel) sub (PySem.F.args_bexc_ga _ _) ?_
  refine wpAny_bind (wpAny_pure ?_)
  refine wpAny_bind (wpAny_pure (wpAny_bind (L0.at (wpAny_bind (L3.at ?_)))))
  refine wpAny_pure ?_
  dsimp only
  rw [handedOut_of hh]; exact wpAny_pure h
theorem getattr_told {w : World} {A : Around} {E : Value → Shared → Prop} {s : Shared} {h₀ : Heap} {L e dx v : Addr} {oe od : Obj} {vs : Array Value} {rest : Led} {expr : Bool} {Q : Value → Shared → Prop} (X : (hd.heap_39 w.params).In s.heap) (N : News h₀ L s.heap ((e, oe) :: (dx, od) :: rest))
    (h1 : oe.cls = .ref 45) (h2 : oe.dict = some dx) (h3 : oe.data = .fields vs) (hn : ∀ h : Heap, h.get? dx = some od → h.Ns dx (fun y => if y = Str.ofString "told" then some (.ref v) else none)) (hQ : Q (.ref v) { s with toks := s.toks + 1 }) :
    wpAny (model PR w) A (getAttr (.ref e) (Str.ofString "told") expr) Q E s := by
  have n1 := (N _ (.head _)).1
  have n2 := (N _ (.tail _ (.head _))).1
  refine getattr_exc (C := 45) X (ox := oe) (od := some od) ⟨n1, h1, ?_, ?_⟩ ?_ ?_ ?_ (findObj_own (attr := none) ?_ ?_ ?_ (look_told n2 (hn _ n2))) rfl hQ
  · unfold notCls; rw [h3]
  · rw [h2]; exact n2
  · k_is
  · k_is
  · k_is
  · k_is
  · k_is
  · rfl
theorem name_goes {M : Model} {A : Around} {E : Value → Shared → Prop} {s : Shared} {h₀ : Heap} {L a : Addr} {m : Str → Option Value} {name n : Str} {scope : Scope} {cd : Value} {cl : List (Str × Addr)} {pos : Pos} {news : Led} {Q : Unit → Shared → Prop} (F : Fr h₀ L s.heap m) (N : News h₀ L s.heap news)
    (h : ∀ h' v, Fr h₀ L h' (fun x => if x = n then v else m x) → News h₀ L h' news → Q () { s with heap := h', toks := s.toks + 1 })
    (hk : scope.kind = .function := by rfl) (hl : (envX name scope L a cd cl).kindOf n = some .local := by rfl) :
    wpAny M A (do bindName (envX name scope L a cd cl) n .none; unbindBehindTheSuite (envX name scope L a cd cl) n pos) Q E s :=
  wpAny_nameGoes_keeps hl F.ns (by show (scope.kind == .class || (scope.kind == .module && L != mainGlobals)) = false; rw [hk]; rfl) fun h' v hn hs => h h' v (F.set hn hs) (N.set hs)
theorem fr_put {h₀ h : Heap} {L : Addr} {m : Str → Option Value} (x : Str) {v : Option Value} (F : Fr h₀ L h m) (e : m x = v) : Fr h₀ L h (fun z => if z = x then v else m z) := fr_eq F fun z => by
  by_cases q : z = x
  · rw [if_pos q, q, e]
  · rw [if_neg q]
local macro_rules | `(tactic| walk_at "call ref") => `(tactic| ((with_reducible show wpAny _ _ (call (Value.ref 220) _) _ _ _); refine halt ?_))
local macro_rules | `(tactic| walk_at "exec Try") => `(tactic| ((with_reducible show wpAny _ _ (exec (Stmt.Try _ (_ :: _) _ [] _) _) _ _ _); refine wpAny_Try_except ?_))
theorem st8 (w : World) (mean : ExcName → Option Value) (mg mb : Str → Option Value) (base : Heap) (X : (hd.heap_39 w.params).In base) (T : Top hd.view_39 LO mean mg mb base) (L a c lt lw : Addr) (cd : Value) (m : Str → Option Value) (vt vw : List Value) (ts : List Int) (nt nw : Nat)
    (ht : IntsAre vt ts) (hw : IntsAre vw ts) (hz : ts.length ≤ 5) (s : Shared) (Q : Flow → Shared → Prop) (E : Value → Shared → Prop)
    (F : Fr base L s.heap (fun z => if z = Str.ofString "text" then some (.ref lt) else if z = Str.ofString "was" then some (.ref lw) else m z))
    (N : News base L s.heap [(lt, PySem.W.listOf vt.toArray nt), (lw, PySem.W.listOf vw.toArray nw)])
    (hQ : ∀ h' tk', base.StaysIn h' → Q (.ret (.bool true)) { s with heap := h', toks := tk' }) (hne : @Ne Nat lt lw) :
    ∀ S B, some S = lawS → B = lawB.drop 8 → wpAny (model PR w) (callerA.deeper (envX (Str.ofString "law") S L a cd [(Str.ofString "deck", c)])) (execs B (envX (Str.ofString "law") S L a cd [(Str.ofString "deck", c)])) Q E s := by
  w_top off
  intro S B hS hB
  conv at hS => rhs; whnf
  conv at hB => rhs; whnf
  cases hS
  subst hB
  have K0 := below_caller base
  have hlen := ht.length
  have hbad : ¬ ∀ i ∈ ts ++ [55296], isScalar i = true := fun h => absurd (h 55296 (by simp)) (by decide)
  k_steps
  refine Halt.go ?_
  rename Fr _ _ _ _ => kF; rename News _ _ _ _ => kN
  refine useXF (c_lenbad w _ _ (ts ++ [55296])) ⟨K0, kF, X, T, rfl, by decide, by decide, X, T⟩ kN (List.forall_mem_nil _) ⟨⟨list_led kN (.head _), by assumption⟩, hbad⟩ ?_
  intro e9 h9 tk9 _ W9
  (iterate 3 ((try k_unfold); (try dsimp only)))
  refine caughtB W9 kF kN K0 X T (by k_is) ?_
  clear kF kN
  intro h9 g9 tk9 oe vs dx od v T9 kF kN kB kX kT ho1 ho2 ho3 hns
  (try k_fold)
  k_steps
  refine getattr_told (X := kX.keeps kF.keep) kN ho1 ho2 ho3 hns ?_
  (try k_fold)
  k_steps
  rename Fr _ _ _ _ => kF; rename News _ _ _ _ => kN
  refine name_goes kF kN ?_
  clear kF kN
  intro h9 v9 kF kN
  (iterate 2 ((try k_unfold); (try dsimp only)))
  refine st9 w mean mg mb g9 kX kT L a c lt lw v cd _ vt vw ts nt nw ht hw hz _ Q E (fr_put (Str.ofString "refused") (fr_put (Str.ofString "text") (fr_put (Str.ofString "was") kF rfl) rfl) rfl) (kst_newsOf kN (by kst_in)) ?_ hne _ _ rfl rfl
  intro h' tk' kp
  exact hQ h' tk' fun b o e => kp b o (T9.other b o e List.not_mem_nil)
end
section
local macro_rules | `(tactic| walk_at "call ref") => `(tactic| first | walk_at "H23" | walk_at "H26" | walk_at "H25" | walk_at "H24" | walk_at "H22" | walk_at "H21" | walk_at "H20" | walk_at "H19" | walk_at "H18" | walk_at "H17")
local macro_rules | `(tactic| walk_at "call type:bytes") => `(tactic| ((with_reducible show wpAny _ _ (call (Value.type "bytes") [Value.bytes _ _]) _ _ _); refine call_bytes_bytes ?_))
local macro_rules | `(tactic| walk_at "call ref") => `(tactic| ((with_reducible show wpAny _ _ (call (Value.ref 220) _) _ _ _); refine halt ?_))
local macro_rules | `(tactic| walk_at "execs cons Assign cons") => `(tactic| ((with_reducible show wpAny _ _ (execs (Stmt.Assign [PySem.Expr.Name (Str.ofString "refused") _] _ _ :: _) _) _ _ _); refine halt ?_))
local macro_rules | `(tactic| walk_at "execs cons") => `(tactic| ((with_reducible show wpAny _ _ (execs (Stmt.Assign [PySem.Expr.Name (Str.ofString "refused") _] _ _ :: _) _) _ _ _); refine halt ?_))
local macro_rules | `(tactic| walk_at "call ref") => `(tactic| ((with_reducible show wpAny _ _ (call (Value.ref 212) _) _ _ _); refine halt ?_))
local macro_rules | `(tactic| walk_at "call ref") => `(tactic| ((with_reducible show wpAny _ _ (call (Value.ref 245) _) _ _ _); refine halt ?_))
theorem st7 (w : World) (mean : ExcName → Option Value) (mg mb : Str → Option Value) (base : Heap) (X : (hd.heap_39 w.params).In base) (T : Top hd.view_39 LO mean mg mb base) (L a c lt lw : Addr) (cd : Value) (m : Str → Option Value) (vt vw : List Value) (ts os : List Int) (nt nw : Nat) (bl bb : Array UInt8) (tl tb tm : Tok)
    (ht : IntsAre vt ts) (hw : IntsAre vw ts) (hz : ts.length ≤ 5) (hsc : ∀ i ∈ ts, isScalar i = true) (hbl : KBw.bInts bl = encF ts) (hbb : KBw.bInts bb = os) (hbz : os.length ≤ 4096) (s : Shared) (Q : Flow → Shared → Prop) (E : Value → Shared → Prop)
    (F : Fr base L s.heap (fun z => if z = Str.ofString "text" then some (.ref lt) else if z = Str.ofString "was" then some (.ref lw) else if z = Str.ofString "label" then some (.bytes bl tl) else if z = Str.ofString "bent" then some (.bytes bb tb) else if z = Str.ofString "many" then some (.int (ts.filter (fun a => decide (a < 128))).length tm) else m z))
    (N : News base L s.heap [(lt, PySem.W.listOf vt.toArray nt), (lw, PySem.W.listOf vw.toArray nw)])
    (hQ : ∀ h' tk', base.StaysIn h' → Q (.ret (.bool true)) { s with heap := h', toks := tk' }) (hne : @Ne Nat lt lw) :
    ∀ S B, some S = lawS → B = lawB.drop 7 → wpAny (model PR w) (callerA.deeper (envX (Str.ofString "law") S L a cd [(Str.ofString "deck", c)])) (execs B (envX (Str.ofString "law") S L a cd [(Str.ofString "deck", c)])) Q E s := by
  w_top off
  intro S B hS hB
  conv at hS => rhs; whnf
  conv at hB => rhs; whnf
  cases hS
  subst hB
  have K0 := below_caller base
  have hlen := ht.length
  have hll := encF_len hsc
  have hbs : bl.size = (encF ts).length := by rw [← hbl]; exact (KBw.ints_length bl).symm
  have hbs2 : bb.size = os.length := by rw [← hbb]; exact (KBw.ints_length bb).symm
  have hfl : (ts.filter (fun a => decide (a < 128))).length ≤ 5 := Nat.le_trans (List.length_filter_le _ _) hz
  k_steps
  refine Halt.go ?_
  rename Fr _ _ _ _ => kF; rename News _ _ _ _ => kN
  refine useX (c_length w _ _ ts) ⟨K0, kF, X, T, rfl, by decide, by decide, X, T⟩ kN (List.forall_mem_nil _) ⟨list_led kN (.head _), ht, by omega⟩ ?_ ?_
  rotate_left
  · intro _ _ _ bad _; exact absurd hsc bad
  (try clear kF kN)
  rintro v9 h9 tk9 ⟨t9, rfl⟩ st9 kF kN
  clear st9
  (try k_fold)
  k_steps
  · rename_i a9; exact absurd rfl a9
  refine Halt.go ?_
  rename Fr _ _ _ _ => kF; rename News _ _ _ _ => kN
  refine useY (c_small2 w bb os _ _ _ ts) ⟨K0, kF, X, T, rfl, by decide, by decide, X, T⟩ kN (List.forall_mem_nil _) ⟨hbb, by omega, list_led kN (.head _), ht, by omega⟩ ?_
  clear kF kN
  intro B1 tb1 h9 tk9 hs1 hs1l kF kN
  (try k_fold)
  k_steps
  refine Halt.go ?_
  rename KBw.bInts (KBy.picked bb none (some _)) = _ => hT
  rename KBw.bInts (KBy.picked bb (some _) none) = _ => hD
  rw [pick_take] at hT
  rw [pick_drop] at hD
  rename Fr _ _ _ _ => kF; rename News _ _ _ _ => kN
  refine useY (c_law_small w _ (os.drop (ts.filter (fun a => decide (a < 128))).length) _) ⟨K0, kF, X, T, rfl, by decide, by decide, X, T⟩ kN (List.forall_mem_nil _) ⟨hD, by rw [List.length_drop]; omega⟩ ?_
  clear kF kN
  intro B2 tb2 h9 tk9 hs2 hs2l kF kN
  (try k_fold)
  k_steps
  · rename_i a9
    rename KBw.bInts (_ ++ _) = _ => hA
    rw [bne, bytes_beq, hs1, hA, decide_eq_true (by rfl)] at a9
    cases a9
  · refine Halt.go ?_
    rename Fr _ _ _ _ => kF; rename News _ _ _ _ => kN
    refine st8 w mean mg mb base X T L a c lt lw cd _ vt vw ts nt nw ht hw hz _ Q E (fr_put (Str.ofString "text") (fr_put (Str.ofString "was") kF rfl) rfl) kN ?_ hne _ _ rfl rfl
    intro h' tk'
    exact hQ h' tk'
end
section
local macro_rules | `(tactic| walk_at "-") => `(tactic| skip)
local macro_rules | `(tactic| walk_at "call ref") => `(tactic| first | walk_at "H23" | walk_at "H26" | walk_at "H25" | walk_at "H24" | walk_at "H22" | walk_at "H21" | walk_at "H20" | walk_at "H19" | walk_at "H18" | walk_at "H17")
local macro_rules | `(tactic| walk_at "call ref") => `(tactic| ((with_reducible show wpAny _ _ (call (Value.ref 206) _) _ _ _); refine halt ?_))
local macro_rules | `(tactic| walk_at "call ref") => `(tactic| ((with_reducible show wpAny _ _ (call (Value.ref 264) _) _ _ _); refine halt ?_))
local macro_rules | `(tactic| walk_at "execs cons") => `(tactic| ((with_reducible show wpAny _ _ (execs (Stmt.If (PySem.Expr.BoolOp _ _ _) _ _ _ :: _) _) _ _ _); refine halt ?_))
theorem st6 (w : World) (mean : ExcName → Option Value) (mg mb : Str → Option Value) (base : Heap) (X : (hd.heap_39 w.params).In base) (T : Top hd.view_39 LO mean mg mb base) (L a c lt lw : Addr) (cd : Value) (m : Str → Option Value) (vt vw : List Value) (ts os : List Int) (nt nw : Nat) (bl bb bd : Array UInt8) (tl tb tm td : Tok)
    (ht : IntsAre vt ts) (hw : IntsAre vw ts) (hz : ts.length ≤ 5) (hsc : ∀ i ∈ ts, isScalar i = true) (hbl : KBw.bInts bl = encF ts) (hbb : KBw.bInts bb = os) (hbz : os.length ≤ 4096) (hbd : (KBw.bInts bd).length ≤ 10) (s : Shared) (Q : Flow → Shared → Prop)
    (F : Fr base L s.heap (fun z => if z = Str.ofString "text" then some (.ref lt) else if z = Str.ofString "was" then some (.ref lw) else if z = Str.ofString "label" then some (.bytes bl tl) else if z = Str.ofString "bent" then some (.bytes bb tb) else if z = Str.ofString "many" then some (.int (ts.filter (fun a => decide (a < 128))).length tm) else if z = Str.ofString "drawn" then some (.bytes bd td) else m z))
    (N : News base L s.heap [(lt, PySem.W.listOf vt.toArray nt), (lw, PySem.W.listOf vw.toArray nw)])
    (hQ : ∀ h' tk', base.StaysIn h' → Q (.ret (.bool true)) { s with heap := h', toks := tk' }) (hne : @Ne Nat lt lw) :
    ∀ S B, some S = lawS → B = lawB.drop 6 → wpAny (model PR w) (callerA.deeper (envX (Str.ofString "law") S L a cd [(Str.ofString "deck", c)])) (execs B (envX (Str.ofString "law") S L a cd [(Str.ofString "deck", c)])) Q (fun _ _ => False) s := by
  w_top off
  intro S B hS hB
  conv at hS => rhs; whnf
  conv at hB => rhs; whnf
  cases hS
  subst hB
  have K0 := below_caller base
  have hlen := ht.length
  have hll := encF_len hsc
  have hbs : bl.size = (encF ts).length := by rw [← hbl]; exact (KBw.ints_length bl).symm
  have hbs2 : bb.size = os.length := by rw [← hbb]; exact (KBw.ints_length bb).symm
  have hfl : (ts.filter (fun a => decide (a < 128))).length ≤ 5 := Nat.le_trans (List.length_filter_le _ _) hz
  have hs1 : (KBw.bInts bl).length ≤ 4096 := by rw [hbl]; omega
  have hs2 : (KBw.bInts bb).length ≤ 4096 := by rw [hbb]; omega
  have hs3 : (KBw.bInts bd).length ≤ 4096 := by omega
  k_steps
  all_goals (try exact PassesOwn.never)
  rename KBw.bInts (_ ++ _) = _ => hA
  have hs4 := congrArg List.length hA
  rw [List.length_append, List.length_map, List.length_singleton] at hs4
  refine Halt.go ?_
  rename Fr _ _ _ _ => kF; rename News _ _ _ _ => kN
  refine useT0 (c_told w _ _ _) ⟨K0, kF, X, T, rfl, by decide, by decide, X, T⟩ kN (List.forall_mem_nil _) ⟨rfl, by omega⟩ ?_
  clear kF kN
  intro v h9 tk9 hv kp kF kN
  clear kp
  subst hv
  (try k_fold)
  k_steps
  refine Halt.go ?_
  rename Fr _ _ _ _ => kF; rename News _ _ _ _ => kN
  refine useT0 (c_law_told w _ _ _) ⟨K0, kF, X, T, rfl, by decide, by decide, X, T⟩ kN (List.forall_mem_nil _) ⟨rfl, by omega⟩ ?_
  clear kF kN
  intro v h9 tk9 hv kp kF kN
  clear kp
  rw [← told_same (bytes_low rfl)] at hv
  subst hv
  (try k_fold)
  k_steps
  · rename_i a9
    simp at a9
  refine Halt.go ?_
  rename Fr _ _ _ _ => kF; rename News _ _ _ _ => kN
  refine useT0 (c_told w _ _ _) ⟨K0, kF, X, T, rfl, by decide, by decide, X, T⟩ kN (List.forall_mem_nil _) ⟨rfl, by omega⟩ ?_
  clear kF kN
  intro v h9 tk9 hv kp kF kN
  clear kp
  subst hv
  (try k_fold)
  k_steps
  refine Halt.go ?_
  rename Fr _ _ _ _ => kF; rename News _ _ _ _ => kN
  refine useT0 (c_law_told w _ _ _) ⟨K0, kF, X, T, rfl, by decide, by decide, X, T⟩ kN (List.forall_mem_nil _) ⟨rfl, by omega⟩ ?_
  clear kF kN
  intro v h9 tk9 hv kp kF kN
  clear kp
  rw [← told_same (bytes_low rfl)] at hv
  subst hv
  (try k_fold)
  k_steps
  · rename_i a9
    simp at a9
  refine Halt.go ?_
  rename Fr _ _ _ _ => kF; rename News _ _ _ _ => kN
  refine useT0 (c_told w _ _ _) ⟨K0, kF, X, T, rfl, by decide, by decide, X, T⟩ kN (List.forall_mem_nil _) ⟨rfl, by omega⟩ ?_
  clear kF kN
  intro v h9 tk9 hv kp kF kN
  clear kp
  subst hv
  (try k_fold)
  k_steps
  refine Halt.go ?_
  rename Fr _ _ _ _ => kF; rename News _ _ _ _ => kN
  refine useT0 (c_law_told w _ _ _) ⟨K0, kF, X, T, rfl, by decide, by decide, X, T⟩ kN (List.forall_mem_nil _) ⟨rfl, by omega⟩ ?_
  clear kF kN
  intro v h9 tk9 hv kp kF kN
  clear kp
  rw [← told_same (bytes_low rfl)] at hv
  subst hv
  (try k_fold)
  k_steps
  · rename_i a9
    simp at a9
  refine Halt.go ?_
  rename Fr _ _ _ _ => kF; rename News _ _ _ _ => kN
  refine useT0 (c_told w _ _ _) ⟨K0, kF, X, T, rfl, by decide, by decide, X, T⟩ kN (List.forall_mem_nil _) ⟨rfl, by omega⟩ ?_
  clear kF kN
  intro v h9 tk9 hv kp kF kN
  clear kp
  subst hv
  (try k_fold)
  k_steps
  refine Halt.go ?_
  rename Fr _ _ _ _ => kF; rename News _ _ _ _ => kN
  refine useT0 (c_law_told w _ _ _) ⟨K0, kF, X, T, rfl, by decide, by decide, X, T⟩ kN (List.forall_mem_nil _) ⟨rfl, by omega⟩ ?_
  clear kF kN
  intro v h9 tk9 hv kp kF kN
  clear kp
  rw [← told_same (bytes_low rfl)] at hv
  subst hv
  (try k_fold)
  k_steps
  · rename_i a9
    simp at a9
  refine Halt.go ?_
  rename Fr _ _ _ _ => kF; rename News _ _ _ _ => kN
  refine st7 w mean mg mb base X T L a c lt lw cd _ vt vw ts os nt nw bl bb tl tb tm ht hw hz hsc hbl hbb hbz _ Q _ (fr_put (Str.ofString "text") (fr_put (Str.ofString "was") (fr_put (Str.ofString "label") (fr_put (Str.ofString "bent") (fr_put (Str.ofString "many") kF rfl) rfl) rfl) rfl) rfl) (news_sub kN fun p hp => .tail _ hp) ?_ hne _ _ rfl rfl
  intro h' tk'
  exact hQ h' tk'
end
section
local macro_rules | `(tactic| walk_at "-") => `(tactic| skip)
local macro_rules | `(tactic| walk_at "-") => `(tactic| skip)
local macro_rules | `(tactic| walk_at "-") => `(tactic| skip)
local macro_rules | `(tactic| walk_at "-") => `(tactic| skip)
local macro_rules | `(tactic| walk_at "-") => `(tactic| skip)
local macro_rules | `(tactic| walk_at "-") => `(tactic| skip)
local macro_rules | `(tactic| walk_at "-") => `(tactic| skip)
local macro_rules | `(tactic| walk_at "-") => `(tactic| skip)
local macro_rules | `(tactic| walk_at "call ref") => `(tactic| first | walk_at "H23" | walk_at "H26" | walk_at "H25" | walk_at "H24" | walk_at "H22" | walk_at "H21" | walk_at "H20" | walk_at "H19" | walk_at "H18" | walk_at "H17")
local macro_rules | `(tactic| walk_at "call ref") => `(tactic| ((with_reducible show wpAny _ _ (call (Value.ref 232) _) _ _ _); refine halt ?_))
local macro_rules | `(tactic| walk_at "call ref") => `(tactic| ((with_reducible show wpAny _ _ (call (Value.ref 239) _) _ _ _); refine halt ?_))
local macro_rules | `(tactic| walk_at "eval ListComp") => `(tactic| ((with_reducible show wpAny _ _ (eval (PySem.Expr.ListComp (PySem.Expr.Call _ _ _ _) [⟨_, PySem.Expr.Call _ _ _ _, _, _⟩] _ _) _) _ _ _); refine halt ?_))
local macro_rules | `(tactic| walk_at "CompSrc") => `(tactic| refine halt ?_)
theorem rng_ok {r : Int} (h0 : 0 ≤ r) (h1 : r < 7) : Builtin.Range.small 0 r 1 = true ∧ Builtin.Range.rangeSize 0 r 1 = (r.toNat : Int) ∧ r.toNat ≤ sizeLine := by
  have : r = 0 ∨ r = 1 ∨ r = 2 ∨ r = 3 ∨ r = 4 ∨ r = 5 ∨ r = 6 := by omega
  refine ⟨?_, ?_, by rw [sizeLine_eq]; omega⟩ <;> rcases this with rfl | rfl | rfl | rfl | rfl | rfl | rfl <;> decide
local macro_rules | `(tactic| walk_at "call type:list") => `(tactic| ((with_reducible show wpAny _ _ (call (Value.type "list") [Value.bytes _ _]) _ _ _); refine halt ?_))
local macro_rules | `(tactic| walk_at "execs cons") => `(tactic| ((with_reducible show wpAny _ _ (execs (Stmt.For _ _ _ _ _ :: _) _) _ _ _); refine halt ?_))
theorem st5 (w : World) (mean : ExcName → Option Value) (mg mb : Str → Option Value) (base : Heap) (X : (hd.heap_39 w.params).In base) (T : Top hd.view_39 LO mean mg mb base) (L a c lt lw dk lc : Addr) (cd : Value) (m : Str → Option Value) (vt vw : List Value) (ts os : List Int) (nt nw : Nat) (bl bb : Array UInt8) (tl tb tm : Tok) (oc : Obj) (cc : DkS)
    (ht : IntsAre vt ts) (hw : IntsAre vw ts) (hz : ts.length ≤ 5) (hsc : ∀ i ∈ ts, isScalar i = true) (hbl : KBw.bInts bl = encF ts) (hbb : KBw.bInts bb = os) (hbz : os.length ≤ 4096) (hoc : oc.data = .cell (some (.ref dk))) (hok : DkOk w lc cc) (htu : 0 ≤ cc.tu ∧ cc.tu ≤ 500) (s : Shared) (Q : Flow → Shared → Prop)
    (F : Fr base L s.heap (fun z => if z = Str.ofString "text" then some (.ref lt) else if z = Str.ofString "was" then some (.ref lw) else if z = Str.ofString "label" then some (.bytes bl tl) else if z = Str.ofString "bent" then some (.bytes bb tb) else if z = Str.ofString "many" then some (.int (ts.filter (fun a => decide (a < 128))).length tm) else m z))
    (N : News base L s.heap (Led2 dk lc cc [(c, oc), (lt, PySem.W.listOf vt.toArray nt), (lw, PySem.W.listOf vw.toArray nw)]))
    (hdl : @Ne Nat dk lc) (hoff : ∀ p ∈ [(c, oc), (lt, PySem.W.listOf vt.toArray nt), (lw, PySem.W.listOf vw.toArray nw)], p.1 ≠ dk ∧ p.1 ≠ lc)
    (hQ : ∀ h' tk', base.StaysIn h' → Q (.ret (.bool true)) { s with heap := h', toks := tk' }) (hne : @Ne Nat lt lw) :
    ∀ S B, some S = lawS → B = lawB.drop 5 → wpAny (model PR w) (callerA.deeper (envX (Str.ofString "law") S L a cd [(Str.ofString "deck", c)])) (execs B (envX (Str.ofString "law") S L a cd [(Str.ofString "deck", c)])) Q (fun _ _ => False) s := by
  w_top off
  intro S B hS hB
  conv at hS => rhs; whnf
  conv at hB => rhs; whnf
  cases hS
  subst hB
  have K0 := below_caller base
  have hlen := ht.length
  k_steps
  refine Halt.go ?_
  rename Fr _ _ _ _ => kF; rename News _ _ _ _ => kN
  refine LCg.ListComp_U (F₀ := kF) (by with_unfolding_all rfl) (by decide) (by rfl) (by decide) (by rfl) ?_ (by intro _; with_unfolding_all rfl)
  (try k_fold)
  k_steps
  refine Halt.go ?_
  rename Fr _ _ _ _ => kF; rename News _ _ _ _ => kN
  refine useD (c_draw w dk lc cc _ _) ⟨K0, kF, X, T, rfl, by decide, by decide, X, T⟩ kN hoff hok hdl ⟨by omega, by omega, by omega, by omega⟩ ?_
  clear kF kN
  rintro v h9 tk9 c2 kF kN ok2 hte ⟨r, rt, rfl, hr1, hr2⟩
  (try k_fold)
  k_steps
  refine Halt.go ?_
  rename Fr _ _ _ _ => kF; rename News _ _ _ _ => kN
  rename IsRange _ _ _ _ _ _ _ _ => hR
  have hrg := rng_ok hr1 hr2
  refine LCg.CompSrc.range rfl kF kN hR hrg.1 hrg.2.1 hrg.2.2 fun g => ?_
  refine rest_deck (KBw.bInts #[97, 45, 57, 90, 98, 48, 45, 107, 81, 122]) hoff ?_ r.toNat 0 [] [] c2 .nil (by simp) ok2 (by omega) (by omega) ?_
  · clear kF kN hR
    intro v I oI C oC D ys m₂ h tk c3 E' Y hC hx F3 N3 off3 ok3 ht3 hY
    (try k_fold)
    k_steps
    refine Halt.go ?_
    refine list_bytesL rfl F3 N3 (by decide) ?_
    intro l ws n h' tk' F4 N4 lt4 hi4
    (try k_fold)
    k_steps
    refine Halt.go ?_
    have l1 := lt4 _ (.head _)
    have l2 := lt4 _ (.tail _ (.head _))
    refine useD (c_pick w dk lc c3 l ws _) ⟨K0, F4, X, T, rfl, by decide, by decide, X, T⟩ (rest := (l, PySem.W.listOf ws.toArray n) :: (I, oI) :: (C, oC) :: (D, LCg.lst ys) :: [(c, oc), (lt, PySem.W.listOf vt.toArray nt), (lw, PySem.W.listOf vw.toArray nw)]) (news_sub N4 ?_) ?_ ok3 hdl ⟨list_led N4 (.head _), hi4, by decide, by decide, Nat.ne_of_lt l1, Nat.ne_of_lt l2, by omega, by omega⟩ ?_
    · intro p hp
      simp only [Led2, List.mem_cons] at hp ⊢
      rcases hp with hp | hp | hp | hp
      · exact .inr (.inl hp)
      · exact .inr (.inr (.inl hp))
      · exact .inl hp
      · exact .inr (.inr (.inr hp))
    · intro p hp
      rcases List.mem_cons.mp hp with rfl | hp
      · exact ⟨Nat.ne_of_gt l1, Nat.ne_of_gt l2⟩
      · exact off3 p hp
    · rintro v9 h9 tk9 c4 F5 N5 ok5 ht5 ⟨x, t, rfl, hx5⟩
      (iterate 3 ((try k_unfold); (try dsimp only)))
      refine hY x t _ _ c4 _ F5 N5 (fun p hp => ?_) ok5 ht5 hx5
      simp only [Led2, List.mem_cons] at hp ⊢
      rcases hp with hp | hp | hp
      · exact .inl hp
      · exact .inr (.inl hp)
      · exact .inr (.inr (.inr hp))
  · clear kF kN hR
    intro ys ns c3 hi3 hl3 hm3 ok3 h03 h13
    unfold LCg.FinE
    intro D h' tk F3 N3 off3
    (try simp only [LCg.Off1, and_true] at off3)
    change News base L h' ((D, PySem.W.listOf ys.toArray ys.length) :: (dk, c3.od) :: (lc, PySem.W.listOf c3.vs.toArray c3.n) :: [(c, oc), (lt, PySem.W.listOf vt.toArray nt), (lw, PySem.W.listOf vw.toArray nw)]) at N3
    have hIn : KBa.In ns := fun x hx => KBw.ints_in (hm3 x hx)
    have hl4 : ns.length ≤ 6 := by rw [hl3, List.length_nil]; omega
    have hl5 := hi3.length
    k_steps
    refine Halt.go ?_
    rename Fr _ _ _ _ => kF; rename News _ _ _ _ => kN
    refine st6 w mean mg mb base X T L a c lt lw cd _ vt vw ts os nt nw bl bb (byteArr ns) tl tb tm _ ht hw hz hsc hbl hbb hbz (by rw [KBa.ints_make hIn]; omega) _ Q (fr_put (Str.ofString "text") (fr_put (Str.ofString "was") (fr_put (Str.ofString "label") (fr_put (Str.ofString "bent") (fr_put (Str.ofString "many") (fr_put (Str.ofString "drawn") kF rfl) rfl) rfl) rfl) rfl) rfl) (news_sub kN ?_) ?_ hne _ _ rfl rfl
    · intro p hp
      exact .tail _ (.tail _ (.tail _ (.tail _ hp)))
    · intro h' tk'
      exact hQ h' tk'
end
section
local macro_rules | `(tactic| walk_at "-") => `(tactic| skip)
local macro_rules | `(tactic| walk_at "-") => `(tactic| skip)
local macro_rules | `(tactic| walk_at "call ref") => `(tactic| first | walk_at "H23" | walk_at "H26" | walk_at "H25" | walk_at "H24" | walk_at "H22" | walk_at "H21" | walk_at "H20" | walk_at "H19" | walk_at "H18" | walk_at "H17")
local macro_rules | `(tactic| walk_at "call ref") => `(tactic| ((with_reducible show wpAny _ _ (call (Value.ref 252) _) _ _ _); refine halt ?_))
local macro_rules | `(tactic| walk_at "execs cons Assign cons") => `(tactic| ((with_reducible show wpAny _ _ (execs (Stmt.Assign [PySem.Expr.Name (Str.ofString "drawn") _] _ _ :: _) _) _ _ _); refine halt ?_))
local macro_rules | `(tactic| walk_at "execs cons") => `(tactic| ((with_reducible show wpAny _ _ (execs (Stmt.Assign [PySem.Expr.Name (Str.ofString "drawn") _] _ _ :: _) _) _ _ _); refine halt ?_))
theorem st4 (w : World) (mean : ExcName → Option Value) (mg mb : Str → Option Value) (base : Heap) (X : (hd.heap_39 w.params).In base) (T : Top hd.view_39 LO mean mg mb base) (L a c lt lw dk lc : Addr) (cd : Value) (m : Str → Option Value) (vt vw : List Value) (ts : List Int) (nt nw : Nat) (bl : Array UInt8) (tl tm : Tok) (oc : Obj) (cc : DkS)
    (ht : IntsAre vt ts) (hw : IntsAre vw ts) (hz : ts.length ≤ 5) (hsc : ∀ i ∈ ts, isScalar i = true) (hbl : KBw.bInts bl = encF ts) (hoc : oc.data = .cell (some (.ref dk))) (hok : DkOk w lc cc) (htu : 0 ≤ cc.tu ∧ cc.tu ≤ 200) (s : Shared) (Q : Flow → Shared → Prop)
    (F : Fr base L s.heap (fun z => if z = Str.ofString "text" then some (.ref lt) else if z = Str.ofString "was" then some (.ref lw) else if z = Str.ofString "label" then some (.bytes bl tl) else if z = Str.ofString "many" then some (.int (ts.filter (fun a => decide (a < 128))).length tm) else m z))
    (N : News base L s.heap (Led2 dk lc cc [(c, oc), (lt, PySem.W.listOf vt.toArray nt), (lw, PySem.W.listOf vw.toArray nw)]))
    (hdl : @Ne Nat dk lc) (hoff : ∀ p ∈ [(c, oc), (lt, PySem.W.listOf vt.toArray nt), (lw, PySem.W.listOf vw.toArray nw)], p.1 ≠ dk ∧ p.1 ≠ lc)
    (hQ : ∀ h' tk', base.StaysIn h' → Q (.ret (.bool true)) { s with heap := h', toks := tk' }) (hne : @Ne Nat lt lw) :
    ∀ S B, some S = lawS → B = lawB.drop 4 → wpAny (model PR w) (callerA.deeper (envX (Str.ofString "law") S L a cd [(Str.ofString "deck", c)])) (execs B (envX (Str.ofString "law") S L a cd [(Str.ofString "deck", c)])) Q (fun _ _ => False) s := by
  w_top off
  intro S B hS hB
  conv at hS => rhs; whnf
  conv at hB => rhs; whnf
  cases hS
  subst hB
  have K0 := below_caller base
  have hlen := ht.length
  have hll := encF_len hsc
  k_steps
  refine Halt.go ?_
  rename Fr _ _ _ _ => kF; rename News _ _ _ _ => kN
  refine useE (c_turned w dk lc cc bl (encF ts) _) ⟨K0, kF, X, T, rfl, by decide, by decide, X, T⟩ kN hoff hok hdl ⟨hbl, by omega, by omega, by omega⟩ ?_
  clear kF kN
  rintro v h9 tk9 c2 kF kN ok2 hte ⟨bb, tb, rfl, hbz⟩
  (try k_fold)
  k_steps
  refine Halt.go ?_
  rename Fr _ _ _ _ => kF; rename News _ _ _ _ => kN
  refine st5 w mean mg mb base X T L a c lt lw dk lc cd _ vt vw ts _ nt nw bl bb tl tb tm oc c2 ht hw hz hsc hbl rfl (by omega) hoc ok2 (by omega) _ Q (fr_put (Str.ofString "text") (fr_put (Str.ofString "was") (fr_put (Str.ofString "label") (fr_put (Str.ofString "bent") (fr_put (Str.ofString "many") kF rfl) rfl) rfl) rfl) rfl) kN hdl hoff ?_ hne _ _ rfl rfl
  intro h' tk'
  exact hQ h' tk'
end
section
local macro_rules | `(tactic| walk_at "-") => `(tactic| skip)
local macro_rules | `(tactic| walk_at "-") => `(tactic| skip)
local macro_rules | `(tactic| walk_at "-") => `(tactic| skip)
local macro_rules | `(tactic| walk_at "call ref") => `(tactic| first | walk_at "H23" | walk_at "H26" | walk_at "H25" | walk_at "H24" | walk_at "H22" | walk_at "H21" | walk_at "H20" | walk_at "H19" | walk_at "H18" | walk_at "H17")
local macro_rules | `(tactic| walk_at "call type:bytes") => `(tactic| ((with_reducible show wpAny _ _ (call (Value.type "bytes") [Value.bytes _ _]) _ _ _); refine call_bytes_bytes ?_))
local macro_rules | `(tactic| walk_at "call ref") => `(tactic| ((with_reducible show wpAny _ _ (call (Value.ref 168) _) _ _ _); refine halt ?_))
local macro_rules | `(tactic| walk_at "execs cons Assign cons") => `(tactic| ((with_reducible show wpAny _ _ (execs (Stmt.Assign [PySem.Expr.Name (Str.ofString "bent") _] _ _ :: _) _) _ _ _); refine halt ?_))
local macro_rules | `(tactic| walk_at "execs cons") => `(tactic| ((with_reducible show wpAny _ _ (execs (Stmt.Assign [PySem.Expr.Name (Str.ofString "bent") _] _ _ :: _) _) _ _ _); refine halt ?_))
theorem st2 (w : World) (mean : ExcName → Option Value) (mg mb : Str → Option Value) (base : Heap) (X : (hd.heap_39 w.params).In base) (T : Top hd.view_39 LO mean mg mb base) (L a c lt dk lc : Addr) (cd : Value) (m : Str → Option Value) (vt : List Value) (ts : List Int) (nt : Nat) (oc : Obj) (cc : DkS)
    (ht : IntsAre vt ts) (hz : ts.length ≤ 5) (hsc : ∀ i ∈ ts, isScalar i = true) (hoc : oc.data = .cell (some (.ref dk))) (hok : DkOk w lc cc) (htu : 0 ≤ cc.tu ∧ cc.tu ≤ 200) (s : Shared) (Q : Flow → Shared → Prop)
    (F : Fr base L s.heap (fun z => if z = Str.ofString "text" then some (.ref lt) else m z))
    (N : News base L s.heap (Led2 dk lc cc [(c, oc), (lt, PySem.W.listOf vt.toArray nt)]))
    (hdl : @Ne Nat dk lc) (hoff : ∀ p ∈ [(c, oc), (lt, PySem.W.listOf vt.toArray nt)], p.1 ≠ dk ∧ p.1 ≠ lc)
    (hQ : ∀ h' tk', base.StaysIn h' → Q (.ret (.bool true)) { s with heap := h', toks := tk' }) :
    ∀ S B, some S = lawS → B = lawB.drop 2 → wpAny (model PR w) (callerA.deeper (envX (Str.ofString "law") S L a cd [(Str.ofString "deck", c)])) (execs B (envX (Str.ofString "law") S L a cd [(Str.ofString "deck", c)])) Q (fun _ _ => False) s := by
  w_top off
  intro S B hS hB
  conv at hS => rhs; whnf
  conv at hB => rhs; whnf
  cases hS
  subst hB
  have K0 := below_caller base
  change News base L s.heap [(dk, cc.od), (lc, PySem.W.listOf cc.vs.toArray cc.n), (c, oc), (lt, PySem.W.listOf vt.toArray nt)] at N
  have hlen := ht.length
  have hll := encF_len hsc
  k_steps
  refine Halt.go ?_
  rename Fr _ _ _ _ => kF; rename News _ _ _ _ => kN
  refine useXb (c_enc1 w lt vt ts) ⟨K0, kF, X, T, rfl, by decide, by decide, X, T⟩ kN (List.forall_mem_nil _) ⟨list_led kN (by k_mem), ht, by omega⟩ ?_ ?_
  rotate_left
  · intro _ _ _ bad _; exact absurd hsc bad
  clear kF kN
  intro bl tl h9 tk9 hb1 hbz kF kN
  (try k_fold)
  k_steps
  all_goals (try k_data)
  have hiy := IntsAre.ofCarried (by assumption)
  have hyl := hiy.length
  have hfl : (ts.filter (fun a => decide (a < 128))).length ≤ 5 := Nat.le_trans (List.length_filter_le _ _) hz
  (try k_fold)
  k_steps
  refine Halt.go ?_
  rename Fr _ _ _ _ => kF; rename News _ _ _ _ => kN
  rename_i lw nw9 _ lw1 _ _ _ _ _ _ _ _ _ _ _ _ _ _ _ _
  refine st4 w mean mg mb base X T L a c lt lw dk lc cd _ vt vt ts nt nw9 bl _ _ oc cc ht ht hz hsc hb1 hoc hok htu _ Q (fr_put (Str.ofString "text") (fr_put (Str.ofString "was") (fr_put (Str.ofString "label") (fr_put (Str.ofString "many") kF rfl) rfl) rfl) rfl) (news_sub kN ?_) hdl ?_ ?_ (Nat.ne_of_lt lw1.2.2.2) _ _ rfl rfl
  · intro p hp
    simp only [Led2, List.mem_cons, List.not_mem_nil, or_false] at hp ⊢
    rcases hp with hp | hp | hp | hp | hp
    · exact .inr (.inr (.inl hp))
    · exact .inr (.inr (.inr (.inl hp)))
    · exact .inr (.inr (.inr (.inr (.inl hp))))
    · exact .inr (.inr (.inr (.inr (.inr hp))))
    · exact .inr (.inl hp)
  · intro p hp
    simp only [List.mem_cons, List.not_mem_nil, or_false] at hp
    rcases hp with rfl | rfl | rfl
    · exact hoff _ (.head _)
    · exact hoff _ (.tail _ (.head _))
    · exact ⟨Nat.ne_of_gt lw1.1, Nat.ne_of_gt lw1.2.1⟩
  · intro h' tk'
    exact hQ h' tk'
end
section
local macro_rules | `(tactic| walk_at "-") => `(tactic| skip)
local macro_rules | `(tactic| walk_at "-") => `(tactic| skip)
local macro_rules | `(tactic| walk_at "-") => `(tactic| skip)
local macro_rules | `(tactic| walk_at "-") => `(tactic| skip)
local macro_rules | `(tactic| walk_at "call ref") => `(tactic| first | walk_at "H23" | walk_at "H26" | walk_at "H25" | walk_at "H24" | walk_at "H22" | walk_at "H21" | walk_at "H20" | walk_at "H19" | walk_at "H18" | walk_at "H17")
local macro_rules | `(tactic| walk_at "call ref") => `(tactic| ((with_reducible show wpAny _ _ (call (Value.ref 232) _) _ _ _); refine halt ?_))
local macro_rules | `(tactic| walk_at "call ref") => `(tactic| ((with_reducible show wpAny _ _ (call (Value.ref 239) _) _ _ _); refine halt ?_))
local macro_rules | `(tactic| walk_at "exec Assign cons ListComp") => `(tactic| ((with_reducible show wpAny _ _ (exec (Stmt.Assign _ (PySem.Expr.ListComp (PySem.Expr.Call _ _ _ _) [⟨_, PySem.Expr.Call _ _ _ _, _, _⟩] _ _) _) _) _ _ _); refine halt ?_))
local macro_rules | `(tactic| walk_at "CompSrc") => `(tactic| refine halt ?_)
theorem rng_ok1 {r : Int} (h0 : 0 ≤ r) (h1 : r < 6) : Builtin.Range.small 0 r 1 = true ∧ Builtin.Range.rangeSize 0 r 1 = (r.toNat : Int) ∧ r.toNat ≤ sizeLine := rng_ok h0 (by omega)
abbrev menuL : List Int := [97, 233, 66, 45, 945, 57, 20013, 128512, 128, 1114111]
theorem menu_is {w : World} {h : Heap} (X : (hd.heap_39 w.params).In h) : ∃ ws : List Value, h.IsList 240 ws.toArray ∧ IntsAre ws menuL := by
  refine ⟨_, ⟨_, X 240 _ (by k_is), rfl, _, rfl⟩, ?_⟩
  repeat (first | exact .nil | refine .cons _ _ ?_)
theorem menu_sc : ∀ n ∈ menuL, isScalar n = true := by decide
theorem menu_addr {w : World} {h : Heap} (X : (hd.heap_39 w.params).In h) : ∃ o, h.get? 240 = some o := ⟨_, X 240 _ (by k_is)⟩
theorem st1 (w : World) (mean : ExcName → Option Value) (mg mb : Str → Option Value) (base : Heap) (X : (hd.heap_39 w.params).In base) (T : Top hd.view_39 LO mean mg mb base) (L a c dk lc : Addr) (cd : Value) (m : Str → Option Value) (oc : Obj) (cc : DkS)
    (hoc : oc.data = .cell (some (.ref dk))) (hok : DkOk w lc cc) (htu : 0 ≤ cc.tu ∧ cc.tu ≤ 100) (s : Shared) (Q : Flow → Shared → Prop)
    (F : Fr base L s.heap m)
    (N : News base L s.heap (Led2 dk lc cc [(c, oc)]))
    (hdl : @Ne Nat dk lc) (hoff : ∀ p ∈ [(c, oc)], p.1 ≠ dk ∧ p.1 ≠ lc)
    (hQ : ∀ h' tk', base.StaysIn h' → Q (.ret (.bool true)) { s with heap := h', toks := tk' }) :
    ∀ S B, some S = lawS → B = lawB.drop 1 → wpAny (model PR w) (callerA.deeper (envX (Str.ofString "law") S L a cd [(Str.ofString "deck", c)])) (execs B (envX (Str.ofString "law") S L a cd [(Str.ofString "deck", c)])) Q (fun _ _ => False) s := by
  w_top off
  intro S B hS hB
  conv at hS => rhs; whnf
  conv at hB => rhs; whnf
  cases hS
  subst hB
  have K0 := below_caller base
  change News base L s.heap [(dk, cc.od), (lc, PySem.W.listOf cc.vs.toArray cc.n), (c, oc)] at N
  k_steps
  refine Halt.go ?_
  rename Fr _ _ _ _ => kF; rename News _ _ _ _ => kN
  refine LCg.Assign_ListComp_U (F₀ := kF) (by rfl) (by with_unfolding_all rfl) (by with_unfolding_all rfl) (by decide) (by rfl) (by decide) (by rfl) (by rfl) (by rfl) ?_ (by intro _; with_unfolding_all rfl)
  (try k_fold)
  k_steps
  refine Halt.go ?_
  rename Fr _ _ _ _ => kF; rename News _ _ _ _ => kN
  refine useD (c_draw w dk lc cc _ _) ⟨K0, kF, X, T, rfl, by decide, by decide, X, T⟩ kN hoff hok hdl ⟨by omega, by omega, by omega, by omega⟩ ?_
  clear kF kN
  rintro v h9 tk9 c2 kF kN ok2 hte ⟨r, rt, rfl, hr1, hr2⟩
  (try k_fold)
  k_steps
  refine Halt.go ?_
  rename Fr _ _ _ _ => kF; rename News _ _ _ _ => kN
  rename IsRange _ _ _ _ _ _ _ _ => hR
  have hrg := rng_ok1 hr1 hr2
  refine LCg.CompSrc.range rfl kF kN hR hrg.1 hrg.2.1 hrg.2.2 fun g => ?_
  refine rest_deck menuL hoff ?_ r.toNat 0 [] [] c2 .nil (by simp) ok2 (by omega) (by omega) ?_
  · clear kF kN hR
    intro v I oI C oC D ys m₂ h tk c3 E' Y hC hx F3 N3 off3 ok3 ht3 hY
    (try k_fold)
    k_steps
    refine Halt.go ?_
    obtain ⟨ws, hl4, hi4⟩ := menu_is (X.keeps F3.keep)
    obtain ⟨o4, ho4⟩ := menu_addr X
    have l1 : dk ≠ 240 := fun q => by have := (N3 _ (.head _)).2.2; dsimp only at this; rw [q, ho4] at this; cases this
    have l2 : lc ≠ 240 := fun q => by have := (N3 _ (.tail _ (.head _))).2.2; dsimp only at this; rw [q, ho4] at this; cases this
    refine useD (c_pick w dk lc c3 240 ws menuL) ⟨K0, F3, X, T, rfl, by decide, by decide, X, T⟩ N3 off3 ok3 hdl ⟨hl4, hi4, by decide, by decide, l1, l2, by omega, by omega⟩ ?_
    rintro v9 h9 tk9 c4 F5 N5 ok5 ht5 ⟨x, t, rfl, hx5⟩
    (iterate 3 ((try k_unfold); (try dsimp only)))
    exact hY x t _ _ c4 _ F5 N5 (fun p hp => hp) ok5 ht5 hx5
  · clear kF kN hR
    intro ys ns c3 hi3 hl3 hm3 ok3 h03 h13
    unfold LCg.FinA
    intro D h' tk F3 N3 off3
    (try simp only [LCg.Off1, and_true] at off3)
    change News base L h' ((D, PySem.W.listOf ys.toArray ys.length) :: (dk, c3.od) :: (lc, PySem.W.listOf c3.vs.toArray c3.n) :: [(c, oc)]) at N3
    dsimp only
    have hl4 : ns.length ≤ 5 := by rw [hl3, List.length_nil]; omega
    refine st2 w mean mg mb base X T L a c D dk lc cd _ ys ns ys.length oc c3 hi3 hl4 (fun n hn => menu_sc n (hm3 n hn)) hoc ok3 (by omega) _ Q (fr_put (Str.ofString "text") F3 rfl) (news_sub N3 ?_) hdl ?_ ?_ _ _ rfl rfl
    · intro p hp
      simp only [Led2, List.mem_cons, List.not_mem_nil, or_false] at hp ⊢
      rcases hp with hp | hp | hp | hp
      · exact .inr (.inl hp)
      · exact .inr (.inr (.inl hp))
      · exact .inr (.inr (.inr hp))
      · exact .inl hp
    · intro p hp
      simp only [List.mem_cons, List.not_mem_nil, or_false] at hp
      rcases hp with rfl | rfl
      · exact hoff _ (.head _)
      · exact ⟨fun q => off3.1 q.symm, fun q => off3.2.1 q.symm⟩
    · intro h' tk'
      exact hQ h' tk'
end
section
local macro_rules | `(tactic| walk_at "call ref") => `(tactic| first | walk_at "H23" | walk_at "H26" | walk_at "H25" | walk_at "H24" | walk_at "H22" | walk_at "H21" | walk_at "H20" | walk_at "H19" | walk_at "H18" | walk_at "H17")
local macro_rules | `(tactic| walk_at "call ref") => `(tactic| ((with_reducible show wpAny _ _ (call (Value.ref 225) _) _ _ _); refine halt ?_))
local macro_rules | `(tactic| walk_at "execs cons Assign cons") => `(tactic| ((with_reducible show wpAny _ _ (execs (Stmt.Assign [PySem.Expr.Name (Str.ofString "text") _] _ _ :: _) _) _ _ _); refine halt ?_))
local macro_rules | `(tactic| walk_at "execs cons") => `(tactic| ((with_reducible show wpAny _ _ (execs (Stmt.Assign [PySem.Expr.Name (Str.ofString "text") _] _ _ :: _) _) _ _ _); refine halt ?_))
theorem st0 (w : World) (mean : ExcName → Option Value) (mg mb : Str → Option Value) (base : Heap) (X : (hd.heap_39 w.params).In base) (T : Top hd.view_39 LO mean mg mb base) (L a c l : Addr) (cd : Value) (m : Str → Option Value) (oc : Obj) (vs : List Value) (ns : List Int) (hl : base.IsList l vs.toArray) (hi : IntsAre vs ns) (hz : ns.length ≤ 63)
    (hoc : oc.data = .cell none) (s : Shared) (Q : Flow → Shared → Prop)
    (F : Fr base L s.heap (fun z => if z = Str.ofString "script" then some (.ref l) else m z))
    (N : News base L s.heap [(c, oc)])
    (hQ : ∀ h' tk', base.StaysIn h' → Q (.ret (.bool true)) { s with heap := h', toks := tk' }) :
    ∀ S B, some S = lawS → B = lawB → wpAny (model PR w) (callerA.deeper (envX (Str.ofString "law") S L a cd [(Str.ofString "deck", c)])) (execs B (envX (Str.ofString "law") S L a cd [(Str.ofString "deck", c)])) Q (fun _ _ => False) s := by
  w_top off
  intro S B hS hB
  conv at hS => rhs; whnf
  conv at hB => rhs; whnf
  cases hS
  subst hB
  have K0 := below_caller base
  have hlen := hi.length
  k_steps
  refine Halt.go ?_
  rename Fr _ _ _ _ => kF; rename News _ _ _ _ => kN
  refine use (c_deck w l vs ns) ⟨K0, kF, X, T, rfl, by decide, by decide, X, T⟩ kN (List.forall_mem_nil _) ⟨Fr.lst kF hl, hi, hz⟩ ?_
  rintro v h9 tk9 ⟨dk, lc, cc, rfl, e1, e2, n1, n2, hne, hok, htu⟩ st kF9 kN9
  obtain ⟨N2, hn2⟩ := news_add kF kN st e2 n2
  obtain ⟨N1, hn1⟩ := news_add kF kN st e1 n1
  have hd2 : @Ne Nat lc c := fun q => hn2 _ (.head _) q.symm
  have hd1 : @Ne Nat dk c := fun q => hn1 _ (.head _) q.symm
  have N3 : News base L h9 [(dk, cc.od), (lc, PySem.W.listOf cc.vs.toArray cc.n), (c, oc)] := fun p hp => by
    rcases List.mem_cons.mp hp with rfl | hp
    · exact N1 _ (.head _)
    · exact N2 _ hp
  clear N1 N2 kF kN kN9 st hn1 hn2 e1 e2 n1 n2
  (try k_fold)
  k_steps
  refine Halt.go ?_
  rename Fr _ _ _ _ => kF; rename News _ _ _ _ => kN
  refine st1 w mean mg mb base X T L a c dk lc cd _ _ cc (by assumption) hok (by omega) _ Q kF kN hne ?_ ?_ _ _ rfl rfl
  · intro p hp
    rw [List.mem_singleton.mp hp]
    exact ⟨hd1.symm, hd2.symm⟩
  · intro h' tk'
    exact hQ h' tk'
end
section
theorem fin_holds : PySem.Challenge.rw_pb0592_01.Holds := by
  w_on
  refine holds_law hd.said fun said => ?_
  refine holds_open (q := hd.view_39) (loose := hd.lo) (Xt := fun s => xlAt hd.view_39 [] s && recOk (RowW.records PySem.Challenge.rw_pb0592_01.row.toRowW) s) (XP := XL hd.view_39 []) (Yf := Hook.obs hd.hook) (Ya := Hook.val hd.hook) (YP := Hook.says hd.hook) (N := 3582) hd.left (Hook.of hd.hook) (Hook.keeps hd.hook) (fun s e => xl_of s (Bool.and_eq_true_iff.mp e).1) XL.keeps (by rfl) (by rfl) (by rfl) (fun s e => recFacts_of (Bool.and_eq_true_iff.mp e).2) (by rfl) (by first | assumption | decide +kernel) (by decide +kernel) ⟨rfl, rfl, rfl, rfl, rfl, hd.whole⟩ ?hw ?hc
  case hw => w_witness2
  k_fill
  intro w s₀ s₁ mg mb G Y fa o pm cd doc dV kV ho hd9 hcd hD hmg hg args vals as hpre hlay hrd hwl hlo
  have KX := kIn_of Y
  refine Ground.open G ?_
  intro T B D TE TW
  try (refine guard_noD D (by decide +kernel) ?_; clear D)
  obtain ⟨_, _, M⟩ := bmod_of_top T
  have TA := at_of_top T
  try (obtain ⟨_, _, he, B0⟩ := based_of_top T rfl hmg ho hd9; have he' : cd = _ := he; subst he'; clear he)
  clear hmg
  wrow_args hpre hlay hrd hwl hlo
  refine enter_call ?_
  w_top on
  try refine codeAny_mono ?_ (fun _ _ g => GoodW.toG g)
  have K0 := below_caller (Top.heap T)
  w_call any ho hd9 hcd hD T F
  clear hd9 TA
  k_drop
  rename Fr _ _ _ _ => kF; rename News _ _ _ _ => kN; rename Heap.IsList _ _ _ => hLs; rename IntsAre _ _ => hIs
  rename Top _ _ _ _ _ _ => kT; rename Frag.In _ _ => kX
  refine wpAny_mono (st0 _ _ _ _ _ kX kT _ _ _ _ _ _ _ _ _ hLs hIs (by omega) (by assumption) _ _ (fr_put (Str.ofString "script") kF rfl) kN ?_ _ _ rfl rfl) (fun _ _ h => h) (fun _ _ h => h.elim)
  intro h' tk' kp
  (try dsimp only)
  refine ⟨.inl ⟨_, .bool true, [], rfl, raisesW_false ?_, .bool true, ?_, unshared_nil⟩, kp, rfl, by assumption⟩
  · wrow_none_raised
  · wrow_post
end
end Mine
theorem PySem.Challenge.cw_pb0592_01_holds : PySem.Challenge.rw_pb0592_01.Holds := by
  exact Mine.fin_holds

import PyProof.Rows.All
import Wide.All
import OpenK.AllK
import Wide.FinOn
import PySem.Challenge.RW_nt0186_01
open PySem PySem.W PyProof.Rows
set_option Elab.async false
set_option maxRecDepth 100000
noncomputable section
namespace Mine
open PySem.Str (ofString)

-- the text's parts, by their places in it
noncomputable def stm (i : Nat) : Stmt := (PySem.Challenge.pw_nt0186_01.main.body[i]?).getD (.Pass default)
noncomputable def sSub : Stmt → List Stmt
  | .ClassDef _ _ _ b _ _ _ _ _ _ _ => b
  | _ => []
noncomputable def mth (i j : Nat) : Stmt := ((sSub (stm i))[j]?).getD (.Pass default)
noncomputable def sBody : Stmt → List Stmt
  | .FunctionDef _ _ b _ _ _ _ _ _ _ => b
  | _ => []
noncomputable def sPar : Stmt → Arguments
  | .FunctionDef _ a _ _ _ _ _ _ _ _ => a
  | _ => { posonlyargs := [], args := [], vararg := none, kwonlyargs := [], kw_defaults := [], kwarg := none, defaults := [] }
noncomputable def sScope : Stmt → Scope
  | .FunctionDef _ _ _ _ _ _ sc _ _ _ => sc
  | _ => { kind := .function, names := [], isGenerator := false, isCoroutine := false, more := [] }
noncomputable def sPos : Stmt → Pos
  | .FunctionDef _ _ _ _ _ _ _ _ _ p => p
  | _ => default
noncomputable def fn (n q : PySem.Str) (st : Stmt) (doc pm : Value) (c : Nat) : Obj := ⟨.type "function", none, .func { name := n, qualname := q, params := sPar st, body := .stmts (sBody st), scope := sScope st, globals := 3, closure := [], defaults := .none, kwdefaults := .none, doc := doc, pyModule := pm, annotations := none, code := .ref c, closureTuple := .none, builtins := 0 }, #[]⟩
noncomputable def en (P : Params) (x : PySem.Str) (t : Tok) (v : Value) : DictEntry := ⟨PyData.keyHash P x, .str x t, v⟩
set_option simprocs false in
noncomputable def P1 : Program := by
  refine (?f : PySem.Challenge.pw_nt0186_01 = ?s → Program) ?h
  case h =>
    have e0 : ofString "_wall" = ⟨#[95, 119, 97, 108, 108]⟩ := by with_unfolding_all rfl
    have e1 : ofString "k" = ⟨#[107]⟩ := by with_unfolding_all rfl
    have e2 : ofString "__name__" = ⟨#[95, 95, 110, 97, 109, 101, 95, 95]⟩ := by with_unfolding_all rfl
    have e3 : ofString "scheme.data" = ⟨#[115, 99, 104, 101, 109, 101, 46, 100, 97, 116, 97]⟩ := by with_unfolding_all rfl
    have e4 : ofString "Special" = ⟨#[83, 112, 101, 99, 105, 97, 108]⟩ := by with_unfolding_all rfl
    have e5 : ofString "__init__" = ⟨#[95, 95, 105, 110, 105, 116, 95, 95]⟩ := by with_unfolding_all rfl
    have e6 : ofString "self" = ⟨#[115, 101, 108, 102]⟩ := by with_unfolding_all rfl
    have e7 : ofString "title" = ⟨#[116, 105, 116, 108, 101]⟩ := by with_unfolding_all rfl
    have e8 : ofString "EMPTY" = ⟨#[69, 77, 80, 84, 89]⟩ := by with_unfolding_all rfl
    have e9 : ofString "empty" = ⟨#[101, 109, 112, 116, 121]⟩ := by with_unfolding_all rfl
    have e10 : ofString "UNSPECIFIED" = ⟨#[85, 78, 83, 80, 69, 67, 73, 70, 73, 69, 68]⟩ := by with_unfolding_all rfl
    have e11 : ofString "unspecified" = ⟨#[117, 110, 115, 112, 101, 99, 105, 102, 105, 101, 100]⟩ := by with_unfolding_all rfl
    have e12 : ofString "UNASSIGNED" = ⟨#[85, 78, 65, 83, 83, 73, 71, 78, 69, 68]⟩ := by with_unfolding_all rfl
    have e13 : ofString "unassigned" = ⟨#[117, 110, 97, 115, 115, 105, 103, 110, 101, 100]⟩ := by with_unfolding_all rfl
    have e14 : ofString "EOF" = ⟨#[69, 79, 70]⟩ := by with_unfolding_all rfl
    have e15 : ofString "eof" = ⟨#[101, 111, 102]⟩ := by with_unfolding_all rfl
    have e16 : ofString "Symbol" = ⟨#[83, 121, 109, 98, 111, 108]⟩ := by with_unfolding_all rfl
    have e17 : ofString "number" = ⟨#[110, 117, 109, 98, 101, 114]⟩ := by with_unfolding_all rfl
    have e18 : ofString "text" = ⟨#[116, 101, 120, 116]⟩ := by with_unfolding_all rfl
    have e19 : ofString "SymbolTable" = ⟨#[83, 121, 109, 98, 111, 108, 84, 97, 98, 108, 101]⟩ := by with_unfolding_all rfl
    have e20 : ofString "rows" = ⟨#[114, 111, 119, 115]⟩ := by with_unfolding_all rfl
    have e21 : ofString "by_text" = ⟨#[98, 121, 95, 116, 101, 120, 116]⟩ := by with_unfolding_all rfl
    have e22 : ofString "symbol" = ⟨#[115, 121, 109, 98, 111, 108]⟩ := by with_unfolding_all rfl
    have e23 : ofString "found" = ⟨#[102, 111, 117, 110, 100]⟩ := by with_unfolding_all rfl
    have e24 : ofString "get" = ⟨#[103, 101, 116]⟩ := by with_unfolding_all rfl
    have e25 : ofString "len" = ⟨#[108, 101, 110]⟩ := by with_unfolding_all rfl
    have e26 : ofString "append" = ⟨#[97, 112, 112, 101, 110, 100]⟩ := by with_unfolding_all rfl
    have e27 : ofString "fresh" = ⟨#[102, 114, 101, 115, 104]⟩ := by with_unfolding_all rfl
    have e28 : ofString "hint" = ⟨#[104, 105, 110, 116]⟩ := by with_unfolding_all rfl
    have e29 : ofString "." = ⟨#[46]⟩ := by with_unfolding_all rfl
    have e30 : ofString "by_number" = ⟨#[98, 121, 95, 110, 117, 109, 98, 101, 114]⟩ := by with_unfolding_all rfl
    have e31 : ofString "find" = ⟨#[102, 105, 110, 100]⟩ := by with_unfolding_all rfl
    have e32 : ofString "is_interned" = ⟨#[105, 115, 95, 105, 110, 116, 101, 114, 110, 101, 100]⟩ := by with_unfolding_all rfl
    have e33 : ofString "size" = ⟨#[115, 105, 122, 101]⟩ := by with_unfolding_all rfl
    have e34 : ofString "Pair" = ⟨#[80, 97, 105, 114]⟩ := by with_unfolding_all rfl
    have e35 : ofString "car" = ⟨#[99, 97, 114]⟩ := by with_unfolding_all rfl
    have e36 : ofString "cdr" = ⟨#[99, 100, 114]⟩ := by with_unfolding_all rfl
    have e37 : ofString "Char" = ⟨#[67, 104, 97, 114]⟩ := by with_unfolding_all rfl
    have e38 : ofString "code" = ⟨#[99, 111, 100, 101]⟩ := by with_unfolding_all rfl
    have e39 : ofString "Text" = ⟨#[84, 101, 120, 116]⟩ := by with_unfolding_all rfl
    have e40 : ofString "codes" = ⟨#[99, 111, 100, 101, 115]⟩ := by with_unfolding_all rfl
    have e41 : ofString "Vector" = ⟨#[86, 101, 99, 116, 111, 114]⟩ := by with_unfolding_all rfl
    have e42 : ofString "things" = ⟨#[116, 104, 105, 110, 103, 115]⟩ := by with_unfolding_all rfl
    have e43 : ofString "Box" = ⟨#[66, 111, 120]⟩ := by with_unfolding_all rfl
    have e44 : ofString "content" = ⟨#[99, 111, 110, 116, 101, 110, 116]⟩ := by with_unfolding_all rfl
    have e45 : ofString "Promise" = ⟨#[80, 114, 111, 109, 105, 115, 101]⟩ := by with_unfolding_all rfl
    have e46 : ofString "is_done" = ⟨#[105, 115, 95, 100, 111, 110, 101]⟩ := by with_unfolding_all rfl
    have e47 : ofString "PortRef" = ⟨#[80, 111, 114, 116, 82, 101, 102]⟩ := by with_unfolding_all rfl
    have e48 : ofString "Procedure" = ⟨#[80, 114, 111, 99, 101, 100, 117, 114, 101]⟩ := by with_unfolding_all rfl
    have e49 : ofString "Primitive" = ⟨#[80, 114, 105, 109, 105, 116, 105, 118, 101]⟩ := by with_unfolding_all rfl
    have e50 : ofString "op" = ⟨#[111, 112]⟩ := by with_unfolding_all rfl
    have e51 : ofString "scheme.binary" = ⟨#[115, 99, 104, 101, 109, 101, 46, 98, 105, 110, 97, 114, 121]⟩ := by with_unfolding_all rfl
    have e52 : ofString "Real" = ⟨#[82, 101, 97, 108]⟩ := by with_unfolding_all rfl
    have e53 : ofString "mantissa" = ⟨#[109, 97, 110, 116, 105, 115, 115, 97]⟩ := by with_unfolding_all rfl
    have e54 : ofString "exponent" = ⟨#[101, 120, 112, 111, 110, 101, 110, 116]⟩ := by with_unfolding_all rfl
    have e55 : ofString "same_real" = ⟨#[115, 97, 109, 101, 95, 114, 101, 97, 108]⟩ := by with_unfolding_all rfl
    have e56 : ofString "one" = ⟨#[111, 110, 101]⟩ := by with_unfolding_all rfl
    have e57 : ofString "other" = ⟨#[111, 116, 104, 101, 114]⟩ := by with_unfolding_all rfl
    have e58 : ofString "scheme.exact" = ⟨#[115, 99, 104, 101, 109, 101, 46, 101, 120, 97, 99, 116]⟩ := by with_unfolding_all rfl
    have e59 : ofString "Ratio" = ⟨#[82, 97, 116, 105, 111]⟩ := by with_unfolding_all rfl
    have e60 : ofString "top" = ⟨#[116, 111, 112]⟩ := by with_unfolding_all rfl
    have e61 : ofString "bottom" = ⟨#[98, 111, 116, 116, 111, 109]⟩ := by with_unfolding_all rfl
    have e62 : ofString "is_whole" = ⟨#[105, 115, 95, 119, 104, 111, 108, 101]⟩ := by with_unfolding_all rfl
    have e63 : ofString "value" = ⟨#[118, 97, 108, 117, 101]⟩ := by with_unfolding_all rfl
    have e64 : ofString "isinstance" = ⟨#[105, 115, 105, 110, 115, 116, 97, 110, 99, 101]⟩ := by with_unfolding_all rfl
    have e65 : ofString "int" = ⟨#[105, 110, 116]⟩ := by with_unfolding_all rfl
    have e66 : ofString "bool" = ⟨#[98, 111, 111, 108]⟩ := by with_unfolding_all rfl
    have e67 : ofString "is_exact" = ⟨#[105, 115, 95, 101, 120, 97, 99, 116]⟩ := by with_unfolding_all rfl
    have e68 : ofString "top_of" = ⟨#[116, 111, 112, 95, 111, 102]⟩ := by with_unfolding_all rfl
    have e69 : ofString "bottom_of" = ⟨#[98, 111, 116, 116, 111, 109, 95, 111, 102]⟩ := by with_unfolding_all rfl
    have e70 : ofString "gcd_of" = ⟨#[103, 99, 100, 95, 111, 102]⟩ := by with_unfolding_all rfl
    have e71 : ofString "abs" = ⟨#[97, 98, 115]⟩ := by with_unfolding_all rfl
    have e72 : ofString "made" = ⟨#[109, 97, 100, 101]⟩ := by with_unfolding_all rfl
    have e73 : ofString "ratio_of" = ⟨#[114, 97, 116, 105, 111, 95, 111, 102]⟩ := by with_unfolding_all rfl
    have e74 : ofString "common" = ⟨#[99, 111, 109, 109, 111, 110]⟩ := by with_unfolding_all rfl
    have e75 : ofString "is_equal_exact" = ⟨#[105, 115, 95, 101, 113, 117, 97, 108, 95, 101, 120, 97, 99, 116]⟩ := by with_unfolding_all rfl
    have e76 : ofString "scheme.numkinds" = ⟨#[115, 99, 104, 101, 109, 101, 46, 110, 117, 109, 107, 105, 110, 100, 115]⟩ := by with_unfolding_all rfl
    have e77 : ofString "is_inexact" = ⟨#[105, 115, 95, 105, 110, 101, 120, 97, 99, 116]⟩ := by with_unfolding_all rfl
    have e78 : ofString "is_number" = ⟨#[105, 115, 95, 110, 117, 109, 98, 101, 114]⟩ := by with_unfolding_all rfl
    have e79 : ofString "is_number_numkinds" = ⟨#[105, 115, 95, 110, 117, 109, 98, 101, 114, 95, 110, 117, 109, 107, 105, 110, 100, 115]⟩ := by with_unfolding_all rfl
    have e80 : ofString "same_number" = ⟨#[115, 97, 109, 101, 95, 110, 117, 109, 98, 101, 114]⟩ := by with_unfolding_all rfl
    have e81 : ofString "scheme.objects" = ⟨#[115, 99, 104, 101, 109, 101, 46, 111, 98, 106, 101, 99, 116, 115]⟩ := by with_unfolding_all rfl
    have e82 : ofString "ObjectStore" = ⟨#[79, 98, 106, 101, 99, 116, 83, 116, 111, 114, 101]⟩ := by with_unfolding_all rfl
    have e83 : ofString "table" = ⟨#[116, 97, 98, 108, 101]⟩ := by with_unfolding_all rfl
    have e84 : ofString "boolean" = ⟨#[98, 111, 111, 108, 101, 97, 110]⟩ := by with_unfolding_all rfl
    have e85 : ofString "flag" = ⟨#[102, 108, 97, 103]⟩ := by with_unfolding_all rfl
    have e86 : ofString "is_boolean" = ⟨#[105, 115, 95, 98, 111, 111, 108, 101, 97, 110]⟩ := by with_unfolding_all rfl
    have e87 : ofString "is_true" = ⟨#[105, 115, 95, 116, 114, 117, 101]⟩ := by with_unfolding_all rfl
    have e88 : ofString "is_empty" = ⟨#[105, 115, 95, 101, 109, 112, 116, 121]⟩ := by with_unfolding_all rfl
    have e89 : ofString "is_unassigned" = ⟨#[105, 115, 95, 117, 110, 97, 115, 115, 105, 103, 110, 101, 100]⟩ := by with_unfolding_all rfl
    have e90 : ofString "is_eof" = ⟨#[105, 115, 95, 101, 111, 102]⟩ := by with_unfolding_all rfl
    have e91 : ofString "pair" = ⟨#[112, 97, 105, 114]⟩ := by with_unfolding_all rfl
    have e92 : ofString "first" = ⟨#[102, 105, 114, 115, 116]⟩ := by with_unfolding_all rfl
    have e93 : ofString "rest" = ⟨#[114, 101, 115, 116]⟩ := by with_unfolding_all rfl
    have e94 : ofString "is_pair" = ⟨#[105, 115, 95, 112, 97, 105, 114]⟩ := by with_unfolding_all rfl
    have e95 : ofString "set_car" = ⟨#[115, 101, 116, 95, 99, 97, 114]⟩ := by with_unfolding_all rfl
    have e96 : ofString "set_cdr" = ⟨#[115, 101, 116, 95, 99, 100, 114]⟩ := by with_unfolding_all rfl
    have e97 : ofString "is_symbol" = ⟨#[105, 115, 95, 115, 121, 109, 98, 111, 108]⟩ := by with_unfolding_all rfl
    have e98 : ofString "symbol_number" = ⟨#[115, 121, 109, 98, 111, 108, 95, 110, 117, 109, 98, 101, 114]⟩ := by with_unfolding_all rfl
    have e99 : ofString "char" = ⟨#[99, 104, 97, 114]⟩ := by with_unfolding_all rfl
    have e100 : ofString "is_char" = ⟨#[105, 115, 95, 99, 104, 97, 114]⟩ := by with_unfolding_all rfl
    have e101 : ofString "char_code" = ⟨#[99, 104, 97, 114, 95, 99, 111, 100, 101]⟩ := by with_unfolding_all rfl
    have e102 : ofString "string" = ⟨#[115, 116, 114, 105, 110, 103]⟩ := by with_unfolding_all rfl
    have e103 : ofString "list" = ⟨#[108, 105, 115, 116]⟩ := by with_unfolding_all rfl
    have e104 : ofString "is_string" = ⟨#[105, 115, 95, 115, 116, 114, 105, 110, 103]⟩ := by with_unfolding_all rfl
    have e105 : ofString "string_length" = ⟨#[115, 116, 114, 105, 110, 103, 95, 108, 101, 110, 103, 116, 104]⟩ := by with_unfolding_all rfl
    have e106 : ofString "string_code" = ⟨#[115, 116, 114, 105, 110, 103, 95, 99, 111, 100, 101]⟩ := by with_unfolding_all rfl
    have e107 : ofString "place" = ⟨#[112, 108, 97, 99, 101]⟩ := by with_unfolding_all rfl
    have e108 : ofString "set_string_code" = ⟨#[115, 101, 116, 95, 115, 116, 114, 105, 110, 103, 95, 99, 111, 100, 101]⟩ := by with_unfolding_all rfl
    have e109 : ofString "vector" = ⟨#[118, 101, 99, 116, 111, 114]⟩ := by with_unfolding_all rfl
    have e110 : ofString "items" = ⟨#[105, 116, 101, 109, 115]⟩ := by with_unfolding_all rfl
    have e111 : ofString "is_vector" = ⟨#[105, 115, 95, 118, 101, 99, 116, 111, 114]⟩ := by with_unfolding_all rfl
    have e112 : ofString "vector_length" = ⟨#[118, 101, 99, 116, 111, 114, 95, 108, 101, 110, 103, 116, 104]⟩ := by with_unfolding_all rfl
    have e113 : ofString "vector_item" = ⟨#[118, 101, 99, 116, 111, 114, 95, 105, 116, 101, 109]⟩ := by with_unfolding_all rfl
    have e114 : ofString "set_vector_item" = ⟨#[115, 101, 116, 95, 118, 101, 99, 116, 111, 114, 95, 105, 116, 101, 109]⟩ := by with_unfolding_all rfl
    have e115 : ofString "number_of" = ⟨#[110, 117, 109, 98, 101, 114, 95, 111, 102]⟩ := by with_unfolding_all rfl
    have e116 : ofString "box" = ⟨#[98, 111, 120]⟩ := by with_unfolding_all rfl
    have e117 : ofString "unbox" = ⟨#[117, 110, 98, 111, 120]⟩ := by with_unfolding_all rfl
    have e118 : ofString "set_box" = ⟨#[115, 101, 116, 95, 98, 111, 120]⟩ := by with_unfolding_all rfl
    have e119 : ofString "promise" = ⟨#[112, 114, 111, 109, 105, 115, 101]⟩ := by with_unfolding_all rfl
    have e120 : ofString "is_promise" = ⟨#[105, 115, 95, 112, 114, 111, 109, 105, 115, 101]⟩ := by with_unfolding_all rfl
    have e121 : ofString "promise_is_done" = ⟨#[112, 114, 111, 109, 105, 115, 101, 95, 105, 115, 95, 100, 111, 110, 101]⟩ := by with_unfolding_all rfl
    have e122 : ofString "promise_content" = ⟨#[112, 114, 111, 109, 105, 115, 101, 95, 99, 111, 110, 116, 101, 110, 116]⟩ := by with_unfolding_all rfl
    have e123 : ofString "settle" = ⟨#[115, 101, 116, 116, 108, 101]⟩ := by with_unfolding_all rfl
    have e124 : ofString "port" = ⟨#[112, 111, 114, 116]⟩ := by with_unfolding_all rfl
    have e125 : ofString "is_port" = ⟨#[105, 115, 95, 112, 111, 114, 116]⟩ := by with_unfolding_all rfl
    have e126 : ofString "port_number" = ⟨#[112, 111, 114, 116, 95, 110, 117, 109, 98, 101, 114]⟩ := by with_unfolding_all rfl
    have e127 : ofString "is_procedure" = ⟨#[105, 115, 95, 112, 114, 111, 99, 101, 100, 117, 114, 101]⟩ := by with_unfolding_all rfl
    have e128 : ofString "same" = ⟨#[115, 97, 109, 101]⟩ := by with_unfolding_all rfl
    have e129 : ofString "datum" = ⟨#[100, 97, 116, 117, 109]⟩ := by with_unfolding_all rfl
    have e130 : ofString "from_datum" = ⟨#[102, 114, 111, 109, 95, 100, 97, 116, 117, 109]⟩ := by with_unfolding_all rfl
    have e131 : ofString "scheme.equality" = ⟨#[115, 99, 104, 101, 109, 101, 46, 101, 113, 117, 97, 108, 105, 116, 121]⟩ := by with_unfolding_all rfl
    have e132 : ofString "prim_boolean_p" = ⟨#[112, 114, 105, 109, 95, 98, 111, 111, 108, 101, 97, 110, 95, 112]⟩ := by with_unfolding_all rfl
    have e133 : ofString "world" = ⟨#[119, 111, 114, 108, 100]⟩ := by with_unfolding_all rfl
    have e134 : ofString "store" = ⟨#[115, 116, 111, 114, 101]⟩ := by with_unfolding_all rfl
    have e135 : ofString "args" = ⟨#[97, 114, 103, 115]⟩ := by with_unfolding_all rfl
    have e136 : ofString "prim_not" = ⟨#[112, 114, 105, 109, 95, 110, 111, 116]⟩ := by with_unfolding_all rfl
    have e137 : ofString "law_nt0186_01" = ⟨#[108, 97, 119, 95, 110, 116, 48, 49, 56, 54, 95, 48, 49]⟩ := by with_unfolding_all rfl
    have e138 : ofString "_law_deck" = ⟨#[95, 108, 97, 119, 95, 100, 101, 99, 107]⟩ := by with_unfolding_all rfl
    have e139 : ofString "script" = ⟨#[115, 99, 114, 105, 112, 116]⟩ := by with_unfolding_all rfl
    have e140 : ofString "cells" = ⟨#[99, 101, 108, 108, 115]⟩ := by with_unfolding_all rfl
    have e141 : ofString "cell" = ⟨#[99, 101, 108, 108]⟩ := by with_unfolding_all rfl
    have e142 : ofString ".0" = ⟨#[46, 48]⟩ := by with_unfolding_all rfl
    have e143 : ofString "sum" = ⟨#[115, 117, 109]⟩ := by with_unfolding_all rfl
    have e144 : ofString "fast" = ⟨#[102, 97, 115, 116]⟩ := by with_unfolding_all rfl
    have e145 : ofString "_law_draw" = ⟨#[95, 108, 97, 119, 95, 100, 114, 97, 119]⟩ := by with_unfolding_all rfl
    have e146 : ofString "deck" = ⟨#[100, 101, 99, 107]⟩ := by with_unfolding_all rfl
    have e147 : ofString "many" = ⟨#[109, 97, 110, 121]⟩ := by with_unfolding_all rfl
    have e148 : ofString "pop" = ⟨#[112, 111, 112]⟩ := by with_unfolding_all rfl
    have e149 : ofString "mixed" = ⟨#[109, 105, 120, 101, 100]⟩ := by with_unfolding_all rfl
    have e150 : ofString "_law_plain" = ⟨#[95, 108, 97, 119, 95, 112, 108, 97, 105, 110]⟩ := by with_unfolding_all rfl
    have e151 : ofString "kind" = ⟨#[107, 105, 110, 100]⟩ := by with_unfolding_all rfl
    have e152 : ofString "procedure" = ⟨#[112, 114, 111, 99, 101, 100, 117, 114, 101]⟩ := by with_unfolding_all rfl
    have e153 : ofString "single" = ⟨#[115, 105, 110, 103, 108, 101]⟩ := by with_unfolding_all rfl
    have e154 : ofString "word" = ⟨#[119, 111, 114, 100]⟩ := by with_unfolding_all rfl
    have e155 : ofString "way" = ⟨#[119, 97, 121]⟩ := by with_unfolding_all rfl
    have e156 : ofString "ratio" = ⟨#[114, 97, 116, 105, 111]⟩ := by with_unfolding_all rfl
    have e157 : ofString "real" = ⟨#[114, 101, 97, 108]⟩ := by with_unfolding_all rfl
    have e158 : ofString "whole" = ⟨#[119, 104, 111, 108, 101]⟩ := by with_unfolding_all rfl
    have e159 : ofString "_law_thing" = ⟨#[95, 108, 97, 119, 95, 116, 104, 105, 110, 103]⟩ := by with_unfolding_all rfl
    have e160 : ofString "blocks" = ⟨#[98, 108, 111, 99, 107, 115]⟩ := by with_unfolding_all rfl
    have e161 : ofString "block" = ⟨#[98, 108, 111, 99, 107]⟩ := by with_unfolding_all rfl
    have e162 : ofString "min" = ⟨#[109, 105, 110]⟩ := by with_unfolding_all rfl
    have e163 : ofString "_law_value" = ⟨#[95, 108, 97, 119, 95, 118, 97, 108, 117, 101]⟩ := by with_unfolding_all rfl
    have e164 : ofString "values" = ⟨#[118, 97, 108, 117, 101, 115]⟩ := by with_unfolding_all rfl
    have e165 : ofString "thing" = ⟨#[116, 104, 105, 110, 103]⟩ := by with_unfolding_all rfl
    have e166 : ofString "what" = ⟨#[119, 104, 97, 116]⟩ := by with_unfolding_all rfl
    have e167 : ofString "p" = ⟨#[112]⟩ := by with_unfolding_all rfl
    have e168 : ofString "_law_make" = ⟨#[95, 108, 97, 119, 95, 109, 97, 107, 101]⟩ := by with_unfolding_all rfl
    have e169 : ofString "turn" = ⟨#[116, 117, 114, 110]⟩ := by with_unfolding_all rfl
    have e170 : ofString "range" = ⟨#[114, 97, 110, 103, 101]⟩ := by with_unfolding_all rfl
    have e171 : ofString "_law_change" = ⟨#[95, 108, 97, 119, 95, 99, 104, 97, 110, 103, 101]⟩ := by with_unfolding_all rfl
    have e172 : ofString "at" = ⟨#[97, 116]⟩ := by with_unfolding_all rfl
    have e173 : ofString "parts" = ⟨#[112, 97, 114, 116, 115]⟩ := by with_unfolding_all rfl
    have e174 : ofString "_law_answers" = ⟨#[95, 108, 97, 119, 95, 97, 110, 115, 119, 101, 114, 115]⟩ := by with_unfolding_all rfl
    have e175 : ofString "_law_is_kind" = ⟨#[95, 108, 97, 119, 95, 105, 115, 95, 107, 105, 110, 100]⟩ := by with_unfolding_all rfl
    have e176 : ofString "words" = ⟨#[119, 111, 114, 100, 115]⟩ := by with_unfolding_all rfl
    have e177 : ofString "own" = ⟨#[111, 119, 110]⟩ := by with_unfolding_all rfl
    have e178 : ofString "is_so" = ⟨#[105, 115, 95, 115, 111]⟩ := by with_unfolding_all rfl
    have e179 : ofString "_law_number" = ⟨#[95, 108, 97, 119, 95, 110, 117, 109, 98, 101, 114]⟩ := by with_unfolding_all rfl
    have e180 : ofString "_law_parts" = ⟨#[95, 108, 97, 119, 95, 112, 97, 114, 116, 115]⟩ := by with_unfolding_all rfl
    have e181 : ofString "_law_tells" = ⟨#[95, 108, 97, 119, 95, 116, 101, 108, 108, 115]⟩ := by with_unfolding_all rfl
    have e182 : ofString "told" = ⟨#[116, 111, 108, 100]⟩ := by with_unfolding_all rfl
    have e183 : ofString "a" = ⟨#[97]⟩ := by with_unfolding_all rfl
    have e184 : ofString "b" = ⟨#[98]⟩ := by with_unfolding_all rfl
    have e185 : ofString "zip" = ⟨#[122, 105, 112]⟩ := by with_unfolding_all rfl
    have e186 : ofString "_law_many" = ⟨#[95, 108, 97, 119, 95, 109, 97, 110, 121]⟩ := by with_unfolding_all rfl
    have e187 : ofString "law" = ⟨#[108, 97, 119]⟩ := by with_unfolding_all rfl
    have e188 : ofString "symbols" = ⟨#[115, 121, 109, 98, 111, 108, 115]⟩ := by with_unfolding_all rfl
    have e189 : ofString "/claim/cut.py" = ⟨#[47, 99, 108, 97, 105, 109, 47, 99, 117, 116, 46, 112, 121]⟩ := by with_unfolding_all rfl
    delta PySem.Challenge.pw_nt0186_01
    simp (maxSteps := 10000000) only [e0, e1, e2, e3, e4, e5, e6, e7, e8, e9, e10, e11, e12, e13, e14, e15, e16, e17, e18, e19, e20, e21, e22, e23, e24, e25, e26, e27, e28, e29, e30, e31, e32, e33, e34, e35, e36, e37, e38, e39, e40, e41, e42, e43, e44, e45, e46, e47, e48, e49, e50, e51, e52, e53, e54, e55, e56, e57, e58, e59, e60, e61, e62, e63, e64, e65, e66, e67, e68, e69, e70, e71, e72, e73, e74, e75, e76, e77, e78, e79, e80, e81, e82, e83, e84, e85, e86, e87, e88, e89, e90, e91, e92, e93, e94, e95, e96, e97, e98, e99, e100, e101, e102, e103, e104, e105, e106, e107, e108, e109, e110, e111, e112, e113, e114, e115, e116, e117, e118, e119, e120, e121, e122, e123, e124, e125, e126, e127, e128, e129, e130, e131, e132, e133, e134, e135, e136, e137, e138, e139, e140, e141, e142, e143, e144, e145, e146, e147, e148, e149, e150, e151, e152, e153, e154, e155, e156, e157, e158, e159, e160, e161, e162, e163, e164, e165, e166, e167, e168, e169, e170, e171, e172, e173, e174, e175, e176, e177, e178, e179, e180, e181, e182, e183, e184, e185, e186, e187, e188, e189]
    exact rfl
  case f => exact fun _ => ?s
noncomputable def stmC (i : Nat) : Stmt := (P1.main.body[i]?).getD (.Pass default)
noncomputable def mthC (i j : Nat) : Stmt := ((sSub (stmC i))[j]?).getD (.Pass default)
theorem stm_C : stm = stmC := rfl
theorem mth_C : mth = mthC := rfl
-- what the top's run leaves, as far as the call asks it
noncomputable def o2 (P : Params) : Obj := ⟨.none, none, .dict #[] 0, #[]⟩
noncomputable def o3 (P : Params) : Obj := ⟨(.type "dict"), none, .dict #[en P (ofString "__name__") 165 (.str (ofString "law_nt0186_01") 1240), en P (ofString "__doc__") 166 .none, en P (ofString "__package__") 167 .none, en P (ofString "__loader__") 168 (.builtin "__main__.__loader__#opaque"), en P (ofString "__spec__") 169 .none, en P (ofString "__annotations__") 170 (.ref 6), en P (ofString "__builtins__") 171 (.ref 4), en P (ofString "__file__") 173 (.str (ofString "/claim/cut.py") 172), en P (ofString "__cached__") 174 .none, en P (ofString "_wall") 193 (.ref 21), en P (ofString "Special") 224 (.ref 38), en P (ofString "EMPTY") 230 (.ref 44), en P (ofString "UNSPECIFIED") 236 (.ref 47), en P (ofString "UNASSIGNED") 242 (.ref 50), en P (ofString "EOF") 248 (.ref 53), en P (ofString "Symbol") 279 (.ref 71), en P (ofString "SymbolTable") 357 (.ref 134), en P (ofString "Pair") 388 (.ref 155), en P (ofString "Char") 417 (.ref 176), en P (ofString "Text") 446 (.ref 197), en P (ofString "Vector") 475 (.ref 218), en P (ofString "Box") 504 (.ref 239), en P (ofString "Promise") 535 (.ref 260), en P (ofString "PortRef") 564 (.ref 281), en P (ofString "Procedure") 593 (.ref 302), en P (ofString "Primitive") 619 (.ref 323), en P (ofString "Real") 652 (.ref 342), en P (ofString "same_real") 660 (.ref 353), en P (ofString "Ratio") 693 (.ref 370), en P (ofString "is_whole") 700 (.ref 381), en P (ofString "is_exact") 707 (.ref 388), en P (ofString "top_of") 714 (.ref 395), en P (ofString "bottom_of") 721 (.ref 402), en P (ofString "gcd_of") 729 (.ref 409), en P (ofString "made") 737 (.ref 416), en P (ofString "ratio_of") 746 (.ref 423), en P (ofString "is_equal_exact") 754 (.ref 430), en P (ofString "is_inexact") 763 (.ref 437), en P (ofString "is_number") 770 (.ref 444), en P (ofString "is_number_numkinds") 771 (.ref 444), en P (ofString "same_number") 779 (.ref 451), en P (ofString "ObjectStore") 1219 (.ref 818), en P (ofString "prim_boolean_p") 1230 (.ref 829), en P (ofString "prim_not") 1239 (.ref 836), en P (ofString "_law_deck") 1247 (.ref 841), en P (ofString "_law_draw") 1257 (.ref 848), en P (ofString "_law_plain") 1267 (.ref 855), en P (ofString "_law_thing") 1275 (.ref 862), en P (ofString "_law_value") 1286 (.ref 869), en P (ofString "_law_make") 1292 (.ref 874), en P (ofString "_law_change") 1308 (.ref 881), en P (ofString "_law_answers") 1317 (.ref 888), en P (ofString "_law_is_kind") 1323 (.ref 893), en P (ofString "_law_number") 1330 (.ref 900), en P (ofString "_law_parts") 1336 (.ref 905), en P (ofString "_law_tells") 1342 (.ref 910), en P (ofString "_law_many") 1348 (.ref 915), en P (ofString "law") 1354 (.ref 920)] 58, #[]⟩
noncomputable def o20 : Obj := ⟨(.type "code"), none, .fields #[(.str (ofString "_wall") 187), (.str (ofString "_wall") 188), (.str (ofString "/claim/cut.py") 189), (.int 1 0), (.int 1 0), (.int 0 0), (.int 0 0), (.int 3 0), (.ref 15), (.bool true), (.int 181 0), (.ref 16), .none, (.ref 17), (.ref 18), (.ref 19), (.int 191 0), (.int 1 0), (.str (ofString "/claim/cut.py") 192)], #[]⟩
noncomputable def o21 : Obj := fn (ofString "_wall") (ofString "_wall") (stm 0) .none (.str (ofString "__main__") 164) 20
noncomputable def o34 : Obj := ⟨(.type "code"), none, .fields #[(.str (ofString "__init__") 208), (.str (ofString "Special.__init__") 209), (.str (ofString "/claim/cut.py") 210), (.int 7 0), (.int 2 0), (.int 0 0), (.int 0 0), (.int 3 0), (.ref 29), (.bool true), (.int 181 0), (.ref 30), .none, (.ref 31), (.ref 32), (.ref 33), (.int 213 0), (.int 7 0), (.str (ofString "/claim/cut.py") 214)], #[]⟩
noncomputable def o35 : Obj := fn (ofString "__init__") (ofString "Special.__init__") (mth 2 0) .none (.str (ofString "scheme.data") 194) 34
noncomputable def o37 (P : Params) : Obj := ⟨(.type "dict"), none, .dict #[en P (ofString "__module__") 203 (.str (ofString "scheme.data") 194), en P (ofString "__firstlineno__") 207 (.int 5 206), en P (ofString "__init__") 215 (.ref 35), en P (ofString "__static_attributes__") 217 (.ref 36), en P (ofString "__dict__") 219 (.ref 39), en P (ofString "__weakref__") 221 (.ref 40), en P (ofString "__doc__") 222 .none] 4, #[]⟩
noncomputable def o38 : Obj := ⟨(.type "type"), none, .cls { name := (ofString "Special"), bases := [(.type "object")], mro := [(.ref 38), (.type "object")], ns := 37, qualname := (ofString "Special"), hasDict := true, slotNames := [], subclasses := [], abstract := false, collection := none, hasDel := false }, #[none, none, some (.str (ofString "Special") 196), some (.str (ofString "Special") 204), some (.builtin "object.__new__"), some (.bool true)]⟩
noncomputable def o39 : Obj := ⟨(.type "getset_descriptor"), none, .fields #[(.str (ofString "__dict__") 218), (.ref 38), (.builtin "function.__dict__"), (.builtin "function.__dict__#set")], #[]⟩
noncomputable def o40 : Obj := ⟨(.type "getset_descriptor"), none, .fields #[(.str (ofString "__weakref__") 220), (.ref 38), (.builtin "ExceptionGroup.__weakref__"), .none], #[]⟩
noncomputable def o43 (P : Params) : Obj := ⟨(.type "dict"), none, .dict #[en P (ofString "title") 229 (.str (ofString "empty") 225)] 1, #[]⟩
noncomputable def o44 : Obj := ⟨(.ref 38), (some 43), .plain, #[]⟩
noncomputable def o46 (P : Params) : Obj := ⟨(.type "dict"), none, .dict #[en P (ofString "title") 235 (.str (ofString "unspecified") 231)] 1, #[]⟩
noncomputable def o47 : Obj := ⟨(.ref 38), (some 46), .plain, #[]⟩
noncomputable def o49 (P : Params) : Obj := ⟨(.type "dict"), none, .dict #[en P (ofString "title") 241 (.str (ofString "unassigned") 237)] 1, #[]⟩
noncomputable def o50 : Obj := ⟨(.ref 38), (some 49), .plain, #[]⟩
noncomputable def o52 (P : Params) : Obj := ⟨(.type "dict"), none, .dict #[en P (ofString "title") 247 (.str (ofString "eof") 243)] 1, #[]⟩
noncomputable def o53 : Obj := ⟨(.ref 38), (some 52), .plain, #[]⟩
noncomputable def o67 : Obj := ⟨(.type "code"), none, .fields #[(.str (ofString "__init__") 261), (.str (ofString "Symbol.__init__") 262), (.str (ofString "/claim/cut.py") 263), (.int 15 0), (.int 3 0), (.int 0 0), (.int 0 0), (.int 3 0), (.ref 62), (.bool true), (.int 181 0), (.ref 63), .none, (.ref 64), (.ref 65), (.ref 66), (.int 267 0), (.int 15 0), (.str (ofString "/claim/cut.py") 268)], #[]⟩
noncomputable def o68 : Obj := fn (ofString "__init__") (ofString "Symbol.__init__") (mth 7 0) .none (.str (ofString "scheme.data") 194) 67
noncomputable def o70 (P : Params) : Obj := ⟨(.type "dict"), none, .dict #[en P (ofString "__module__") 256 (.str (ofString "scheme.data") 194), en P (ofString "__firstlineno__") 260 (.int 13 259), en P (ofString "__init__") 269 (.ref 68), en P (ofString "__static_attributes__") 272 (.ref 69), en P (ofString "__dict__") 274 (.ref 72), en P (ofString "__weakref__") 276 (.ref 73), en P (ofString "__doc__") 277 .none] 4, #[]⟩
noncomputable def o71 : Obj := ⟨(.type "type"), none, .cls { name := (ofString "Symbol"), bases := [(.type "object")], mro := [(.ref 71), (.type "object")], ns := 70, qualname := (ofString "Symbol"), hasDict := true, slotNames := [], subclasses := [], abstract := false, collection := none, hasDel := false }, #[none, none, some (.str (ofString "Symbol") 249), some (.str (ofString "Symbol") 257), some (.builtin "object.__new__"), some (.bool true)]⟩
noncomputable def o72 : Obj := ⟨(.type "getset_descriptor"), none, .fields #[(.str (ofString "__dict__") 273), (.ref 71), (.builtin "function.__dict__"), (.builtin "function.__dict__#set")], #[]⟩
noncomputable def o73 : Obj := ⟨(.type "getset_descriptor"), none, .fields #[(.str (ofString "__weakref__") 275), (.ref 71), (.builtin "ExceptionGroup.__weakref__"), .none], #[]⟩
noncomputable def o88 : Obj := ⟨(.type "code"), none, .fields #[(.str (ofString "__init__") 292), (.str (ofString "SymbolTable.__init__") 293), (.str (ofString "/claim/cut.py") 294), (.int 20 0), (.int 1 0), (.int 0 0), (.int 0 0), (.int 3 0), (.ref 83), (.bool true), (.int 181 0), (.ref 84), .none, (.ref 85), (.ref 86), (.ref 87), (.int 296 0), (.int 20 0), (.str (ofString "/claim/cut.py") 297)], #[]⟩
noncomputable def o89 : Obj := fn (ofString "__init__") (ofString "SymbolTable.__init__") (mth 8 0) .none (.str (ofString "scheme.data") 194) 88
noncomputable def o95 : Obj := ⟨(.type "code"), none, .fields #[(.str (ofString "symbol") 299), (.str (ofString "SymbolTable.symbol") 300), (.str (ofString "/claim/cut.py") 301), (.int 24 0), (.int 2 0), (.int 0 0), (.int 0 0), (.int 3 0), (.ref 90), (.bool true), (.int 181 0), (.ref 91), .none, (.ref 92), (.ref 93), (.ref 94), (.int 305 0), (.int 24 0), (.str (ofString "/claim/cut.py") 306)], #[]⟩
noncomputable def o96 : Obj := fn (ofString "symbol") (ofString "SymbolTable.symbol") (mth 8 1) .none (.str (ofString "scheme.data") 194) 95
noncomputable def o102 : Obj := ⟨(.type "code"), none, .fields #[(.str (ofString "fresh") 308), (.str (ofString "SymbolTable.fresh") 309), (.str (ofString "/claim/cut.py") 310), (.int 32 0), (.int 2 0), (.int 0 0), (.int 0 0), (.int 3 0), (.ref 97), (.bool true), (.int 181 0), (.ref 98), .none, (.ref 99), (.ref 100), (.ref 101), (.int 314 0), (.int 32 0), (.str (ofString "/claim/cut.py") 315)], #[]⟩
noncomputable def o103 : Obj := fn (ofString "fresh") (ofString "SymbolTable.fresh") (mth 8 2) .none (.str (ofString "scheme.data") 194) 102
noncomputable def o109 : Obj := ⟨(.type "code"), none, .fields #[(.str (ofString "by_number") 317), (.str (ofString "SymbolTable.by_number") 318), (.str (ofString "/claim/cut.py") 319), (.int 37 0), (.int 2 0), (.int 0 0), (.int 0 0), (.int 3 0), (.ref 104), (.bool true), (.int 181 0), (.ref 105), .none, (.ref 106), (.ref 107), (.ref 108), (.int 322 0), (.int 37 0), (.str (ofString "/claim/cut.py") 323)], #[]⟩
noncomputable def o110 : Obj := fn (ofString "by_number") (ofString "SymbolTable.by_number") (mth 8 3) .none (.str (ofString "scheme.data") 194) 109
noncomputable def o116 : Obj := ⟨(.type "code"), none, .fields #[(.str (ofString "find") 325), (.str (ofString "SymbolTable.find") 326), (.str (ofString "/claim/cut.py") 327), (.int 40 0), (.int 2 0), (.int 0 0), (.int 0 0), (.int 3 0), (.ref 111), (.bool true), (.int 181 0), (.ref 112), .none, (.ref 113), (.ref 114), (.ref 115), (.int 330 0), (.int 40 0), (.str (ofString "/claim/cut.py") 331)], #[]⟩
noncomputable def o117 : Obj := fn (ofString "find") (ofString "SymbolTable.find") (mth 8 4) .none (.str (ofString "scheme.data") 194) 116
noncomputable def o123 : Obj := ⟨(.type "code"), none, .fields #[(.str (ofString "is_interned") 333), (.str (ofString "SymbolTable.is_interned") 334), (.str (ofString "/claim/cut.py") 335), (.int 43 0), (.int 2 0), (.int 0 0), (.int 0 0), (.int 3 0), (.ref 118), (.bool true), (.int 181 0), (.ref 119), .none, (.ref 120), (.ref 121), (.ref 122), (.int 338 0), (.int 43 0), (.str (ofString "/claim/cut.py") 339)], #[]⟩
noncomputable def o124 : Obj := fn (ofString "is_interned") (ofString "SymbolTable.is_interned") (mth 8 5) .none (.str (ofString "scheme.data") 194) 123
noncomputable def o130 : Obj := ⟨(.type "code"), none, .fields #[(.str (ofString "size") 341), (.str (ofString "SymbolTable.size") 342), (.str (ofString "/claim/cut.py") 343), (.int 46 0), (.int 1 0), (.int 0 0), (.int 0 0), (.int 3 0), (.ref 125), (.bool true), (.int 181 0), (.ref 126), .none, (.ref 127), (.ref 128), (.ref 129), (.int 345 0), (.int 46 0), (.str (ofString "/claim/cut.py") 346)], #[]⟩
noncomputable def o131 : Obj := fn (ofString "size") (ofString "SymbolTable.size") (mth 8 6) .none (.str (ofString "scheme.data") 194) 130
noncomputable def o133 (P : Params) : Obj := ⟨(.type "dict"), none, .dict #[en P (ofString "__module__") 287 (.str (ofString "scheme.data") 194), en P (ofString "__firstlineno__") 291 (.int 18 290), en P (ofString "__init__") 298 (.ref 89), en P (ofString "symbol") 307 (.ref 96), en P (ofString "fresh") 316 (.ref 103), en P (ofString "by_number") 324 (.ref 110), en P (ofString "find") 332 (.ref 117), en P (ofString "is_interned") 340 (.ref 124), en P (ofString "size") 347 (.ref 131), en P (ofString "__static_attributes__") 350 (.ref 132), en P (ofString "__dict__") 352 (.ref 135), en P (ofString "__weakref__") 354 (.ref 136), en P (ofString "__doc__") 355 .none] 4, #[]⟩
noncomputable def o134 : Obj := ⟨(.type "type"), none, .cls { name := (ofString "SymbolTable"), bases := [(.type "object")], mro := [(.ref 134), (.type "object")], ns := 133, qualname := (ofString "SymbolTable"), hasDict := true, slotNames := [], subclasses := [], abstract := false, collection := none, hasDel := false }, #[none, none, some (.str (ofString "SymbolTable") 280), some (.str (ofString "SymbolTable") 288), some (.builtin "object.__new__"), some (.bool true)]⟩
noncomputable def o135 : Obj := ⟨(.type "getset_descriptor"), none, .fields #[(.str (ofString "__dict__") 351), (.ref 134), (.builtin "function.__dict__"), (.builtin "function.__dict__#set")], #[]⟩
noncomputable def o136 : Obj := ⟨(.type "getset_descriptor"), none, .fields #[(.str (ofString "__weakref__") 353), (.ref 134), (.builtin "ExceptionGroup.__weakref__"), .none], #[]⟩
noncomputable def o151 : Obj := ⟨(.type "code"), none, .fields #[(.str (ofString "__init__") 370), (.str (ofString "Pair.__init__") 371), (.str (ofString "/claim/cut.py") 372), (.int 50 0), (.int 3 0), (.int 0 0), (.int 0 0), (.int 3 0), (.ref 146), (.bool true), (.int 181 0), (.ref 147), .none, (.ref 148), (.ref 149), (.ref 150), (.int 376 0), (.int 50 0), (.str (ofString "/claim/cut.py") 377)], #[]⟩
noncomputable def o152 : Obj := fn (ofString "__init__") (ofString "Pair.__init__") (mth 9 0) .none (.str (ofString "scheme.data") 194) 151
noncomputable def o154 (P : Params) : Obj := ⟨(.type "dict"), none, .dict #[en P (ofString "__module__") 365 (.str (ofString "scheme.data") 194), en P (ofString "__firstlineno__") 369 (.int 48 368), en P (ofString "__init__") 378 (.ref 152), en P (ofString "__static_attributes__") 381 (.ref 153), en P (ofString "__dict__") 383 (.ref 156), en P (ofString "__weakref__") 385 (.ref 157), en P (ofString "__doc__") 386 .none] 4, #[]⟩
noncomputable def o155 : Obj := ⟨(.type "type"), none, .cls { name := (ofString "Pair"), bases := [(.type "object")], mro := [(.ref 155), (.type "object")], ns := 154, qualname := (ofString "Pair"), hasDict := true, slotNames := [], subclasses := [], abstract := false, collection := none, hasDel := false }, #[none, none, some (.str (ofString "Pair") 358), some (.str (ofString "Pair") 366), some (.builtin "object.__new__"), some (.bool true)]⟩
noncomputable def o156 : Obj := ⟨(.type "getset_descriptor"), none, .fields #[(.str (ofString "__dict__") 382), (.ref 155), (.builtin "function.__dict__"), (.builtin "function.__dict__#set")], #[]⟩
noncomputable def o157 : Obj := ⟨(.type "getset_descriptor"), none, .fields #[(.str (ofString "__weakref__") 384), (.ref 155), (.builtin "ExceptionGroup.__weakref__"), .none], #[]⟩
noncomputable def o172 : Obj := ⟨(.type "code"), none, .fields #[(.str (ofString "__init__") 401), (.str (ofString "Char.__init__") 402), (.str (ofString "/claim/cut.py") 403), (.int 55 0), (.int 2 0), (.int 0 0), (.int 0 0), (.int 3 0), (.ref 167), (.bool true), (.int 181 0), (.ref 168), .none, (.ref 169), (.ref 170), (.ref 171), (.int 406 0), (.int 55 0), (.str (ofString "/claim/cut.py") 407)], #[]⟩
noncomputable def o173 : Obj := fn (ofString "__init__") (ofString "Char.__init__") (mth 10 0) .none (.str (ofString "scheme.data") 194) 172
noncomputable def o175 (P : Params) : Obj := ⟨(.type "dict"), none, .dict #[en P (ofString "__module__") 396 (.str (ofString "scheme.data") 194), en P (ofString "__firstlineno__") 400 (.int 53 399), en P (ofString "__init__") 408 (.ref 173), en P (ofString "__static_attributes__") 410 (.ref 174), en P (ofString "__dict__") 412 (.ref 177), en P (ofString "__weakref__") 414 (.ref 178), en P (ofString "__doc__") 415 .none] 4, #[]⟩
noncomputable def o176 : Obj := ⟨(.type "type"), none, .cls { name := (ofString "Char"), bases := [(.type "object")], mro := [(.ref 176), (.type "object")], ns := 175, qualname := (ofString "Char"), hasDict := true, slotNames := [], subclasses := [], abstract := false, collection := none, hasDel := false }, #[none, none, some (.str (ofString "Char") 389), some (.str (ofString "Char") 397), some (.builtin "object.__new__"), some (.bool true)]⟩
noncomputable def o177 : Obj := ⟨(.type "getset_descriptor"), none, .fields #[(.str (ofString "__dict__") 411), (.ref 176), (.builtin "function.__dict__"), (.builtin "function.__dict__#set")], #[]⟩
noncomputable def o178 : Obj := ⟨(.type "getset_descriptor"), none, .fields #[(.str (ofString "__weakref__") 413), (.ref 176), (.builtin "ExceptionGroup.__weakref__"), .none], #[]⟩
noncomputable def o193 : Obj := ⟨(.type "code"), none, .fields #[(.str (ofString "__init__") 430), (.str (ofString "Text.__init__") 431), (.str (ofString "/claim/cut.py") 432), (.int 59 0), (.int 2 0), (.int 0 0), (.int 0 0), (.int 3 0), (.ref 188), (.bool true), (.int 181 0), (.ref 189), .none, (.ref 190), (.ref 191), (.ref 192), (.int 435 0), (.int 59 0), (.str (ofString "/claim/cut.py") 436)], #[]⟩
noncomputable def o194 : Obj := fn (ofString "__init__") (ofString "Text.__init__") (mth 11 0) .none (.str (ofString "scheme.data") 194) 193
noncomputable def o196 (P : Params) : Obj := ⟨(.type "dict"), none, .dict #[en P (ofString "__module__") 425 (.str (ofString "scheme.data") 194), en P (ofString "__firstlineno__") 429 (.int 57 428), en P (ofString "__init__") 437 (.ref 194), en P (ofString "__static_attributes__") 439 (.ref 195), en P (ofString "__dict__") 441 (.ref 198), en P (ofString "__weakref__") 443 (.ref 199), en P (ofString "__doc__") 444 .none] 4, #[]⟩
noncomputable def o197 : Obj := ⟨(.type "type"), none, .cls { name := (ofString "Text"), bases := [(.type "object")], mro := [(.ref 197), (.type "object")], ns := 196, qualname := (ofString "Text"), hasDict := true, slotNames := [], subclasses := [], abstract := false, collection := none, hasDel := false }, #[none, none, some (.str (ofString "Text") 418), some (.str (ofString "Text") 426), some (.builtin "object.__new__"), some (.bool true)]⟩
noncomputable def o198 : Obj := ⟨(.type "getset_descriptor"), none, .fields #[(.str (ofString "__dict__") 440), (.ref 197), (.builtin "function.__dict__"), (.builtin "function.__dict__#set")], #[]⟩
noncomputable def o199 : Obj := ⟨(.type "getset_descriptor"), none, .fields #[(.str (ofString "__weakref__") 442), (.ref 197), (.builtin "ExceptionGroup.__weakref__"), .none], #[]⟩
noncomputable def o214 : Obj := ⟨(.type "code"), none, .fields #[(.str (ofString "__init__") 459), (.str (ofString "Vector.__init__") 460), (.str (ofString "/claim/cut.py") 461), (.int 63 0), (.int 2 0), (.int 0 0), (.int 0 0), (.int 3 0), (.ref 209), (.bool true), (.int 181 0), (.ref 210), .none, (.ref 211), (.ref 212), (.ref 213), (.int 464 0), (.int 63 0), (.str (ofString "/claim/cut.py") 465)], #[]⟩
noncomputable def o215 : Obj := fn (ofString "__init__") (ofString "Vector.__init__") (mth 12 0) .none (.str (ofString "scheme.data") 194) 214
noncomputable def o217 (P : Params) : Obj := ⟨(.type "dict"), none, .dict #[en P (ofString "__module__") 454 (.str (ofString "scheme.data") 194), en P (ofString "__firstlineno__") 458 (.int 61 457), en P (ofString "__init__") 466 (.ref 215), en P (ofString "__static_attributes__") 468 (.ref 216), en P (ofString "__dict__") 470 (.ref 219), en P (ofString "__weakref__") 472 (.ref 220), en P (ofString "__doc__") 473 .none] 4, #[]⟩
noncomputable def o218 : Obj := ⟨(.type "type"), none, .cls { name := (ofString "Vector"), bases := [(.type "object")], mro := [(.ref 218), (.type "object")], ns := 217, qualname := (ofString "Vector"), hasDict := true, slotNames := [], subclasses := [], abstract := false, collection := none, hasDel := false }, #[none, none, some (.str (ofString "Vector") 447), some (.str (ofString "Vector") 455), some (.builtin "object.__new__"), some (.bool true)]⟩
noncomputable def o219 : Obj := ⟨(.type "getset_descriptor"), none, .fields #[(.str (ofString "__dict__") 469), (.ref 218), (.builtin "function.__dict__"), (.builtin "function.__dict__#set")], #[]⟩
noncomputable def o220 : Obj := ⟨(.type "getset_descriptor"), none, .fields #[(.str (ofString "__weakref__") 471), (.ref 218), (.builtin "ExceptionGroup.__weakref__"), .none], #[]⟩
noncomputable def o235 : Obj := ⟨(.type "code"), none, .fields #[(.str (ofString "__init__") 488), (.str (ofString "Box.__init__") 489), (.str (ofString "/claim/cut.py") 490), (.int 67 0), (.int 2 0), (.int 0 0), (.int 0 0), (.int 3 0), (.ref 230), (.bool true), (.int 181 0), (.ref 231), .none, (.ref 232), (.ref 233), (.ref 234), (.int 493 0), (.int 67 0), (.str (ofString "/claim/cut.py") 494)], #[]⟩
noncomputable def o236 : Obj := fn (ofString "__init__") (ofString "Box.__init__") (mth 13 0) .none (.str (ofString "scheme.data") 194) 235
noncomputable def o238 (P : Params) : Obj := ⟨(.type "dict"), none, .dict #[en P (ofString "__module__") 483 (.str (ofString "scheme.data") 194), en P (ofString "__firstlineno__") 487 (.int 65 486), en P (ofString "__init__") 495 (.ref 236), en P (ofString "__static_attributes__") 497 (.ref 237), en P (ofString "__dict__") 499 (.ref 240), en P (ofString "__weakref__") 501 (.ref 241), en P (ofString "__doc__") 502 .none] 4, #[]⟩
noncomputable def o239 : Obj := ⟨(.type "type"), none, .cls { name := (ofString "Box"), bases := [(.type "object")], mro := [(.ref 239), (.type "object")], ns := 238, qualname := (ofString "Box"), hasDict := true, slotNames := [], subclasses := [], abstract := false, collection := none, hasDel := false }, #[none, none, some (.str (ofString "Box") 476), some (.str (ofString "Box") 484), some (.builtin "object.__new__"), some (.bool true)]⟩
noncomputable def o240 : Obj := ⟨(.type "getset_descriptor"), none, .fields #[(.str (ofString "__dict__") 498), (.ref 239), (.builtin "function.__dict__"), (.builtin "function.__dict__#set")], #[]⟩
noncomputable def o241 : Obj := ⟨(.type "getset_descriptor"), none, .fields #[(.str (ofString "__weakref__") 500), (.ref 239), (.builtin "ExceptionGroup.__weakref__"), .none], #[]⟩
noncomputable def o256 : Obj := ⟨(.type "code"), none, .fields #[(.str (ofString "__init__") 517), (.str (ofString "Promise.__init__") 518), (.str (ofString "/claim/cut.py") 519), (.int 71 0), (.int 3 0), (.int 0 0), (.int 0 0), (.int 3 0), (.ref 251), (.bool true), (.int 181 0), (.ref 252), .none, (.ref 253), (.ref 254), (.ref 255), (.int 523 0), (.int 71 0), (.str (ofString "/claim/cut.py") 524)], #[]⟩
noncomputable def o257 : Obj := fn (ofString "__init__") (ofString "Promise.__init__") (mth 14 0) .none (.str (ofString "scheme.data") 194) 256
noncomputable def o259 (P : Params) : Obj := ⟨(.type "dict"), none, .dict #[en P (ofString "__module__") 512 (.str (ofString "scheme.data") 194), en P (ofString "__firstlineno__") 516 (.int 69 515), en P (ofString "__init__") 525 (.ref 257), en P (ofString "__static_attributes__") 528 (.ref 258), en P (ofString "__dict__") 530 (.ref 261), en P (ofString "__weakref__") 532 (.ref 262), en P (ofString "__doc__") 533 .none] 4, #[]⟩
noncomputable def o260 : Obj := ⟨(.type "type"), none, .cls { name := (ofString "Promise"), bases := [(.type "object")], mro := [(.ref 260), (.type "object")], ns := 259, qualname := (ofString "Promise"), hasDict := true, slotNames := [], subclasses := [], abstract := false, collection := none, hasDel := false }, #[none, none, some (.str (ofString "Promise") 505), some (.str (ofString "Promise") 513), some (.builtin "object.__new__"), some (.bool true)]⟩
noncomputable def o261 : Obj := ⟨(.type "getset_descriptor"), none, .fields #[(.str (ofString "__dict__") 529), (.ref 260), (.builtin "function.__dict__"), (.builtin "function.__dict__#set")], #[]⟩
noncomputable def o262 : Obj := ⟨(.type "getset_descriptor"), none, .fields #[(.str (ofString "__weakref__") 531), (.ref 260), (.builtin "ExceptionGroup.__weakref__"), .none], #[]⟩
noncomputable def o277 : Obj := ⟨(.type "code"), none, .fields #[(.str (ofString "__init__") 548), (.str (ofString "PortRef.__init__") 549), (.str (ofString "/claim/cut.py") 550), (.int 76 0), (.int 2 0), (.int 0 0), (.int 0 0), (.int 3 0), (.ref 272), (.bool true), (.int 181 0), (.ref 273), .none, (.ref 274), (.ref 275), (.ref 276), (.int 553 0), (.int 76 0), (.str (ofString "/claim/cut.py") 554)], #[]⟩
noncomputable def o278 : Obj := fn (ofString "__init__") (ofString "PortRef.__init__") (mth 15 0) .none (.str (ofString "scheme.data") 194) 277
noncomputable def o280 (P : Params) : Obj := ⟨(.type "dict"), none, .dict #[en P (ofString "__module__") 543 (.str (ofString "scheme.data") 194), en P (ofString "__firstlineno__") 547 (.int 74 546), en P (ofString "__init__") 555 (.ref 278), en P (ofString "__static_attributes__") 557 (.ref 279), en P (ofString "__dict__") 559 (.ref 282), en P (ofString "__weakref__") 561 (.ref 283), en P (ofString "__doc__") 562 .none] 4, #[]⟩
noncomputable def o281 : Obj := ⟨(.type "type"), none, .cls { name := (ofString "PortRef"), bases := [(.type "object")], mro := [(.ref 281), (.type "object")], ns := 280, qualname := (ofString "PortRef"), hasDict := true, slotNames := [], subclasses := [], abstract := false, collection := none, hasDel := false }, #[none, none, some (.str (ofString "PortRef") 536), some (.str (ofString "PortRef") 544), some (.builtin "object.__new__"), some (.bool true)]⟩
noncomputable def o282 : Obj := ⟨(.type "getset_descriptor"), none, .fields #[(.str (ofString "__dict__") 558), (.ref 281), (.builtin "function.__dict__"), (.builtin "function.__dict__#set")], #[]⟩
noncomputable def o283 : Obj := ⟨(.type "getset_descriptor"), none, .fields #[(.str (ofString "__weakref__") 560), (.ref 281), (.builtin "ExceptionGroup.__weakref__"), .none], #[]⟩
noncomputable def o298 : Obj := ⟨(.type "code"), none, .fields #[(.str (ofString "__init__") 577), (.str (ofString "Procedure.__init__") 578), (.str (ofString "/claim/cut.py") 579), (.int 80 0), (.int 2 0), (.int 0 0), (.int 0 0), (.int 3 0), (.ref 293), (.bool true), (.int 181 0), (.ref 294), .none, (.ref 295), (.ref 296), (.ref 297), (.int 582 0), (.int 80 0), (.str (ofString "/claim/cut.py") 583)], #[]⟩
noncomputable def o299 : Obj := fn (ofString "__init__") (ofString "Procedure.__init__") (mth 16 0) .none (.str (ofString "scheme.data") 194) 298
noncomputable def o301 (P : Params) : Obj := ⟨(.type "dict"), none, .dict #[en P (ofString "__module__") 572 (.str (ofString "scheme.data") 194), en P (ofString "__firstlineno__") 576 (.int 78 575), en P (ofString "__init__") 584 (.ref 299), en P (ofString "__static_attributes__") 586 (.ref 300), en P (ofString "__dict__") 588 (.ref 303), en P (ofString "__weakref__") 590 (.ref 304), en P (ofString "__doc__") 591 .none] 4, #[]⟩
noncomputable def o302 : Obj := ⟨(.type "type"), none, .cls { name := (ofString "Procedure"), bases := [(.type "object")], mro := [(.ref 302), (.type "object")], ns := 301, qualname := (ofString "Procedure"), hasDict := true, slotNames := [], subclasses := [(.ref 323)], abstract := false, collection := none, hasDel := false }, #[none, none, some (.str (ofString "Procedure") 565), some (.str (ofString "Procedure") 573), some (.builtin "object.__new__"), some (.bool true)]⟩
noncomputable def o303 : Obj := ⟨(.type "getset_descriptor"), none, .fields #[(.str (ofString "__dict__") 587), (.ref 302), (.builtin "function.__dict__"), (.builtin "function.__dict__#set")], #[]⟩
noncomputable def o304 : Obj := ⟨(.type "getset_descriptor"), none, .fields #[(.str (ofString "__weakref__") 589), (.ref 302), (.builtin "ExceptionGroup.__weakref__"), .none], #[]⟩
noncomputable def o319 : Obj := ⟨(.type "code"), none, .fields #[(.str (ofString "__init__") 606), (.str (ofString "Primitive.__init__") 607), (.str (ofString "/claim/cut.py") 608), (.int 84 0), (.int 3 0), (.int 0 0), (.int 0 0), (.int 3 0), (.ref 314), (.bool true), (.int 181 0), (.ref 315), .none, (.ref 316), (.ref 317), (.ref 318), (.int 612 0), (.int 84 0), (.str (ofString "/claim/cut.py") 613)], #[]⟩
noncomputable def o320 : Obj := fn (ofString "__init__") (ofString "Primitive.__init__") (mth 17 0) .none (.str (ofString "scheme.data") 194) 319
noncomputable def o322 (P : Params) : Obj := ⟨(.type "dict"), none, .dict #[en P (ofString "__module__") 601 (.str (ofString "scheme.data") 194), en P (ofString "__firstlineno__") 605 (.int 82 604), en P (ofString "__init__") 614 (.ref 320), en P (ofString "__static_attributes__") 616 (.ref 321), en P (ofString "__doc__") 617 .none] 2, #[]⟩
noncomputable def o323 : Obj := ⟨(.type "type"), none, .cls { name := (ofString "Primitive"), bases := [(.ref 302)], mro := [(.ref 323), (.ref 302), (.type "object")], ns := 322, qualname := (ofString "Primitive"), hasDict := true, slotNames := [], subclasses := [], abstract := false, collection := none, hasDel := false }, #[some (.ref 307), none, some (.str (ofString "Primitive") 594), some (.str (ofString "Primitive") 602), some (.builtin "object.__new__"), some (.bool true)]⟩
noncomputable def o338 : Obj := ⟨(.type "code"), none, .fields #[(.str (ofString "__init__") 634), (.str (ofString "Real.__init__") 635), (.str (ofString "/claim/cut.py") 636), (.int 90 0), (.int 3 0), (.int 0 0), (.int 0 0), (.int 3 0), (.ref 333), (.bool true), (.int 181 0), (.ref 334), .none, (.ref 335), (.ref 336), (.ref 337), (.int 640 0), (.int 90 0), (.str (ofString "/claim/cut.py") 641)], #[]⟩
noncomputable def o339 : Obj := fn (ofString "__init__") (ofString "Real.__init__") (mth 19 0) .none (.str (ofString "scheme.binary") 620) 338
noncomputable def o341 (P : Params) : Obj := ⟨(.type "dict"), none, .dict #[en P (ofString "__module__") 629 (.str (ofString "scheme.binary") 620), en P (ofString "__firstlineno__") 633 (.int 88 632), en P (ofString "__init__") 642 (.ref 339), en P (ofString "__static_attributes__") 645 (.ref 340), en P (ofString "__dict__") 647 (.ref 343), en P (ofString "__weakref__") 649 (.ref 344), en P (ofString "__doc__") 650 .none] 4, #[]⟩
noncomputable def o342 : Obj := ⟨(.type "type"), none, .cls { name := (ofString "Real"), bases := [(.type "object")], mro := [(.ref 342), (.type "object")], ns := 341, qualname := (ofString "Real"), hasDict := true, slotNames := [], subclasses := [], abstract := false, collection := none, hasDel := false }, #[none, none, some (.str (ofString "Real") 622), some (.str (ofString "Real") 630), some (.builtin "object.__new__"), some (.bool true)]⟩
noncomputable def o343 : Obj := ⟨(.type "getset_descriptor"), none, .fields #[(.str (ofString "__dict__") 646), (.ref 342), (.builtin "function.__dict__"), (.builtin "function.__dict__#set")], #[]⟩
noncomputable def o344 : Obj := ⟨(.type "getset_descriptor"), none, .fields #[(.str (ofString "__weakref__") 648), (.ref 342), (.builtin "ExceptionGroup.__weakref__"), .none], #[]⟩
noncomputable def o352 : Obj := ⟨(.type "code"), none, .fields #[(.str (ofString "same_real") 653), (.str (ofString "same_real") 654), (.str (ofString "/claim/cut.py") 655), (.int 93 0), (.int 2 0), (.int 0 0), (.int 0 0), (.int 3 0), (.ref 347), (.bool true), (.int 181 0), (.ref 348), .none, (.ref 349), (.ref 350), (.ref 351), (.int 658 0), (.int 93 0), (.str (ofString "/claim/cut.py") 659)], #[]⟩
noncomputable def o353 : Obj := fn (ofString "same_real") (ofString "same_real") (stm 20) .none (.str (ofString "scheme.binary") 620) 352
noncomputable def o366 : Obj := ⟨(.type "code"), none, .fields #[(.str (ofString "__init__") 675), (.str (ofString "Ratio.__init__") 676), (.str (ofString "/claim/cut.py") 677), (.int 98 0), (.int 3 0), (.int 0 0), (.int 0 0), (.int 3 0), (.ref 361), (.bool true), (.int 181 0), (.ref 362), .none, (.ref 363), (.ref 364), (.ref 365), (.int 681 0), (.int 98 0), (.str (ofString "/claim/cut.py") 682)], #[]⟩
noncomputable def o367 : Obj := fn (ofString "__init__") (ofString "Ratio.__init__") (mth 22 0) .none (.str (ofString "scheme.exact") 661) 366
noncomputable def o369 (P : Params) : Obj := ⟨(.type "dict"), none, .dict #[en P (ofString "__module__") 670 (.str (ofString "scheme.exact") 661), en P (ofString "__firstlineno__") 674 (.int 96 673), en P (ofString "__init__") 683 (.ref 367), en P (ofString "__static_attributes__") 686 (.ref 368), en P (ofString "__dict__") 688 (.ref 371), en P (ofString "__weakref__") 690 (.ref 372), en P (ofString "__doc__") 691 .none] 4, #[]⟩
noncomputable def o370 : Obj := ⟨(.type "type"), none, .cls { name := (ofString "Ratio"), bases := [(.type "object")], mro := [(.ref 370), (.type "object")], ns := 369, qualname := (ofString "Ratio"), hasDict := true, slotNames := [], subclasses := [], abstract := false, collection := none, hasDel := false }, #[none, none, some (.str (ofString "Ratio") 663), some (.str (ofString "Ratio") 671), some (.builtin "object.__new__"), some (.bool true)]⟩
noncomputable def o371 : Obj := ⟨(.type "getset_descriptor"), none, .fields #[(.str (ofString "__dict__") 687), (.ref 370), (.builtin "function.__dict__"), (.builtin "function.__dict__#set")], #[]⟩
noncomputable def o372 : Obj := ⟨(.type "getset_descriptor"), none, .fields #[(.str (ofString "__weakref__") 689), (.ref 370), (.builtin "ExceptionGroup.__weakref__"), .none], #[]⟩
noncomputable def o380 : Obj := ⟨(.type "code"), none, .fields #[(.str (ofString "is_whole") 694), (.str (ofString "is_whole") 695), (.str (ofString "/claim/cut.py") 696), (.int 101 0), (.int 1 0), (.int 0 0), (.int 0 0), (.int 3 0), (.ref 375), (.bool true), (.int 181 0), (.ref 376), .none, (.ref 377), (.ref 378), (.ref 379), (.int 698 0), (.int 101 0), (.str (ofString "/claim/cut.py") 699)], #[]⟩
noncomputable def o381 : Obj := fn (ofString "is_whole") (ofString "is_whole") (stm 23) .none (.str (ofString "scheme.exact") 661) 380
noncomputable def o387 : Obj := ⟨(.type "code"), none, .fields #[(.str (ofString "is_exact") 701), (.str (ofString "is_exact") 702), (.str (ofString "/claim/cut.py") 703), (.int 103 0), (.int 1 0), (.int 0 0), (.int 0 0), (.int 3 0), (.ref 382), (.bool true), (.int 181 0), (.ref 383), .none, (.ref 384), (.ref 385), (.ref 386), (.int 705 0), (.int 103 0), (.str (ofString "/claim/cut.py") 706)], #[]⟩
noncomputable def o388 : Obj := fn (ofString "is_exact") (ofString "is_exact") (stm 24) .none (.str (ofString "scheme.exact") 661) 387
noncomputable def o394 : Obj := ⟨(.type "code"), none, .fields #[(.str (ofString "top_of") 708), (.str (ofString "top_of") 709), (.str (ofString "/claim/cut.py") 710), (.int 105 0), (.int 1 0), (.int 0 0), (.int 0 0), (.int 3 0), (.ref 389), (.bool true), (.int 181 0), (.ref 390), .none, (.ref 391), (.ref 392), (.ref 393), (.int 712 0), (.int 105 0), (.str (ofString "/claim/cut.py") 713)], #[]⟩
noncomputable def o395 : Obj := fn (ofString "top_of") (ofString "top_of") (stm 25) .none (.str (ofString "scheme.exact") 661) 394
noncomputable def o401 : Obj := ⟨(.type "code"), none, .fields #[(.str (ofString "bottom_of") 715), (.str (ofString "bottom_of") 716), (.str (ofString "/claim/cut.py") 717), (.int 107 0), (.int 1 0), (.int 0 0), (.int 0 0), (.int 3 0), (.ref 396), (.bool true), (.int 181 0), (.ref 397), .none, (.ref 398), (.ref 399), (.ref 400), (.int 719 0), (.int 107 0), (.str (ofString "/claim/cut.py") 720)], #[]⟩
noncomputable def o402 : Obj := fn (ofString "bottom_of") (ofString "bottom_of") (stm 26) .none (.str (ofString "scheme.exact") 661) 401
noncomputable def o408 : Obj := ⟨(.type "code"), none, .fields #[(.str (ofString "gcd_of") 722), (.str (ofString "gcd_of") 723), (.str (ofString "/claim/cut.py") 724), (.int 109 0), (.int 2 0), (.int 0 0), (.int 0 0), (.int 3 0), (.ref 403), (.bool true), (.int 181 0), (.ref 404), .none, (.ref 405), (.ref 406), (.ref 407), (.int 727 0), (.int 109 0), (.str (ofString "/claim/cut.py") 728)], #[]⟩
noncomputable def o409 : Obj := fn (ofString "gcd_of") (ofString "gcd_of") (stm 27) .none (.str (ofString "scheme.exact") 661) 408
noncomputable def o415 : Obj := ⟨(.type "code"), none, .fields #[(.str (ofString "made") 730), (.str (ofString "made") 731), (.str (ofString "/claim/cut.py") 732), (.int 114 0), (.int 2 0), (.int 0 0), (.int 0 0), (.int 3 0), (.ref 410), (.bool true), (.int 181 0), (.ref 411), .none, (.ref 412), (.ref 413), (.ref 414), (.int 735 0), (.int 114 0), (.str (ofString "/claim/cut.py") 736)], #[]⟩
noncomputable def o416 : Obj := fn (ofString "made") (ofString "made") (stm 28) .none (.str (ofString "scheme.exact") 661) 415
noncomputable def o422 : Obj := ⟨(.type "code"), none, .fields #[(.str (ofString "ratio_of") 738), (.str (ofString "ratio_of") 739), (.str (ofString "/claim/cut.py") 740), (.int 116 0), (.int 2 0), (.int 0 0), (.int 0 0), (.int 3 0), (.ref 417), (.bool true), (.int 181 0), (.ref 418), .none, (.ref 419), (.ref 420), (.ref 421), (.int 744 0), (.int 116 0), (.str (ofString "/claim/cut.py") 745)], #[]⟩
noncomputable def o423 : Obj := fn (ofString "ratio_of") (ofString "ratio_of") (stm 29) .none (.str (ofString "scheme.exact") 661) 422
noncomputable def o429 : Obj := ⟨(.type "code"), none, .fields #[(.str (ofString "is_equal_exact") 747), (.str (ofString "is_equal_exact") 748), (.str (ofString "/claim/cut.py") 749), (.int 121 0), (.int 2 0), (.int 0 0), (.int 0 0), (.int 3 0), (.ref 424), (.bool true), (.int 181 0), (.ref 425), .none, (.ref 426), (.ref 427), (.ref 428), (.int 752 0), (.int 121 0), (.str (ofString "/claim/cut.py") 753)], #[]⟩
noncomputable def o430 : Obj := fn (ofString "is_equal_exact") (ofString "is_equal_exact") (stm 30) .none (.str (ofString "scheme.exact") 661) 429
noncomputable def o436 : Obj := ⟨(.type "code"), none, .fields #[(.str (ofString "is_inexact") 757), (.str (ofString "is_inexact") 758), (.str (ofString "/claim/cut.py") 759), (.int 124 0), (.int 1 0), (.int 0 0), (.int 0 0), (.int 3 0), (.ref 431), (.bool true), (.int 181 0), (.ref 432), .none, (.ref 433), (.ref 434), (.ref 435), (.int 761 0), (.int 124 0), (.str (ofString "/claim/cut.py") 762)], #[]⟩
noncomputable def o437 : Obj := fn (ofString "is_inexact") (ofString "is_inexact") (stm 32) .none (.str (ofString "scheme.numkinds") 755) 436
noncomputable def o443 : Obj := ⟨(.type "code"), none, .fields #[(.str (ofString "is_number") 764), (.str (ofString "is_number") 765), (.str (ofString "/claim/cut.py") 766), (.int 126 0), (.int 1 0), (.int 0 0), (.int 0 0), (.int 3 0), (.ref 438), (.bool true), (.int 181 0), (.ref 439), .none, (.ref 440), (.ref 441), (.ref 442), (.int 768 0), (.int 126 0), (.str (ofString "/claim/cut.py") 769)], #[]⟩
noncomputable def o444 : Obj := fn (ofString "is_number") (ofString "is_number") (stm 33) .none (.str (ofString "scheme.numkinds") 755) 443
noncomputable def o450 : Obj := ⟨(.type "code"), none, .fields #[(.str (ofString "same_number") 772), (.str (ofString "same_number") 773), (.str (ofString "/claim/cut.py") 774), (.int 129 0), (.int 2 0), (.int 0 0), (.int 0 0), (.int 3 0), (.ref 445), (.bool true), (.int 181 0), (.ref 446), .none, (.ref 447), (.ref 448), (.ref 449), (.int 777 0), (.int 129 0), (.str (ofString "/claim/cut.py") 778)], #[]⟩
noncomputable def o451 : Obj := fn (ofString "same_number") (ofString "same_number") (stm 35) .none (.str (ofString "scheme.numkinds") 755) 450
noncomputable def o464 : Obj := ⟨(.type "code"), none, .fields #[(.str (ofString "__init__") 794), (.str (ofString "ObjectStore.__init__") 795), (.str (ofString "/claim/cut.py") 796), (.int 136 0), (.int 2 0), (.int 0 0), (.int 0 0), (.int 3 0), (.ref 459), (.bool true), (.int 181 0), (.ref 460), .none, (.ref 461), (.ref 462), (.ref 463), (.int 799 0), (.int 136 0), (.str (ofString "/claim/cut.py") 800)], #[]⟩
noncomputable def o465 : Obj := fn (ofString "__init__") (ofString "ObjectStore.__init__") (mth 37 0) .none (.str (ofString "scheme.objects") 780) 464
noncomputable def o471 : Obj := ⟨(.type "code"), none, .fields #[(.str (ofString "boolean") 802), (.str (ofString "ObjectStore.boolean") 803), (.str (ofString "/claim/cut.py") 804), (.int 139 0), (.int 2 0), (.int 0 0), (.int 0 0), (.int 3 0), (.ref 466), (.bool true), (.int 181 0), (.ref 467), .none, (.ref 468), (.ref 469), (.ref 470), (.int 807 0), (.int 139 0), (.str (ofString "/claim/cut.py") 808)], #[]⟩
noncomputable def o472 : Obj := fn (ofString "boolean") (ofString "ObjectStore.boolean") (mth 37 1) .none (.str (ofString "scheme.objects") 780) 471
noncomputable def o478 : Obj := ⟨(.type "code"), none, .fields #[(.str (ofString "is_boolean") 810), (.str (ofString "ObjectStore.is_boolean") 811), (.str (ofString "/claim/cut.py") 812), (.int 142 0), (.int 2 0), (.int 0 0), (.int 0 0), (.int 3 0), (.ref 473), (.bool true), (.int 181 0), (.ref 474), .none, (.ref 475), (.ref 476), (.ref 477), (.int 815 0), (.int 142 0), (.str (ofString "/claim/cut.py") 816)], #[]⟩
noncomputable def o479 : Obj := fn (ofString "is_boolean") (ofString "ObjectStore.is_boolean") (mth 37 2) .none (.str (ofString "scheme.objects") 780) 478
noncomputable def o485 : Obj := ⟨(.type "code"), none, .fields #[(.str (ofString "is_true") 818), (.str (ofString "ObjectStore.is_true") 819), (.str (ofString "/claim/cut.py") 820), (.int 145 0), (.int 2 0), (.int 0 0), (.int 0 0), (.int 3 0), (.ref 480), (.bool true), (.int 181 0), (.ref 481), .none, (.ref 482), (.ref 483), (.ref 484), (.int 823 0), (.int 145 0), (.str (ofString "/claim/cut.py") 824)], #[]⟩
noncomputable def o486 : Obj := fn (ofString "is_true") (ofString "ObjectStore.is_true") (mth 37 3) .none (.str (ofString "scheme.objects") 780) 485
noncomputable def o492 : Obj := ⟨(.type "code"), none, .fields #[(.str (ofString "empty") 826), (.str (ofString "ObjectStore.empty") 827), (.str (ofString "/claim/cut.py") 828), (.int 148 0), (.int 1 0), (.int 0 0), (.int 0 0), (.int 3 0), (.ref 487), (.bool true), (.int 181 0), (.ref 488), .none, (.ref 489), (.ref 490), (.ref 491), (.int 830 0), (.int 148 0), (.str (ofString "/claim/cut.py") 831)], #[]⟩
noncomputable def o493 : Obj := fn (ofString "empty") (ofString "ObjectStore.empty") (mth 37 4) .none (.str (ofString "scheme.objects") 780) 492
noncomputable def o499 : Obj := ⟨(.type "code"), none, .fields #[(.str (ofString "is_empty") 833), (.str (ofString "ObjectStore.is_empty") 834), (.str (ofString "/claim/cut.py") 835), (.int 151 0), (.int 2 0), (.int 0 0), (.int 0 0), (.int 3 0), (.ref 494), (.bool true), (.int 181 0), (.ref 495), .none, (.ref 496), (.ref 497), (.ref 498), (.int 838 0), (.int 151 0), (.str (ofString "/claim/cut.py") 839)], #[]⟩
noncomputable def o500 : Obj := fn (ofString "is_empty") (ofString "ObjectStore.is_empty") (mth 37 5) .none (.str (ofString "scheme.objects") 780) 499
noncomputable def o506 : Obj := ⟨(.type "code"), none, .fields #[(.str (ofString "unspecified") 841), (.str (ofString "ObjectStore.unspecified") 842), (.str (ofString "/claim/cut.py") 843), (.int 154 0), (.int 1 0), (.int 0 0), (.int 0 0), (.int 3 0), (.ref 501), (.bool true), (.int 181 0), (.ref 502), .none, (.ref 503), (.ref 504), (.ref 505), (.int 845 0), (.int 154 0), (.str (ofString "/claim/cut.py") 846)], #[]⟩
noncomputable def o507 : Obj := fn (ofString "unspecified") (ofString "ObjectStore.unspecified") (mth 37 6) .none (.str (ofString "scheme.objects") 780) 506
noncomputable def o513 : Obj := ⟨(.type "code"), none, .fields #[(.str (ofString "unassigned") 848), (.str (ofString "ObjectStore.unassigned") 849), (.str (ofString "/claim/cut.py") 850), (.int 157 0), (.int 1 0), (.int 0 0), (.int 0 0), (.int 3 0), (.ref 508), (.bool true), (.int 181 0), (.ref 509), .none, (.ref 510), (.ref 511), (.ref 512), (.int 852 0), (.int 157 0), (.str (ofString "/claim/cut.py") 853)], #[]⟩
noncomputable def o514 : Obj := fn (ofString "unassigned") (ofString "ObjectStore.unassigned") (mth 37 7) .none (.str (ofString "scheme.objects") 780) 513
noncomputable def o520 : Obj := ⟨(.type "code"), none, .fields #[(.str (ofString "is_unassigned") 855), (.str (ofString "ObjectStore.is_unassigned") 856), (.str (ofString "/claim/cut.py") 857), (.int 160 0), (.int 2 0), (.int 0 0), (.int 0 0), (.int 3 0), (.ref 515), (.bool true), (.int 181 0), (.ref 516), .none, (.ref 517), (.ref 518), (.ref 519), (.int 860 0), (.int 160 0), (.str (ofString "/claim/cut.py") 861)], #[]⟩
noncomputable def o521 : Obj := fn (ofString "is_unassigned") (ofString "ObjectStore.is_unassigned") (mth 37 8) .none (.str (ofString "scheme.objects") 780) 520
noncomputable def o527 : Obj := ⟨(.type "code"), none, .fields #[(.str (ofString "eof") 863), (.str (ofString "ObjectStore.eof") 864), (.str (ofString "/claim/cut.py") 865), (.int 163 0), (.int 1 0), (.int 0 0), (.int 0 0), (.int 3 0), (.ref 522), (.bool true), (.int 181 0), (.ref 523), .none, (.ref 524), (.ref 525), (.ref 526), (.int 867 0), (.int 163 0), (.str (ofString "/claim/cut.py") 868)], #[]⟩
noncomputable def o528 : Obj := fn (ofString "eof") (ofString "ObjectStore.eof") (mth 37 9) .none (.str (ofString "scheme.objects") 780) 527
noncomputable def o534 : Obj := ⟨(.type "code"), none, .fields #[(.str (ofString "is_eof") 870), (.str (ofString "ObjectStore.is_eof") 871), (.str (ofString "/claim/cut.py") 872), (.int 166 0), (.int 2 0), (.int 0 0), (.int 0 0), (.int 3 0), (.ref 529), (.bool true), (.int 181 0), (.ref 530), .none, (.ref 531), (.ref 532), (.ref 533), (.int 875 0), (.int 166 0), (.str (ofString "/claim/cut.py") 876)], #[]⟩
noncomputable def o535 : Obj := fn (ofString "is_eof") (ofString "ObjectStore.is_eof") (mth 37 10) .none (.str (ofString "scheme.objects") 780) 534
noncomputable def o541 : Obj := ⟨(.type "code"), none, .fields #[(.str (ofString "pair") 878), (.str (ofString "ObjectStore.pair") 879), (.str (ofString "/claim/cut.py") 880), (.int 169 0), (.int 3 0), (.int 0 0), (.int 0 0), (.int 3 0), (.ref 536), (.bool true), (.int 181 0), (.ref 537), .none, (.ref 538), (.ref 539), (.ref 540), (.int 884 0), (.int 169 0), (.str (ofString "/claim/cut.py") 885)], #[]⟩
noncomputable def o542 : Obj := fn (ofString "pair") (ofString "ObjectStore.pair") (mth 37 11) .none (.str (ofString "scheme.objects") 780) 541
noncomputable def o548 : Obj := ⟨(.type "code"), none, .fields #[(.str (ofString "is_pair") 887), (.str (ofString "ObjectStore.is_pair") 888), (.str (ofString "/claim/cut.py") 889), (.int 172 0), (.int 2 0), (.int 0 0), (.int 0 0), (.int 3 0), (.ref 543), (.bool true), (.int 181 0), (.ref 544), .none, (.ref 545), (.ref 546), (.ref 547), (.int 892 0), (.int 172 0), (.str (ofString "/claim/cut.py") 893)], #[]⟩
noncomputable def o549 : Obj := fn (ofString "is_pair") (ofString "ObjectStore.is_pair") (mth 37 12) .none (.str (ofString "scheme.objects") 780) 548
noncomputable def o555 : Obj := ⟨(.type "code"), none, .fields #[(.str (ofString "car") 895), (.str (ofString "ObjectStore.car") 896), (.str (ofString "/claim/cut.py") 897), (.int 175 0), (.int 2 0), (.int 0 0), (.int 0 0), (.int 3 0), (.ref 550), (.bool true), (.int 181 0), (.ref 551), .none, (.ref 552), (.ref 553), (.ref 554), (.int 900 0), (.int 175 0), (.str (ofString "/claim/cut.py") 901)], #[]⟩
noncomputable def o556 : Obj := fn (ofString "car") (ofString "ObjectStore.car") (mth 37 13) .none (.str (ofString "scheme.objects") 780) 555
noncomputable def o562 : Obj := ⟨(.type "code"), none, .fields #[(.str (ofString "cdr") 903), (.str (ofString "ObjectStore.cdr") 904), (.str (ofString "/claim/cut.py") 905), (.int 178 0), (.int 2 0), (.int 0 0), (.int 0 0), (.int 3 0), (.ref 557), (.bool true), (.int 181 0), (.ref 558), .none, (.ref 559), (.ref 560), (.ref 561), (.int 908 0), (.int 178 0), (.str (ofString "/claim/cut.py") 909)], #[]⟩
noncomputable def o563 : Obj := fn (ofString "cdr") (ofString "ObjectStore.cdr") (mth 37 14) .none (.str (ofString "scheme.objects") 780) 562
noncomputable def o569 : Obj := ⟨(.type "code"), none, .fields #[(.str (ofString "set_car") 911), (.str (ofString "ObjectStore.set_car") 912), (.str (ofString "/claim/cut.py") 913), (.int 181 0), (.int 3 0), (.int 0 0), (.int 0 0), (.int 3 0), (.ref 564), (.bool true), (.int 181 0), (.ref 565), .none, (.ref 566), (.ref 567), (.ref 568), (.int 917 0), (.int 181 0), (.str (ofString "/claim/cut.py") 918)], #[]⟩
noncomputable def o570 : Obj := fn (ofString "set_car") (ofString "ObjectStore.set_car") (mth 37 15) .none (.str (ofString "scheme.objects") 780) 569
noncomputable def o576 : Obj := ⟨(.type "code"), none, .fields #[(.str (ofString "set_cdr") 920), (.str (ofString "ObjectStore.set_cdr") 921), (.str (ofString "/claim/cut.py") 922), (.int 184 0), (.int 3 0), (.int 0 0), (.int 0 0), (.int 3 0), (.ref 571), (.bool true), (.int 181 0), (.ref 572), .none, (.ref 573), (.ref 574), (.ref 575), (.int 926 0), (.int 184 0), (.str (ofString "/claim/cut.py") 927)], #[]⟩
noncomputable def o577 : Obj := fn (ofString "set_cdr") (ofString "ObjectStore.set_cdr") (mth 37 16) .none (.str (ofString "scheme.objects") 780) 576
noncomputable def o583 : Obj := ⟨(.type "code"), none, .fields #[(.str (ofString "symbol") 929), (.str (ofString "ObjectStore.symbol") 930), (.str (ofString "/claim/cut.py") 931), (.int 187 0), (.int 2 0), (.int 0 0), (.int 0 0), (.int 3 0), (.ref 578), (.bool true), (.int 181 0), (.ref 579), .none, (.ref 580), (.ref 581), (.ref 582), (.int 934 0), (.int 187 0), (.str (ofString "/claim/cut.py") 935)], #[]⟩
noncomputable def o584 : Obj := fn (ofString "symbol") (ofString "ObjectStore.symbol") (mth 37 17) .none (.str (ofString "scheme.objects") 780) 583
noncomputable def o590 : Obj := ⟨(.type "code"), none, .fields #[(.str (ofString "is_symbol") 937), (.str (ofString "ObjectStore.is_symbol") 938), (.str (ofString "/claim/cut.py") 939), (.int 190 0), (.int 2 0), (.int 0 0), (.int 0 0), (.int 3 0), (.ref 585), (.bool true), (.int 181 0), (.ref 586), .none, (.ref 587), (.ref 588), (.ref 589), (.int 942 0), (.int 190 0), (.str (ofString "/claim/cut.py") 943)], #[]⟩
noncomputable def o591 : Obj := fn (ofString "is_symbol") (ofString "ObjectStore.is_symbol") (mth 37 18) .none (.str (ofString "scheme.objects") 780) 590
noncomputable def o597 : Obj := ⟨(.type "code"), none, .fields #[(.str (ofString "symbol_number") 945), (.str (ofString "ObjectStore.symbol_number") 946), (.str (ofString "/claim/cut.py") 947), (.int 193 0), (.int 2 0), (.int 0 0), (.int 0 0), (.int 3 0), (.ref 592), (.bool true), (.int 181 0), (.ref 593), .none, (.ref 594), (.ref 595), (.ref 596), (.int 950 0), (.int 193 0), (.str (ofString "/claim/cut.py") 951)], #[]⟩
noncomputable def o598 : Obj := fn (ofString "symbol_number") (ofString "ObjectStore.symbol_number") (mth 37 19) .none (.str (ofString "scheme.objects") 780) 597
noncomputable def o604 : Obj := ⟨(.type "code"), none, .fields #[(.str (ofString "char") 953), (.str (ofString "ObjectStore.char") 954), (.str (ofString "/claim/cut.py") 955), (.int 196 0), (.int 2 0), (.int 0 0), (.int 0 0), (.int 3 0), (.ref 599), (.bool true), (.int 181 0), (.ref 600), .none, (.ref 601), (.ref 602), (.ref 603), (.int 958 0), (.int 196 0), (.str (ofString "/claim/cut.py") 959)], #[]⟩
noncomputable def o605 : Obj := fn (ofString "char") (ofString "ObjectStore.char") (mth 37 20) .none (.str (ofString "scheme.objects") 780) 604
noncomputable def o611 : Obj := ⟨(.type "code"), none, .fields #[(.str (ofString "is_char") 961), (.str (ofString "ObjectStore.is_char") 962), (.str (ofString "/claim/cut.py") 963), (.int 199 0), (.int 2 0), (.int 0 0), (.int 0 0), (.int 3 0), (.ref 606), (.bool true), (.int 181 0), (.ref 607), .none, (.ref 608), (.ref 609), (.ref 610), (.int 966 0), (.int 199 0), (.str (ofString "/claim/cut.py") 967)], #[]⟩
noncomputable def o612 : Obj := fn (ofString "is_char") (ofString "ObjectStore.is_char") (mth 37 21) .none (.str (ofString "scheme.objects") 780) 611
noncomputable def o618 : Obj := ⟨(.type "code"), none, .fields #[(.str (ofString "char_code") 969), (.str (ofString "ObjectStore.char_code") 970), (.str (ofString "/claim/cut.py") 971), (.int 202 0), (.int 2 0), (.int 0 0), (.int 0 0), (.int 3 0), (.ref 613), (.bool true), (.int 181 0), (.ref 614), .none, (.ref 615), (.ref 616), (.ref 617), (.int 974 0), (.int 202 0), (.str (ofString "/claim/cut.py") 975)], #[]⟩
noncomputable def o619 : Obj := fn (ofString "char_code") (ofString "ObjectStore.char_code") (mth 37 22) .none (.str (ofString "scheme.objects") 780) 618
noncomputable def o625 : Obj := ⟨(.type "code"), none, .fields #[(.str (ofString "string") 977), (.str (ofString "ObjectStore.string") 978), (.str (ofString "/claim/cut.py") 979), (.int 205 0), (.int 2 0), (.int 0 0), (.int 0 0), (.int 3 0), (.ref 620), (.bool true), (.int 181 0), (.ref 621), .none, (.ref 622), (.ref 623), (.ref 624), (.int 982 0), (.int 205 0), (.str (ofString "/claim/cut.py") 983)], #[]⟩
noncomputable def o626 : Obj := fn (ofString "string") (ofString "ObjectStore.string") (mth 37 23) .none (.str (ofString "scheme.objects") 780) 625
noncomputable def o632 : Obj := ⟨(.type "code"), none, .fields #[(.str (ofString "is_string") 985), (.str (ofString "ObjectStore.is_string") 986), (.str (ofString "/claim/cut.py") 987), (.int 208 0), (.int 2 0), (.int 0 0), (.int 0 0), (.int 3 0), (.ref 627), (.bool true), (.int 181 0), (.ref 628), .none, (.ref 629), (.ref 630), (.ref 631), (.int 990 0), (.int 208 0), (.str (ofString "/claim/cut.py") 991)], #[]⟩
noncomputable def o633 : Obj := fn (ofString "is_string") (ofString "ObjectStore.is_string") (mth 37 24) .none (.str (ofString "scheme.objects") 780) 632
noncomputable def o639 : Obj := ⟨(.type "code"), none, .fields #[(.str (ofString "string_length") 993), (.str (ofString "ObjectStore.string_length") 994), (.str (ofString "/claim/cut.py") 995), (.int 211 0), (.int 2 0), (.int 0 0), (.int 0 0), (.int 3 0), (.ref 634), (.bool true), (.int 181 0), (.ref 635), .none, (.ref 636), (.ref 637), (.ref 638), (.int 998 0), (.int 211 0), (.str (ofString "/claim/cut.py") 999)], #[]⟩
noncomputable def o640 : Obj := fn (ofString "string_length") (ofString "ObjectStore.string_length") (mth 37 25) .none (.str (ofString "scheme.objects") 780) 639
noncomputable def o646 : Obj := ⟨(.type "code"), none, .fields #[(.str (ofString "string_code") 1001), (.str (ofString "ObjectStore.string_code") 1002), (.str (ofString "/claim/cut.py") 1003), (.int 214 0), (.int 3 0), (.int 0 0), (.int 0 0), (.int 3 0), (.ref 641), (.bool true), (.int 181 0), (.ref 642), .none, (.ref 643), (.ref 644), (.ref 645), (.int 1007 0), (.int 214 0), (.str (ofString "/claim/cut.py") 1008)], #[]⟩
noncomputable def o647 : Obj := fn (ofString "string_code") (ofString "ObjectStore.string_code") (mth 37 26) .none (.str (ofString "scheme.objects") 780) 646
noncomputable def o653 : Obj := ⟨(.type "code"), none, .fields #[(.str (ofString "set_string_code") 1010), (.str (ofString "ObjectStore.set_string_code") 1011), (.str (ofString "/claim/cut.py") 1012), (.int 217 0), (.int 4 0), (.int 0 0), (.int 0 0), (.int 3 0), (.ref 648), (.bool true), (.int 181 0), (.ref 649), .none, (.ref 650), (.ref 651), (.ref 652), (.int 1017 0), (.int 217 0), (.str (ofString "/claim/cut.py") 1018)], #[]⟩
noncomputable def o654 : Obj := fn (ofString "set_string_code") (ofString "ObjectStore.set_string_code") (mth 37 27) .none (.str (ofString "scheme.objects") 780) 653
noncomputable def o660 : Obj := ⟨(.type "code"), none, .fields #[(.str (ofString "vector") 1020), (.str (ofString "ObjectStore.vector") 1021), (.str (ofString "/claim/cut.py") 1022), (.int 220 0), (.int 2 0), (.int 0 0), (.int 0 0), (.int 3 0), (.ref 655), (.bool true), (.int 181 0), (.ref 656), .none, (.ref 657), (.ref 658), (.ref 659), (.int 1025 0), (.int 220 0), (.str (ofString "/claim/cut.py") 1026)], #[]⟩
noncomputable def o661 : Obj := fn (ofString "vector") (ofString "ObjectStore.vector") (mth 37 28) .none (.str (ofString "scheme.objects") 780) 660
noncomputable def o667 : Obj := ⟨(.type "code"), none, .fields #[(.str (ofString "is_vector") 1028), (.str (ofString "ObjectStore.is_vector") 1029), (.str (ofString "/claim/cut.py") 1030), (.int 223 0), (.int 2 0), (.int 0 0), (.int 0 0), (.int 3 0), (.ref 662), (.bool true), (.int 181 0), (.ref 663), .none, (.ref 664), (.ref 665), (.ref 666), (.int 1033 0), (.int 223 0), (.str (ofString "/claim/cut.py") 1034)], #[]⟩
noncomputable def o668 : Obj := fn (ofString "is_vector") (ofString "ObjectStore.is_vector") (mth 37 29) .none (.str (ofString "scheme.objects") 780) 667
noncomputable def o674 : Obj := ⟨(.type "code"), none, .fields #[(.str (ofString "vector_length") 1036), (.str (ofString "ObjectStore.vector_length") 1037), (.str (ofString "/claim/cut.py") 1038), (.int 226 0), (.int 2 0), (.int 0 0), (.int 0 0), (.int 3 0), (.ref 669), (.bool true), (.int 181 0), (.ref 670), .none, (.ref 671), (.ref 672), (.ref 673), (.int 1041 0), (.int 226 0), (.str (ofString "/claim/cut.py") 1042)], #[]⟩
noncomputable def o675 : Obj := fn (ofString "vector_length") (ofString "ObjectStore.vector_length") (mth 37 30) .none (.str (ofString "scheme.objects") 780) 674
noncomputable def o681 : Obj := ⟨(.type "code"), none, .fields #[(.str (ofString "vector_item") 1044), (.str (ofString "ObjectStore.vector_item") 1045), (.str (ofString "/claim/cut.py") 1046), (.int 229 0), (.int 3 0), (.int 0 0), (.int 0 0), (.int 3 0), (.ref 676), (.bool true), (.int 181 0), (.ref 677), .none, (.ref 678), (.ref 679), (.ref 680), (.int 1050 0), (.int 229 0), (.str (ofString "/claim/cut.py") 1051)], #[]⟩
noncomputable def o682 : Obj := fn (ofString "vector_item") (ofString "ObjectStore.vector_item") (mth 37 31) .none (.str (ofString "scheme.objects") 780) 681
noncomputable def o688 : Obj := ⟨(.type "code"), none, .fields #[(.str (ofString "set_vector_item") 1053), (.str (ofString "ObjectStore.set_vector_item") 1054), (.str (ofString "/claim/cut.py") 1055), (.int 232 0), (.int 4 0), (.int 0 0), (.int 0 0), (.int 3 0), (.ref 683), (.bool true), (.int 181 0), (.ref 684), .none, (.ref 685), (.ref 686), (.ref 687), (.int 1060 0), (.int 232 0), (.str (ofString "/claim/cut.py") 1061)], #[]⟩
noncomputable def o689 : Obj := fn (ofString "set_vector_item") (ofString "ObjectStore.set_vector_item") (mth 37 32) .none (.str (ofString "scheme.objects") 780) 688
noncomputable def o695 : Obj := ⟨(.type "code"), none, .fields #[(.str (ofString "number") 1063), (.str (ofString "ObjectStore.number") 1064), (.str (ofString "/claim/cut.py") 1065), (.int 235 0), (.int 2 0), (.int 0 0), (.int 0 0), (.int 3 0), (.ref 690), (.bool true), (.int 181 0), (.ref 691), .none, (.ref 692), (.ref 693), (.ref 694), (.int 1068 0), (.int 235 0), (.str (ofString "/claim/cut.py") 1069)], #[]⟩
noncomputable def o696 : Obj := fn (ofString "number") (ofString "ObjectStore.number") (mth 37 33) .none (.str (ofString "scheme.objects") 780) 695
noncomputable def o702 : Obj := ⟨(.type "code"), none, .fields #[(.str (ofString "is_number") 1071), (.str (ofString "ObjectStore.is_number") 1072), (.str (ofString "/claim/cut.py") 1073), (.int 238 0), (.int 2 0), (.int 0 0), (.int 0 0), (.int 3 0), (.ref 697), (.bool true), (.int 181 0), (.ref 698), .none, (.ref 699), (.ref 700), (.ref 701), (.int 1076 0), (.int 238 0), (.str (ofString "/claim/cut.py") 1077)], #[]⟩
noncomputable def o703 : Obj := fn (ofString "is_number") (ofString "ObjectStore.is_number") (mth 37 34) .none (.str (ofString "scheme.objects") 780) 702
noncomputable def o709 : Obj := ⟨(.type "code"), none, .fields #[(.str (ofString "number_of") 1079), (.str (ofString "ObjectStore.number_of") 1080), (.str (ofString "/claim/cut.py") 1081), (.int 241 0), (.int 2 0), (.int 0 0), (.int 0 0), (.int 3 0), (.ref 704), (.bool true), (.int 181 0), (.ref 705), .none, (.ref 706), (.ref 707), (.ref 708), (.int 1084 0), (.int 241 0), (.str (ofString "/claim/cut.py") 1085)], #[]⟩
noncomputable def o710 : Obj := fn (ofString "number_of") (ofString "ObjectStore.number_of") (mth 37 35) .none (.str (ofString "scheme.objects") 780) 709
noncomputable def o716 : Obj := ⟨(.type "code"), none, .fields #[(.str (ofString "box") 1087), (.str (ofString "ObjectStore.box") 1088), (.str (ofString "/claim/cut.py") 1089), (.int 244 0), (.int 2 0), (.int 0 0), (.int 0 0), (.int 3 0), (.ref 711), (.bool true), (.int 181 0), (.ref 712), .none, (.ref 713), (.ref 714), (.ref 715), (.int 1092 0), (.int 244 0), (.str (ofString "/claim/cut.py") 1093)], #[]⟩
noncomputable def o717 : Obj := fn (ofString "box") (ofString "ObjectStore.box") (mth 37 36) .none (.str (ofString "scheme.objects") 780) 716
noncomputable def o723 : Obj := ⟨(.type "code"), none, .fields #[(.str (ofString "unbox") 1095), (.str (ofString "ObjectStore.unbox") 1096), (.str (ofString "/claim/cut.py") 1097), (.int 247 0), (.int 2 0), (.int 0 0), (.int 0 0), (.int 3 0), (.ref 718), (.bool true), (.int 181 0), (.ref 719), .none, (.ref 720), (.ref 721), (.ref 722), (.int 1100 0), (.int 247 0), (.str (ofString "/claim/cut.py") 1101)], #[]⟩
noncomputable def o724 : Obj := fn (ofString "unbox") (ofString "ObjectStore.unbox") (mth 37 37) .none (.str (ofString "scheme.objects") 780) 723
noncomputable def o730 : Obj := ⟨(.type "code"), none, .fields #[(.str (ofString "set_box") 1103), (.str (ofString "ObjectStore.set_box") 1104), (.str (ofString "/claim/cut.py") 1105), (.int 250 0), (.int 3 0), (.int 0 0), (.int 0 0), (.int 3 0), (.ref 725), (.bool true), (.int 181 0), (.ref 726), .none, (.ref 727), (.ref 728), (.ref 729), (.int 1109 0), (.int 250 0), (.str (ofString "/claim/cut.py") 1110)], #[]⟩
noncomputable def o731 : Obj := fn (ofString "set_box") (ofString "ObjectStore.set_box") (mth 37 38) .none (.str (ofString "scheme.objects") 780) 730
noncomputable def o737 : Obj := ⟨(.type "code"), none, .fields #[(.str (ofString "promise") 1112), (.str (ofString "ObjectStore.promise") 1113), (.str (ofString "/claim/cut.py") 1114), (.int 253 0), (.int 3 0), (.int 0 0), (.int 0 0), (.int 3 0), (.ref 732), (.bool true), (.int 181 0), (.ref 733), .none, (.ref 734), (.ref 735), (.ref 736), (.int 1118 0), (.int 253 0), (.str (ofString "/claim/cut.py") 1119)], #[]⟩
noncomputable def o738 : Obj := fn (ofString "promise") (ofString "ObjectStore.promise") (mth 37 39) .none (.str (ofString "scheme.objects") 780) 737
noncomputable def o744 : Obj := ⟨(.type "code"), none, .fields #[(.str (ofString "is_promise") 1121), (.str (ofString "ObjectStore.is_promise") 1122), (.str (ofString "/claim/cut.py") 1123), (.int 256 0), (.int 2 0), (.int 0 0), (.int 0 0), (.int 3 0), (.ref 739), (.bool true), (.int 181 0), (.ref 740), .none, (.ref 741), (.ref 742), (.ref 743), (.int 1126 0), (.int 256 0), (.str (ofString "/claim/cut.py") 1127)], #[]⟩
noncomputable def o745 : Obj := fn (ofString "is_promise") (ofString "ObjectStore.is_promise") (mth 37 40) .none (.str (ofString "scheme.objects") 780) 744
noncomputable def o751 : Obj := ⟨(.type "code"), none, .fields #[(.str (ofString "promise_is_done") 1129), (.str (ofString "ObjectStore.promise_is_done") 1130), (.str (ofString "/claim/cut.py") 1131), (.int 259 0), (.int 2 0), (.int 0 0), (.int 0 0), (.int 3 0), (.ref 746), (.bool true), (.int 181 0), (.ref 747), .none, (.ref 748), (.ref 749), (.ref 750), (.int 1134 0), (.int 259 0), (.str (ofString "/claim/cut.py") 1135)], #[]⟩
noncomputable def o752 : Obj := fn (ofString "promise_is_done") (ofString "ObjectStore.promise_is_done") (mth 37 41) .none (.str (ofString "scheme.objects") 780) 751
noncomputable def o758 : Obj := ⟨(.type "code"), none, .fields #[(.str (ofString "promise_content") 1137), (.str (ofString "ObjectStore.promise_content") 1138), (.str (ofString "/claim/cut.py") 1139), (.int 262 0), (.int 2 0), (.int 0 0), (.int 0 0), (.int 3 0), (.ref 753), (.bool true), (.int 181 0), (.ref 754), .none, (.ref 755), (.ref 756), (.ref 757), (.int 1142 0), (.int 262 0), (.str (ofString "/claim/cut.py") 1143)], #[]⟩
noncomputable def o759 : Obj := fn (ofString "promise_content") (ofString "ObjectStore.promise_content") (mth 37 42) .none (.str (ofString "scheme.objects") 780) 758
noncomputable def o765 : Obj := ⟨(.type "code"), none, .fields #[(.str (ofString "settle") 1145), (.str (ofString "ObjectStore.settle") 1146), (.str (ofString "/claim/cut.py") 1147), (.int 265 0), (.int 3 0), (.int 0 0), (.int 0 0), (.int 3 0), (.ref 760), (.bool true), (.int 181 0), (.ref 761), .none, (.ref 762), (.ref 763), (.ref 764), (.int 1151 0), (.int 265 0), (.str (ofString "/claim/cut.py") 1152)], #[]⟩
noncomputable def o766 : Obj := fn (ofString "settle") (ofString "ObjectStore.settle") (mth 37 43) .none (.str (ofString "scheme.objects") 780) 765
noncomputable def o772 : Obj := ⟨(.type "code"), none, .fields #[(.str (ofString "port") 1154), (.str (ofString "ObjectStore.port") 1155), (.str (ofString "/claim/cut.py") 1156), (.int 269 0), (.int 2 0), (.int 0 0), (.int 0 0), (.int 3 0), (.ref 767), (.bool true), (.int 181 0), (.ref 768), .none, (.ref 769), (.ref 770), (.ref 771), (.int 1159 0), (.int 269 0), (.str (ofString "/claim/cut.py") 1160)], #[]⟩
noncomputable def o773 : Obj := fn (ofString "port") (ofString "ObjectStore.port") (mth 37 44) .none (.str (ofString "scheme.objects") 780) 772
noncomputable def o779 : Obj := ⟨(.type "code"), none, .fields #[(.str (ofString "is_port") 1162), (.str (ofString "ObjectStore.is_port") 1163), (.str (ofString "/claim/cut.py") 1164), (.int 272 0), (.int 2 0), (.int 0 0), (.int 0 0), (.int 3 0), (.ref 774), (.bool true), (.int 181 0), (.ref 775), .none, (.ref 776), (.ref 777), (.ref 778), (.int 1167 0), (.int 272 0), (.str (ofString "/claim/cut.py") 1168)], #[]⟩
noncomputable def o780 : Obj := fn (ofString "is_port") (ofString "ObjectStore.is_port") (mth 37 45) .none (.str (ofString "scheme.objects") 780) 779
noncomputable def o786 : Obj := ⟨(.type "code"), none, .fields #[(.str (ofString "port_number") 1170), (.str (ofString "ObjectStore.port_number") 1171), (.str (ofString "/claim/cut.py") 1172), (.int 275 0), (.int 2 0), (.int 0 0), (.int 0 0), (.int 3 0), (.ref 781), (.bool true), (.int 181 0), (.ref 782), .none, (.ref 783), (.ref 784), (.ref 785), (.int 1175 0), (.int 275 0), (.str (ofString "/claim/cut.py") 1176)], #[]⟩
noncomputable def o787 : Obj := fn (ofString "port_number") (ofString "ObjectStore.port_number") (mth 37 46) .none (.str (ofString "scheme.objects") 780) 786
noncomputable def o793 : Obj := ⟨(.type "code"), none, .fields #[(.str (ofString "is_procedure") 1178), (.str (ofString "ObjectStore.is_procedure") 1179), (.str (ofString "/claim/cut.py") 1180), (.int 278 0), (.int 2 0), (.int 0 0), (.int 0 0), (.int 3 0), (.ref 788), (.bool true), (.int 181 0), (.ref 789), .none, (.ref 790), (.ref 791), (.ref 792), (.int 1183 0), (.int 278 0), (.str (ofString "/claim/cut.py") 1184)], #[]⟩
noncomputable def o794 : Obj := fn (ofString "is_procedure") (ofString "ObjectStore.is_procedure") (mth 37 47) .none (.str (ofString "scheme.objects") 780) 793
noncomputable def o800 : Obj := ⟨(.type "code"), none, .fields #[(.str (ofString "same") 1186), (.str (ofString "ObjectStore.same") 1187), (.str (ofString "/claim/cut.py") 1188), (.int 281 0), (.int 3 0), (.int 0 0), (.int 0 0), (.int 3 0), (.ref 795), (.bool true), (.int 181 0), (.ref 796), .none, (.ref 797), (.ref 798), (.ref 799), (.int 1192 0), (.int 281 0), (.str (ofString "/claim/cut.py") 1193)], #[]⟩
noncomputable def o801 : Obj := fn (ofString "same") (ofString "ObjectStore.same") (mth 37 48) .none (.str (ofString "scheme.objects") 780) 800
noncomputable def o807 : Obj := ⟨(.type "code"), none, .fields #[(.str (ofString "datum") 1195), (.str (ofString "ObjectStore.datum") 1196), (.str (ofString "/claim/cut.py") 1197), (.int 296 0), (.int 2 0), (.int 0 0), (.int 0 0), (.int 3 0), (.ref 802), (.bool true), (.int 181 0), (.ref 803), .none, (.ref 804), (.ref 805), (.ref 806), (.int 1200 0), (.int 296 0), (.str (ofString "/claim/cut.py") 1201)], #[]⟩
noncomputable def o808 : Obj := fn (ofString "datum") (ofString "ObjectStore.datum") (mth 37 49) .none (.str (ofString "scheme.objects") 780) 807
noncomputable def o814 : Obj := ⟨(.type "code"), none, .fields #[(.str (ofString "from_datum") 1203), (.str (ofString "ObjectStore.from_datum") 1204), (.str (ofString "/claim/cut.py") 1205), (.int 299 0), (.int 2 0), (.int 0 0), (.int 0 0), (.int 3 0), (.ref 809), (.bool true), (.int 181 0), (.ref 810), .none, (.ref 811), (.ref 812), (.ref 813), (.int 1208 0), (.int 299 0), (.str (ofString "/claim/cut.py") 1209)], #[]⟩
noncomputable def o815 : Obj := fn (ofString "from_datum") (ofString "ObjectStore.from_datum") (mth 37 50) .none (.str (ofString "scheme.objects") 780) 814
noncomputable def o817 (P : Params) : Obj := ⟨(.type "dict"), none, .dict #[en P (ofString "__module__") 789 (.str (ofString "scheme.objects") 780), en P (ofString "__firstlineno__") 793 (.int 134 792), en P (ofString "__init__") 801 (.ref 465), en P (ofString "boolean") 809 (.ref 472), en P (ofString "is_boolean") 817 (.ref 479), en P (ofString "is_true") 825 (.ref 486), en P (ofString "empty") 832 (.ref 493), en P (ofString "is_empty") 840 (.ref 500), en P (ofString "unspecified") 847 (.ref 507), en P (ofString "unassigned") 854 (.ref 514), en P (ofString "is_unassigned") 862 (.ref 521), en P (ofString "eof") 869 (.ref 528), en P (ofString "is_eof") 877 (.ref 535), en P (ofString "pair") 886 (.ref 542), en P (ofString "is_pair") 894 (.ref 549), en P (ofString "car") 902 (.ref 556), en P (ofString "cdr") 910 (.ref 563), en P (ofString "set_car") 919 (.ref 570), en P (ofString "set_cdr") 928 (.ref 577), en P (ofString "symbol") 936 (.ref 584), en P (ofString "is_symbol") 944 (.ref 591), en P (ofString "symbol_number") 952 (.ref 598), en P (ofString "char") 960 (.ref 605), en P (ofString "is_char") 968 (.ref 612), en P (ofString "char_code") 976 (.ref 619), en P (ofString "string") 984 (.ref 626), en P (ofString "is_string") 992 (.ref 633), en P (ofString "string_length") 1000 (.ref 640), en P (ofString "string_code") 1009 (.ref 647), en P (ofString "set_string_code") 1019 (.ref 654), en P (ofString "vector") 1027 (.ref 661), en P (ofString "is_vector") 1035 (.ref 668), en P (ofString "vector_length") 1043 (.ref 675), en P (ofString "vector_item") 1052 (.ref 682), en P (ofString "set_vector_item") 1062 (.ref 689), en P (ofString "number") 1070 (.ref 696), en P (ofString "is_number") 1078 (.ref 703), en P (ofString "number_of") 1086 (.ref 710), en P (ofString "box") 1094 (.ref 717), en P (ofString "unbox") 1102 (.ref 724), en P (ofString "set_box") 1111 (.ref 731), en P (ofString "promise") 1120 (.ref 738), en P (ofString "is_promise") 1128 (.ref 745), en P (ofString "promise_is_done") 1136 (.ref 752), en P (ofString "promise_content") 1144 (.ref 759), en P (ofString "settle") 1153 (.ref 766), en P (ofString "port") 1161 (.ref 773), en P (ofString "is_port") 1169 (.ref 780), en P (ofString "port_number") 1177 (.ref 787), en P (ofString "is_procedure") 1185 (.ref 794), en P (ofString "same") 1194 (.ref 801), en P (ofString "datum") 1202 (.ref 808), en P (ofString "from_datum") 1210 (.ref 815), en P (ofString "__static_attributes__") 1212 (.ref 816), en P (ofString "__dict__") 1214 (.ref 819), en P (ofString "__weakref__") 1216 (.ref 820), en P (ofString "__doc__") 1217 .none] 4, #[]⟩
noncomputable def o818 : Obj := ⟨(.type "type"), none, .cls { name := (ofString "ObjectStore"), bases := [(.type "object")], mro := [(.ref 818), (.type "object")], ns := 817, qualname := (ofString "ObjectStore"), hasDict := true, slotNames := [], subclasses := [], abstract := false, collection := none, hasDel := false }, #[none, none, some (.str (ofString "ObjectStore") 782), some (.str (ofString "ObjectStore") 790), some (.builtin "object.__new__"), some (.bool true)]⟩
noncomputable def o819 : Obj := ⟨(.type "getset_descriptor"), none, .fields #[(.str (ofString "__dict__") 1213), (.ref 818), (.builtin "function.__dict__"), (.builtin "function.__dict__#set")], #[]⟩
noncomputable def o820 : Obj := ⟨(.type "getset_descriptor"), none, .fields #[(.str (ofString "__weakref__") 1215), (.ref 818), (.builtin "ExceptionGroup.__weakref__"), .none], #[]⟩
noncomputable def o828 : Obj := ⟨(.type "code"), none, .fields #[(.str (ofString "prim_boolean_p") 1222), (.str (ofString "prim_boolean_p") 1223), (.str (ofString "/claim/cut.py") 1224), (.int 302 0), (.int 3 0), (.int 0 0), (.int 0 0), (.int 3 0), (.ref 823), (.bool true), (.int 181 0), (.ref 824), .none, (.ref 825), (.ref 826), (.ref 827), (.int 1228 0), (.int 302 0), (.str (ofString "/claim/cut.py") 1229)], #[]⟩
noncomputable def o829 : Obj := fn (ofString "prim_boolean_p") (ofString "prim_boolean_p") (stm 39) .none (.str (ofString "scheme.equality") 1220) 828
noncomputable def o835 : Obj := ⟨(.type "code"), none, .fields #[(.str (ofString "prim_not") 1231), (.str (ofString "prim_not") 1232), (.str (ofString "/claim/cut.py") 1233), (.int 304 0), (.int 3 0), (.int 0 0), (.int 0 0), (.int 3 0), (.ref 830), (.bool true), (.int 181 0), (.ref 831), .none, (.ref 832), (.ref 833), (.ref 834), (.int 1237 0), (.int 304 0), (.str (ofString "/claim/cut.py") 1238)], #[]⟩
noncomputable def o836 : Obj := fn (ofString "prim_not") (ofString "prim_not") (stm 40) .none (.str (ofString "scheme.equality") 1220) 835
noncomputable def o840 : Obj := ⟨(.type "code"), none, .fields #[(.str (ofString "_law_deck") 1242), (.str (ofString "_law_deck") 1243), (.str (ofString "/claim/cut.py") 1244), (.int 307 0), (.int 1 0), (.int 0 0), (.int 0 0), (.int 3 0), (.ref 837), (.bool true), (.int 181 0), (.ref 838), .none, .none, .none, (.ref 839), (.int 1245 0), (.int 307 0), (.str (ofString "/claim/cut.py") 1246)], #[]⟩
noncomputable def o841 : Obj := fn (ofString "_law_deck") (ofString "_law_deck") (stm 42) .none (.str (ofString "law_nt0186_01") 1240) 840
noncomputable def o847 : Obj := ⟨(.type "code"), none, .fields #[(.str (ofString "_law_draw") 1248), (.str (ofString "_law_draw") 1249), (.str (ofString "/claim/cut.py") 1250), (.int 310 0), (.int 2 0), (.int 0 0), (.int 0 0), (.int 3 0), (.ref 842), (.bool true), (.int 181 0), (.ref 843), .none, (.ref 844), (.ref 845), (.ref 846), (.int 1255 0), (.int 310 0), (.str (ofString "/claim/cut.py") 1256)], #[]⟩
noncomputable def o848 : Obj := fn (ofString "_law_draw") (ofString "_law_draw") (stm 43) .none (.str (ofString "law_nt0186_01") 1240) 847
noncomputable def o854 : Obj := ⟨(.type "code"), none, .fields #[(.str (ofString "_law_plain") 1258), (.str (ofString "_law_plain") 1259), (.str (ofString "/claim/cut.py") 1260), (.int 321 0), (.int 1 0), (.int 0 0), (.int 0 0), (.int 3 0), (.ref 849), (.bool true), (.int 181 0), (.ref 850), .none, (.ref 851), (.ref 852), (.ref 853), (.int 1265 0), (.int 321 0), (.str (ofString "/claim/cut.py") 1266)], #[]⟩
noncomputable def o855 : Obj := fn (ofString "_law_plain") (ofString "_law_plain") (stm 44) .none (.str (ofString "law_nt0186_01") 1240) 854
noncomputable def o861 : Obj := ⟨(.type "code"), none, .fields #[(.str (ofString "_law_thing") 1268), (.str (ofString "_law_thing") 1269), (.str (ofString "/claim/cut.py") 1270), (.int 332 0), (.int 2 0), (.int 0 0), (.int 0 0), (.int 3 0), (.ref 856), (.bool true), (.int 181 0), (.ref 857), .none, (.ref 858), (.ref 859), (.ref 860), (.int 1273 0), (.int 332 0), (.str (ofString "/claim/cut.py") 1274)], #[]⟩
noncomputable def o862 : Obj := fn (ofString "_law_thing") (ofString "_law_thing") (stm 45) .none (.str (ofString "law_nt0186_01") 1240) 861
noncomputable def o868 : Obj := ⟨(.type "code"), none, .fields #[(.str (ofString "_law_value") 1276), (.str (ofString "_law_value") 1277), (.str (ofString "/claim/cut.py") 1278), (.int 336 0), (.int 3 0), (.int 0 0), (.int 0 0), (.int 3 0), (.ref 863), (.bool true), (.int 181 0), (.ref 864), .none, (.ref 865), (.ref 866), (.ref 867), (.int 1284 0), (.int 336 0), (.str (ofString "/claim/cut.py") 1285)], #[]⟩
noncomputable def o869 : Obj := fn (ofString "_law_value") (ofString "_law_value") (stm 46) .none (.str (ofString "law_nt0186_01") 1240) 868
noncomputable def o873 : Obj := ⟨(.type "code"), none, .fields #[(.str (ofString "_law_make") 1287), (.str (ofString "_law_make") 1288), (.str (ofString "/claim/cut.py") 1289), (.int 359 0), (.int 4 0), (.int 0 0), (.int 0 0), (.int 3 0), (.ref 870), (.bool true), (.int 181 0), (.ref 871), .none, .none, .none, (.ref 872), (.int 1290 0), (.int 359 0), (.str (ofString "/claim/cut.py") 1291)], #[]⟩
noncomputable def o874 : Obj := fn (ofString "_law_make") (ofString "_law_make") (stm 47) .none (.str (ofString "law_nt0186_01") 1240) 873
noncomputable def o880 : Obj := ⟨(.type "code"), none, .fields #[(.str (ofString "_law_change") 1293), (.str (ofString "_law_change") 1294), (.str (ofString "/claim/cut.py") 1295), (.int 379 0), (.int 4 0), (.int 0 0), (.int 0 0), (.int 3 0), (.ref 875), (.bool true), (.int 181 0), (.ref 876), .none, (.ref 877), (.ref 878), (.ref 879), (.int 1306 0), (.int 379 0), (.str (ofString "/claim/cut.py") 1307)], #[]⟩
noncomputable def o881 : Obj := fn (ofString "_law_change") (ofString "_law_change") (stm 48) .none (.str (ofString "law_nt0186_01") 1240) 880
noncomputable def o887 : Obj := ⟨(.type "code"), none, .fields #[(.str (ofString "_law_answers") 1309), (.str (ofString "_law_answers") 1310), (.str (ofString "/claim/cut.py") 1311), (.int 404 0), (.int 2 0), (.int 0 0), (.int 0 0), (.int 3 0), (.ref 882), (.bool true), (.int 181 0), (.ref 883), .none, (.ref 884), (.ref 885), (.ref 886), (.int 1315 0), (.int 404 0), (.str (ofString "/claim/cut.py") 1316)], #[]⟩
noncomputable def o888 : Obj := fn (ofString "_law_answers") (ofString "_law_answers") (stm 49) .none (.str (ofString "law_nt0186_01") 1240) 887
noncomputable def o892 : Obj := ⟨(.type "code"), none, .fields #[(.str (ofString "_law_is_kind") 1318), (.str (ofString "_law_is_kind") 1319), (.str (ofString "/claim/cut.py") 1320), (.int 409 0), (.int 4 0), (.int 0 0), (.int 0 0), (.int 3 0), (.ref 889), (.bool true), (.int 181 0), (.ref 890), .none, .none, .none, (.ref 891), (.int 1321 0), (.int 409 0), (.str (ofString "/claim/cut.py") 1322)], #[]⟩
noncomputable def o893 : Obj := fn (ofString "_law_is_kind") (ofString "_law_is_kind") (stm 50) .none (.str (ofString "law_nt0186_01") 1240) 892
noncomputable def o899 : Obj := ⟨(.type "code"), none, .fields #[(.str (ofString "_law_number") 1324), (.str (ofString "_law_number") 1325), (.str (ofString "/claim/cut.py") 1326), (.int 419 0), (.int 1 0), (.int 0 0), (.int 0 0), (.int 3 0), (.ref 894), (.bool true), (.int 181 0), (.ref 895), .none, (.ref 896), (.ref 897), (.ref 898), (.int 1328 0), (.int 419 0), (.str (ofString "/claim/cut.py") 1329)], #[]⟩
noncomputable def o900 : Obj := fn (ofString "_law_number") (ofString "_law_number") (stm 51) .none (.str (ofString "law_nt0186_01") 1240) 899
noncomputable def o904 : Obj := ⟨(.type "code"), none, .fields #[(.str (ofString "_law_parts") 1331), (.str (ofString "_law_parts") 1332), (.str (ofString "/claim/cut.py") 1333), (.int 425 0), (.int 3 0), (.int 0 0), (.int 0 0), (.int 3 0), (.ref 901), (.bool true), (.int 181 0), (.ref 902), .none, .none, .none, (.ref 903), (.int 1334 0), (.int 425 0), (.str (ofString "/claim/cut.py") 1335)], #[]⟩
noncomputable def o905 : Obj := fn (ofString "_law_parts") (ofString "_law_parts") (stm 52) .none (.str (ofString "law_nt0186_01") 1240) 904
noncomputable def o909 : Obj := ⟨(.type "code"), none, .fields #[(.str (ofString "_law_tells") 1337), (.str (ofString "_law_tells") 1338), (.str (ofString "/claim/cut.py") 1339), (.int 431 0), (.int 5 0), (.int 0 0), (.int 0 0), (.int 3 0), (.ref 906), (.bool true), (.int 181 0), (.ref 907), .none, .none, .none, (.ref 908), (.int 1340 0), (.int 431 0), (.str (ofString "/claim/cut.py") 1341)], #[]⟩
noncomputable def o910 : Obj := fn (ofString "_law_tells") (ofString "_law_tells") (stm 53) .none (.str (ofString "law_nt0186_01") 1240) 909
noncomputable def o914 : Obj := ⟨(.type "code"), none, .fields #[(.str (ofString "_law_many") 1343), (.str (ofString "_law_many") 1344), (.str (ofString "/claim/cut.py") 1345), (.int 454 0), (.int 1 0), (.int 0 0), (.int 0 0), (.int 3 0), (.ref 911), (.bool true), (.int 181 0), (.ref 912), .none, .none, .none, (.ref 913), (.int 1346 0), (.int 454 0), (.str (ofString "/claim/cut.py") 1347)], #[]⟩
noncomputable def o915 : Obj := fn (ofString "_law_many") (ofString "_law_many") (stm 54) .none (.str (ofString "law_nt0186_01") 1240) 914
noncomputable def o919 : Obj := ⟨(.type "code"), none, .fields #[(.str (ofString "law") 1349), (.str (ofString "law") 1350), (.str (ofString "/claim/cut.py") 1351), (.int 459 0), (.int 1 0), (.int 0 0), (.int 0 0), (.int 3 0), (.ref 916), (.bool true), (.int 181 0), (.ref 917), .none, .none, .none, (.ref 918), (.int 1352 0), (.int 459 0), (.str (ofString "/claim/cut.py") 1353)], #[]⟩
noncomputable def o920 : Obj := fn (ofString "law") (ofString "law") (stm 55) .none (.str (ofString "law_nt0186_01") 1240) 919
noncomputable def K (P : Params) : Frag := (nat_lit 2, o2 P) :: (nat_lit 3, o3 P) :: (nat_lit 20, o20) :: (nat_lit 21, o21) :: (nat_lit 34, o34) :: (nat_lit 35, o35) :: (nat_lit 37, o37 P) :: (nat_lit 38, o38) :: (nat_lit 39, o39) :: (nat_lit 40, o40) :: (nat_lit 43, o43 P) :: (nat_lit 44, o44) :: (nat_lit 46, o46 P) :: (nat_lit 47, o47) :: (nat_lit 49, o49 P) :: (nat_lit 50, o50) :: (nat_lit 52, o52 P) :: (nat_lit 53, o53) :: (nat_lit 67, o67) :: (nat_lit 68, o68) :: (nat_lit 70, o70 P) :: (nat_lit 71, o71) :: (nat_lit 72, o72) :: (nat_lit 73, o73) :: (nat_lit 88, o88) :: (nat_lit 89, o89) :: (nat_lit 95, o95) :: (nat_lit 96, o96) :: (nat_lit 102, o102) :: (nat_lit 103, o103) :: (nat_lit 109, o109) :: (nat_lit 110, o110) :: (nat_lit 116, o116) :: (nat_lit 117, o117) :: (nat_lit 123, o123) :: (nat_lit 124, o124) :: (nat_lit 130, o130) :: (nat_lit 131, o131) :: (nat_lit 133, o133 P) :: (nat_lit 134, o134) :: (nat_lit 135, o135) :: (nat_lit 136, o136) :: (nat_lit 151, o151) :: (nat_lit 152, o152) :: (nat_lit 154, o154 P) :: (nat_lit 155, o155) :: (nat_lit 156, o156) :: (nat_lit 157, o157) :: (nat_lit 172, o172) :: (nat_lit 173, o173) :: (nat_lit 175, o175 P) :: (nat_lit 176, o176) :: (nat_lit 177, o177) :: (nat_lit 178, o178) :: (nat_lit 193, o193) :: (nat_lit 194, o194) :: (nat_lit 196, o196 P) :: (nat_lit 197, o197) :: (nat_lit 198, o198) :: (nat_lit 199, o199) :: (nat_lit 214, o214) :: (nat_lit 215, o215) :: (nat_lit 217, o217 P) :: (nat_lit 218, o218) :: (nat_lit 219, o219) :: (nat_lit 220, o220) :: (nat_lit 235, o235) :: (nat_lit 236, o236) :: (nat_lit 238, o238 P) :: (nat_lit 239, o239) :: (nat_lit 240, o240) :: (nat_lit 241, o241) :: (nat_lit 256, o256) :: (nat_lit 257, o257) :: (nat_lit 259, o259 P) :: (nat_lit 260, o260) :: (nat_lit 261, o261) :: (nat_lit 262, o262) :: (nat_lit 277, o277) :: (nat_lit 278, o278) :: (nat_lit 280, o280 P) :: (nat_lit 281, o281) :: (nat_lit 282, o282) :: (nat_lit 283, o283) :: (nat_lit 298, o298) :: (nat_lit 299, o299) :: (nat_lit 301, o301 P) :: (nat_lit 302, o302) :: (nat_lit 303, o303) :: (nat_lit 304, o304) :: (nat_lit 319, o319) :: (nat_lit 320, o320) :: (nat_lit 322, o322 P) :: (nat_lit 323, o323) :: (nat_lit 338, o338) :: (nat_lit 339, o339) :: (nat_lit 341, o341 P) :: (nat_lit 342, o342) :: (nat_lit 343, o343) :: (nat_lit 344, o344) :: (nat_lit 352, o352) :: (nat_lit 353, o353) :: (nat_lit 366, o366) :: (nat_lit 367, o367) :: (nat_lit 369, o369 P) :: (nat_lit 370, o370) :: (nat_lit 371, o371) :: (nat_lit 372, o372) :: (nat_lit 380, o380) :: (nat_lit 381, o381) :: (nat_lit 387, o387) :: (nat_lit 388, o388) :: (nat_lit 394, o394) :: (nat_lit 395, o395) :: (nat_lit 401, o401) :: (nat_lit 402, o402) :: (nat_lit 408, o408) :: (nat_lit 409, o409) :: (nat_lit 415, o415) :: (nat_lit 416, o416) :: (nat_lit 422, o422) :: (nat_lit 423, o423) :: (nat_lit 429, o429) :: (nat_lit 430, o430) :: (nat_lit 436, o436) :: (nat_lit 437, o437) :: (nat_lit 443, o443) :: (nat_lit 444, o444) :: (nat_lit 450, o450) :: (nat_lit 451, o451) :: (nat_lit 464, o464) :: (nat_lit 465, o465) :: (nat_lit 471, o471) :: (nat_lit 472, o472) :: (nat_lit 478, o478) :: (nat_lit 479, o479) :: (nat_lit 485, o485) :: (nat_lit 486, o486) :: (nat_lit 492, o492) :: (nat_lit 493, o493) :: (nat_lit 499, o499) :: (nat_lit 500, o500) :: (nat_lit 506, o506) :: (nat_lit 507, o507) :: (nat_lit 513, o513) :: (nat_lit 514, o514) :: (nat_lit 520, o520) :: (nat_lit 521, o521) :: (nat_lit 527, o527) :: (nat_lit 528, o528) :: (nat_lit 534, o534) :: (nat_lit 535, o535) :: (nat_lit 541, o541) :: (nat_lit 542, o542) :: (nat_lit 548, o548) :: (nat_lit 549, o549) :: (nat_lit 555, o555) :: (nat_lit 556, o556) :: (nat_lit 562, o562) :: (nat_lit 563, o563) :: (nat_lit 569, o569) :: (nat_lit 570, o570) :: (nat_lit 576, o576) :: (nat_lit 577, o577) :: (nat_lit 583, o583) :: (nat_lit 584, o584) :: (nat_lit 590, o590) :: (nat_lit 591, o591) :: (nat_lit 597, o597) :: (nat_lit 598, o598) :: (nat_lit 604, o604) :: (nat_lit 605, o605) :: (nat_lit 611, o611) :: (nat_lit 612, o612) :: (nat_lit 618, o618) :: (nat_lit 619, o619) :: (nat_lit 625, o625) :: (nat_lit 626, o626) :: (nat_lit 632, o632) :: (nat_lit 633, o633) :: (nat_lit 639, o639) :: (nat_lit 640, o640) :: (nat_lit 646, o646) :: (nat_lit 647, o647) :: (nat_lit 653, o653) :: (nat_lit 654, o654) :: (nat_lit 660, o660) :: (nat_lit 661, o661) :: (nat_lit 667, o667) :: (nat_lit 668, o668) :: (nat_lit 674, o674) :: (nat_lit 675, o675) :: (nat_lit 681, o681) :: (nat_lit 682, o682) :: (nat_lit 688, o688) :: (nat_lit 689, o689) :: (nat_lit 695, o695) :: (nat_lit 696, o696) :: (nat_lit 702, o702) :: (nat_lit 703, o703) :: (nat_lit 709, o709) :: (nat_lit 710, o710) :: (nat_lit 716, o716) :: (nat_lit 717, o717) :: (nat_lit 723, o723) :: (nat_lit 724, o724) :: (nat_lit 730, o730) :: (nat_lit 731, o731) :: (nat_lit 737, o737) :: (nat_lit 738, o738) :: (nat_lit 744, o744) :: (nat_lit 745, o745) :: (nat_lit 751, o751) :: (nat_lit 752, o752) :: (nat_lit 758, o758) :: (nat_lit 759, o759) :: (nat_lit 765, o765) :: (nat_lit 766, o766) :: (nat_lit 772, o772) :: (nat_lit 773, o773) :: (nat_lit 779, o779) :: (nat_lit 780, o780) :: (nat_lit 786, o786) :: (nat_lit 787, o787) :: (nat_lit 793, o793) :: (nat_lit 794, o794) :: (nat_lit 800, o800) :: (nat_lit 801, o801) :: (nat_lit 807, o807) :: (nat_lit 808, o808) :: (nat_lit 814, o814) :: (nat_lit 815, o815) :: (nat_lit 817, o817 P) :: (nat_lit 818, o818) :: (nat_lit 819, o819) :: (nat_lit 820, o820) :: (nat_lit 828, o828) :: (nat_lit 829, o829) :: (nat_lit 835, o835) :: (nat_lit 836, o836) :: (nat_lit 840, o840) :: (nat_lit 841, o841) :: (nat_lit 847, o847) :: (nat_lit 848, o848) :: (nat_lit 854, o854) :: (nat_lit 855, o855) :: (nat_lit 861, o861) :: (nat_lit 862, o862) :: (nat_lit 868, o868) :: (nat_lit 869, o869) :: (nat_lit 873, o873) :: (nat_lit 874, o874) :: (nat_lit 880, o880) :: (nat_lit 881, o881) :: (nat_lit 887, o887) :: (nat_lit 888, o888) :: (nat_lit 892, o892) :: (nat_lit 893, o893) :: (nat_lit 899, o899) :: (nat_lit 900, o900) :: (nat_lit 904, o904) :: (nat_lit 905, o905) :: (nat_lit 909, o909) :: (nat_lit 910, o910) :: (nat_lit 914, o914) :: (nat_lit 915, o915) :: (nat_lit 919, o919) :: (nat_lit 920, o920) :: []
set_option simprocs false in
noncomputable def KC : Params → Frag := by
  refine (?f : K = ?s → Params → Frag) ?h
  case h =>
    have e0 : ofString "_wall" = ⟨#[95, 119, 97, 108, 108]⟩ := by with_unfolding_all rfl
    have e2 : ofString "__name__" = ⟨#[95, 95, 110, 97, 109, 101, 95, 95]⟩ := by with_unfolding_all rfl
    have e3 : ofString "scheme.data" = ⟨#[115, 99, 104, 101, 109, 101, 46, 100, 97, 116, 97]⟩ := by with_unfolding_all rfl
    have e4 : ofString "Special" = ⟨#[83, 112, 101, 99, 105, 97, 108]⟩ := by with_unfolding_all rfl
    have e5 : ofString "__init__" = ⟨#[95, 95, 105, 110, 105, 116, 95, 95]⟩ := by with_unfolding_all rfl
    have e7 : ofString "title" = ⟨#[116, 105, 116, 108, 101]⟩ := by with_unfolding_all rfl
    have e8 : ofString "EMPTY" = ⟨#[69, 77, 80, 84, 89]⟩ := by with_unfolding_all rfl
    have e9 : ofString "empty" = ⟨#[101, 109, 112, 116, 121]⟩ := by with_unfolding_all rfl
    have e10 : ofString "UNSPECIFIED" = ⟨#[85, 78, 83, 80, 69, 67, 73, 70, 73, 69, 68]⟩ := by with_unfolding_all rfl
    have e11 : ofString "unspecified" = ⟨#[117, 110, 115, 112, 101, 99, 105, 102, 105, 101, 100]⟩ := by with_unfolding_all rfl
    have e12 : ofString "UNASSIGNED" = ⟨#[85, 78, 65, 83, 83, 73, 71, 78, 69, 68]⟩ := by with_unfolding_all rfl
    have e13 : ofString "unassigned" = ⟨#[117, 110, 97, 115, 115, 105, 103, 110, 101, 100]⟩ := by with_unfolding_all rfl
    have e14 : ofString "EOF" = ⟨#[69, 79, 70]⟩ := by with_unfolding_all rfl
    have e15 : ofString "eof" = ⟨#[101, 111, 102]⟩ := by with_unfolding_all rfl
    have e16 : ofString "Symbol" = ⟨#[83, 121, 109, 98, 111, 108]⟩ := by with_unfolding_all rfl
    have e17 : ofString "number" = ⟨#[110, 117, 109, 98, 101, 114]⟩ := by with_unfolding_all rfl
    have e19 : ofString "SymbolTable" = ⟨#[83, 121, 109, 98, 111, 108, 84, 97, 98, 108, 101]⟩ := by with_unfolding_all rfl
    have e22 : ofString "symbol" = ⟨#[115, 121, 109, 98, 111, 108]⟩ := by with_unfolding_all rfl
    have e27 : ofString "fresh" = ⟨#[102, 114, 101, 115, 104]⟩ := by with_unfolding_all rfl
    have e30 : ofString "by_number" = ⟨#[98, 121, 95, 110, 117, 109, 98, 101, 114]⟩ := by with_unfolding_all rfl
    have e31 : ofString "find" = ⟨#[102, 105, 110, 100]⟩ := by with_unfolding_all rfl
    have e32 : ofString "is_interned" = ⟨#[105, 115, 95, 105, 110, 116, 101, 114, 110, 101, 100]⟩ := by with_unfolding_all rfl
    have e33 : ofString "size" = ⟨#[115, 105, 122, 101]⟩ := by with_unfolding_all rfl
    have e34 : ofString "Pair" = ⟨#[80, 97, 105, 114]⟩ := by with_unfolding_all rfl
    have e35 : ofString "car" = ⟨#[99, 97, 114]⟩ := by with_unfolding_all rfl
    have e36 : ofString "cdr" = ⟨#[99, 100, 114]⟩ := by with_unfolding_all rfl
    have e37 : ofString "Char" = ⟨#[67, 104, 97, 114]⟩ := by with_unfolding_all rfl
    have e38 : ofString "code" = ⟨#[99, 111, 100, 101]⟩ := by with_unfolding_all rfl
    have e39 : ofString "Text" = ⟨#[84, 101, 120, 116]⟩ := by with_unfolding_all rfl
    have e41 : ofString "Vector" = ⟨#[86, 101, 99, 116, 111, 114]⟩ := by with_unfolding_all rfl
    have e43 : ofString "Box" = ⟨#[66, 111, 120]⟩ := by with_unfolding_all rfl
    have e45 : ofString "Promise" = ⟨#[80, 114, 111, 109, 105, 115, 101]⟩ := by with_unfolding_all rfl
    have e47 : ofString "PortRef" = ⟨#[80, 111, 114, 116, 82, 101, 102]⟩ := by with_unfolding_all rfl
    have e48 : ofString "Procedure" = ⟨#[80, 114, 111, 99, 101, 100, 117, 114, 101]⟩ := by with_unfolding_all rfl
    have e49 : ofString "Primitive" = ⟨#[80, 114, 105, 109, 105, 116, 105, 118, 101]⟩ := by with_unfolding_all rfl
    have e51 : ofString "scheme.binary" = ⟨#[115, 99, 104, 101, 109, 101, 46, 98, 105, 110, 97, 114, 121]⟩ := by with_unfolding_all rfl
    have e52 : ofString "Real" = ⟨#[82, 101, 97, 108]⟩ := by with_unfolding_all rfl
    have e55 : ofString "same_real" = ⟨#[115, 97, 109, 101, 95, 114, 101, 97, 108]⟩ := by with_unfolding_all rfl
    have e58 : ofString "scheme.exact" = ⟨#[115, 99, 104, 101, 109, 101, 46, 101, 120, 97, 99, 116]⟩ := by with_unfolding_all rfl
    have e59 : ofString "Ratio" = ⟨#[82, 97, 116, 105, 111]⟩ := by with_unfolding_all rfl
    have e62 : ofString "is_whole" = ⟨#[105, 115, 95, 119, 104, 111, 108, 101]⟩ := by with_unfolding_all rfl
    have e67 : ofString "is_exact" = ⟨#[105, 115, 95, 101, 120, 97, 99, 116]⟩ := by with_unfolding_all rfl
    have e68 : ofString "top_of" = ⟨#[116, 111, 112, 95, 111, 102]⟩ := by with_unfolding_all rfl
    have e69 : ofString "bottom_of" = ⟨#[98, 111, 116, 116, 111, 109, 95, 111, 102]⟩ := by with_unfolding_all rfl
    have e70 : ofString "gcd_of" = ⟨#[103, 99, 100, 95, 111, 102]⟩ := by with_unfolding_all rfl
    have e72 : ofString "made" = ⟨#[109, 97, 100, 101]⟩ := by with_unfolding_all rfl
    have e73 : ofString "ratio_of" = ⟨#[114, 97, 116, 105, 111, 95, 111, 102]⟩ := by with_unfolding_all rfl
    have e75 : ofString "is_equal_exact" = ⟨#[105, 115, 95, 101, 113, 117, 97, 108, 95, 101, 120, 97, 99, 116]⟩ := by with_unfolding_all rfl
    have e76 : ofString "scheme.numkinds" = ⟨#[115, 99, 104, 101, 109, 101, 46, 110, 117, 109, 107, 105, 110, 100, 115]⟩ := by with_unfolding_all rfl
    have e77 : ofString "is_inexact" = ⟨#[105, 115, 95, 105, 110, 101, 120, 97, 99, 116]⟩ := by with_unfolding_all rfl
    have e78 : ofString "is_number" = ⟨#[105, 115, 95, 110, 117, 109, 98, 101, 114]⟩ := by with_unfolding_all rfl
    have e79 : ofString "is_number_numkinds" = ⟨#[105, 115, 95, 110, 117, 109, 98, 101, 114, 95, 110, 117, 109, 107, 105, 110, 100, 115]⟩ := by with_unfolding_all rfl
    have e80 : ofString "same_number" = ⟨#[115, 97, 109, 101, 95, 110, 117, 109, 98, 101, 114]⟩ := by with_unfolding_all rfl
    have e81 : ofString "scheme.objects" = ⟨#[115, 99, 104, 101, 109, 101, 46, 111, 98, 106, 101, 99, 116, 115]⟩ := by with_unfolding_all rfl
    have e82 : ofString "ObjectStore" = ⟨#[79, 98, 106, 101, 99, 116, 83, 116, 111, 114, 101]⟩ := by with_unfolding_all rfl
    have e84 : ofString "boolean" = ⟨#[98, 111, 111, 108, 101, 97, 110]⟩ := by with_unfolding_all rfl
    have e86 : ofString "is_boolean" = ⟨#[105, 115, 95, 98, 111, 111, 108, 101, 97, 110]⟩ := by with_unfolding_all rfl
    have e87 : ofString "is_true" = ⟨#[105, 115, 95, 116, 114, 117, 101]⟩ := by with_unfolding_all rfl
    have e88 : ofString "is_empty" = ⟨#[105, 115, 95, 101, 109, 112, 116, 121]⟩ := by with_unfolding_all rfl
    have e89 : ofString "is_unassigned" = ⟨#[105, 115, 95, 117, 110, 97, 115, 115, 105, 103, 110, 101, 100]⟩ := by with_unfolding_all rfl
    have e90 : ofString "is_eof" = ⟨#[105, 115, 95, 101, 111, 102]⟩ := by with_unfolding_all rfl
    have e91 : ofString "pair" = ⟨#[112, 97, 105, 114]⟩ := by with_unfolding_all rfl
    have e94 : ofString "is_pair" = ⟨#[105, 115, 95, 112, 97, 105, 114]⟩ := by with_unfolding_all rfl
    have e95 : ofString "set_car" = ⟨#[115, 101, 116, 95, 99, 97, 114]⟩ := by with_unfolding_all rfl
    have e96 : ofString "set_cdr" = ⟨#[115, 101, 116, 95, 99, 100, 114]⟩ := by with_unfolding_all rfl
    have e97 : ofString "is_symbol" = ⟨#[105, 115, 95, 115, 121, 109, 98, 111, 108]⟩ := by with_unfolding_all rfl
    have e98 : ofString "symbol_number" = ⟨#[115, 121, 109, 98, 111, 108, 95, 110, 117, 109, 98, 101, 114]⟩ := by with_unfolding_all rfl
    have e99 : ofString "char" = ⟨#[99, 104, 97, 114]⟩ := by with_unfolding_all rfl
    have e100 : ofString "is_char" = ⟨#[105, 115, 95, 99, 104, 97, 114]⟩ := by with_unfolding_all rfl
    have e101 : ofString "char_code" = ⟨#[99, 104, 97, 114, 95, 99, 111, 100, 101]⟩ := by with_unfolding_all rfl
    have e102 : ofString "string" = ⟨#[115, 116, 114, 105, 110, 103]⟩ := by with_unfolding_all rfl
    have e104 : ofString "is_string" = ⟨#[105, 115, 95, 115, 116, 114, 105, 110, 103]⟩ := by with_unfolding_all rfl
    have e105 : ofString "string_length" = ⟨#[115, 116, 114, 105, 110, 103, 95, 108, 101, 110, 103, 116, 104]⟩ := by with_unfolding_all rfl
    have e106 : ofString "string_code" = ⟨#[115, 116, 114, 105, 110, 103, 95, 99, 111, 100, 101]⟩ := by with_unfolding_all rfl
    have e108 : ofString "set_string_code" = ⟨#[115, 101, 116, 95, 115, 116, 114, 105, 110, 103, 95, 99, 111, 100, 101]⟩ := by with_unfolding_all rfl
    have e109 : ofString "vector" = ⟨#[118, 101, 99, 116, 111, 114]⟩ := by with_unfolding_all rfl
    have e111 : ofString "is_vector" = ⟨#[105, 115, 95, 118, 101, 99, 116, 111, 114]⟩ := by with_unfolding_all rfl
    have e112 : ofString "vector_length" = ⟨#[118, 101, 99, 116, 111, 114, 95, 108, 101, 110, 103, 116, 104]⟩ := by with_unfolding_all rfl
    have e113 : ofString "vector_item" = ⟨#[118, 101, 99, 116, 111, 114, 95, 105, 116, 101, 109]⟩ := by with_unfolding_all rfl
    have e114 : ofString "set_vector_item" = ⟨#[115, 101, 116, 95, 118, 101, 99, 116, 111, 114, 95, 105, 116, 101, 109]⟩ := by with_unfolding_all rfl
    have e115 : ofString "number_of" = ⟨#[110, 117, 109, 98, 101, 114, 95, 111, 102]⟩ := by with_unfolding_all rfl
    have e116 : ofString "box" = ⟨#[98, 111, 120]⟩ := by with_unfolding_all rfl
    have e117 : ofString "unbox" = ⟨#[117, 110, 98, 111, 120]⟩ := by with_unfolding_all rfl
    have e118 : ofString "set_box" = ⟨#[115, 101, 116, 95, 98, 111, 120]⟩ := by with_unfolding_all rfl
    have e119 : ofString "promise" = ⟨#[112, 114, 111, 109, 105, 115, 101]⟩ := by with_unfolding_all rfl
    have e120 : ofString "is_promise" = ⟨#[105, 115, 95, 112, 114, 111, 109, 105, 115, 101]⟩ := by with_unfolding_all rfl
    have e121 : ofString "promise_is_done" = ⟨#[112, 114, 111, 109, 105, 115, 101, 95, 105, 115, 95, 100, 111, 110, 101]⟩ := by with_unfolding_all rfl
    have e122 : ofString "promise_content" = ⟨#[112, 114, 111, 109, 105, 115, 101, 95, 99, 111, 110, 116, 101, 110, 116]⟩ := by with_unfolding_all rfl
    have e123 : ofString "settle" = ⟨#[115, 101, 116, 116, 108, 101]⟩ := by with_unfolding_all rfl
    have e124 : ofString "port" = ⟨#[112, 111, 114, 116]⟩ := by with_unfolding_all rfl
    have e125 : ofString "is_port" = ⟨#[105, 115, 95, 112, 111, 114, 116]⟩ := by with_unfolding_all rfl
    have e126 : ofString "port_number" = ⟨#[112, 111, 114, 116, 95, 110, 117, 109, 98, 101, 114]⟩ := by with_unfolding_all rfl
    have e127 : ofString "is_procedure" = ⟨#[105, 115, 95, 112, 114, 111, 99, 101, 100, 117, 114, 101]⟩ := by with_unfolding_all rfl
    have e128 : ofString "same" = ⟨#[115, 97, 109, 101]⟩ := by with_unfolding_all rfl
    have e129 : ofString "datum" = ⟨#[100, 97, 116, 117, 109]⟩ := by with_unfolding_all rfl
    have e130 : ofString "from_datum" = ⟨#[102, 114, 111, 109, 95, 100, 97, 116, 117, 109]⟩ := by with_unfolding_all rfl
    have e131 : ofString "scheme.equality" = ⟨#[115, 99, 104, 101, 109, 101, 46, 101, 113, 117, 97, 108, 105, 116, 121]⟩ := by with_unfolding_all rfl
    have e132 : ofString "prim_boolean_p" = ⟨#[112, 114, 105, 109, 95, 98, 111, 111, 108, 101, 97, 110, 95, 112]⟩ := by with_unfolding_all rfl
    have e136 : ofString "prim_not" = ⟨#[112, 114, 105, 109, 95, 110, 111, 116]⟩ := by with_unfolding_all rfl
    have e137 : ofString "law_nt0186_01" = ⟨#[108, 97, 119, 95, 110, 116, 48, 49, 56, 54, 95, 48, 49]⟩ := by with_unfolding_all rfl
    have e138 : ofString "_law_deck" = ⟨#[95, 108, 97, 119, 95, 100, 101, 99, 107]⟩ := by with_unfolding_all rfl
    have e145 : ofString "_law_draw" = ⟨#[95, 108, 97, 119, 95, 100, 114, 97, 119]⟩ := by with_unfolding_all rfl
    have e150 : ofString "_law_plain" = ⟨#[95, 108, 97, 119, 95, 112, 108, 97, 105, 110]⟩ := by with_unfolding_all rfl
    have e159 : ofString "_law_thing" = ⟨#[95, 108, 97, 119, 95, 116, 104, 105, 110, 103]⟩ := by with_unfolding_all rfl
    have e163 : ofString "_law_value" = ⟨#[95, 108, 97, 119, 95, 118, 97, 108, 117, 101]⟩ := by with_unfolding_all rfl
    have e168 : ofString "_law_make" = ⟨#[95, 108, 97, 119, 95, 109, 97, 107, 101]⟩ := by with_unfolding_all rfl
    have e171 : ofString "_law_change" = ⟨#[95, 108, 97, 119, 95, 99, 104, 97, 110, 103, 101]⟩ := by with_unfolding_all rfl
    have e174 : ofString "_law_answers" = ⟨#[95, 108, 97, 119, 95, 97, 110, 115, 119, 101, 114, 115]⟩ := by with_unfolding_all rfl
    have e175 : ofString "_law_is_kind" = ⟨#[95, 108, 97, 119, 95, 105, 115, 95, 107, 105, 110, 100]⟩ := by with_unfolding_all rfl
    have e179 : ofString "_law_number" = ⟨#[95, 108, 97, 119, 95, 110, 117, 109, 98, 101, 114]⟩ := by with_unfolding_all rfl
    have e180 : ofString "_law_parts" = ⟨#[95, 108, 97, 119, 95, 112, 97, 114, 116, 115]⟩ := by with_unfolding_all rfl
    have e181 : ofString "_law_tells" = ⟨#[95, 108, 97, 119, 95, 116, 101, 108, 108, 115]⟩ := by with_unfolding_all rfl
    have e186 : ofString "_law_many" = ⟨#[95, 108, 97, 119, 95, 109, 97, 110, 121]⟩ := by with_unfolding_all rfl
    have e187 : ofString "law" = ⟨#[108, 97, 119]⟩ := by with_unfolding_all rfl
    have e189 : ofString "/claim/cut.py" = ⟨#[47, 99, 108, 97, 105, 109, 47, 99, 117, 116, 46, 112, 121]⟩ := by with_unfolding_all rfl
    have e190 : ofString "dict" = ⟨#[100, 105, 99, 116]⟩ := by with_unfolding_all rfl
    have e191 : ofString "__doc__" = ⟨#[95, 95, 100, 111, 99, 95, 95]⟩ := by with_unfolding_all rfl
    have e192 : ofString "__package__" = ⟨#[95, 95, 112, 97, 99, 107, 97, 103, 101, 95, 95]⟩ := by with_unfolding_all rfl
    have e193 : ofString "__loader__" = ⟨#[95, 95, 108, 111, 97, 100, 101, 114, 95, 95]⟩ := by with_unfolding_all rfl
    have e194 : ofString "__main__.__loader__#opaque" = ⟨#[95, 95, 109, 97, 105, 110, 95, 95, 46, 95, 95, 108, 111, 97, 100, 101, 114, 95, 95, 35, 111, 112, 97, 113, 117, 101]⟩ := by with_unfolding_all rfl
    have e195 : ofString "__spec__" = ⟨#[95, 95, 115, 112, 101, 99, 95, 95]⟩ := by with_unfolding_all rfl
    have e196 : ofString "__annotations__" = ⟨#[95, 95, 97, 110, 110, 111, 116, 97, 116, 105, 111, 110, 115, 95, 95]⟩ := by with_unfolding_all rfl
    have e197 : ofString "__builtins__" = ⟨#[95, 95, 98, 117, 105, 108, 116, 105, 110, 115, 95, 95]⟩ := by with_unfolding_all rfl
    have e198 : ofString "__file__" = ⟨#[95, 95, 102, 105, 108, 101, 95, 95]⟩ := by with_unfolding_all rfl
    have e199 : ofString "__cached__" = ⟨#[95, 95, 99, 97, 99, 104, 101, 100, 95, 95]⟩ := by with_unfolding_all rfl
    have e200 : ofString "__main__" = ⟨#[95, 95, 109, 97, 105, 110, 95, 95]⟩ := by with_unfolding_all rfl
    have e201 : ofString "Special.__init__" = ⟨#[83, 112, 101, 99, 105, 97, 108, 46, 95, 95, 105, 110, 105, 116, 95, 95]⟩ := by with_unfolding_all rfl
    have e202 : ofString "__module__" = ⟨#[95, 95, 109, 111, 100, 117, 108, 101, 95, 95]⟩ := by with_unfolding_all rfl
    have e203 : ofString "__firstlineno__" = ⟨#[95, 95, 102, 105, 114, 115, 116, 108, 105, 110, 101, 110, 111, 95, 95]⟩ := by with_unfolding_all rfl
    have e204 : ofString "__static_attributes__" = ⟨#[95, 95, 115, 116, 97, 116, 105, 99, 95, 97, 116, 116, 114, 105, 98, 117, 116, 101, 115, 95, 95]⟩ := by with_unfolding_all rfl
    have e205 : ofString "__dict__" = ⟨#[95, 95, 100, 105, 99, 116, 95, 95]⟩ := by with_unfolding_all rfl
    have e206 : ofString "__weakref__" = ⟨#[95, 95, 119, 101, 97, 107, 114, 101, 102, 95, 95]⟩ := by with_unfolding_all rfl
    have e207 : ofString "type" = ⟨#[116, 121, 112, 101]⟩ := by with_unfolding_all rfl
    have e208 : ofString "object" = ⟨#[111, 98, 106, 101, 99, 116]⟩ := by with_unfolding_all rfl
    have e209 : ofString "object.__new__" = ⟨#[111, 98, 106, 101, 99, 116, 46, 95, 95, 110, 101, 119, 95, 95]⟩ := by with_unfolding_all rfl
    have e210 : ofString "getset_descriptor" = ⟨#[103, 101, 116, 115, 101, 116, 95, 100, 101, 115, 99, 114, 105, 112, 116, 111, 114]⟩ := by with_unfolding_all rfl
    have e211 : ofString "function.__dict__" = ⟨#[102, 117, 110, 99, 116, 105, 111, 110, 46, 95, 95, 100, 105, 99, 116, 95, 95]⟩ := by with_unfolding_all rfl
    have e212 : ofString "function.__dict__#set" = ⟨#[102, 117, 110, 99, 116, 105, 111, 110, 46, 95, 95, 100, 105, 99, 116, 95, 95, 35, 115, 101, 116]⟩ := by with_unfolding_all rfl
    have e213 : ofString "ExceptionGroup.__weakref__" = ⟨#[69, 120, 99, 101, 112, 116, 105, 111, 110, 71, 114, 111, 117, 112, 46, 95, 95, 119, 101, 97, 107, 114, 101, 102, 95, 95]⟩ := by with_unfolding_all rfl
    have e214 : ofString "Symbol.__init__" = ⟨#[83, 121, 109, 98, 111, 108, 46, 95, 95, 105, 110, 105, 116, 95, 95]⟩ := by with_unfolding_all rfl
    have e215 : ofString "SymbolTable.__init__" = ⟨#[83, 121, 109, 98, 111, 108, 84, 97, 98, 108, 101, 46, 95, 95, 105, 110, 105, 116, 95, 95]⟩ := by with_unfolding_all rfl
    have e216 : ofString "SymbolTable.symbol" = ⟨#[83, 121, 109, 98, 111, 108, 84, 97, 98, 108, 101, 46, 115, 121, 109, 98, 111, 108]⟩ := by with_unfolding_all rfl
    have e217 : ofString "SymbolTable.fresh" = ⟨#[83, 121, 109, 98, 111, 108, 84, 97, 98, 108, 101, 46, 102, 114, 101, 115, 104]⟩ := by with_unfolding_all rfl
    have e218 : ofString "SymbolTable.by_number" = ⟨#[83, 121, 109, 98, 111, 108, 84, 97, 98, 108, 101, 46, 98, 121, 95, 110, 117, 109, 98, 101, 114]⟩ := by with_unfolding_all rfl
    have e219 : ofString "SymbolTable.find" = ⟨#[83, 121, 109, 98, 111, 108, 84, 97, 98, 108, 101, 46, 102, 105, 110, 100]⟩ := by with_unfolding_all rfl
    have e220 : ofString "SymbolTable.is_interned" = ⟨#[83, 121, 109, 98, 111, 108, 84, 97, 98, 108, 101, 46, 105, 115, 95, 105, 110, 116, 101, 114, 110, 101, 100]⟩ := by with_unfolding_all rfl
    have e221 : ofString "SymbolTable.size" = ⟨#[83, 121, 109, 98, 111, 108, 84, 97, 98, 108, 101, 46, 115, 105, 122, 101]⟩ := by with_unfolding_all rfl
    have e222 : ofString "Pair.__init__" = ⟨#[80, 97, 105, 114, 46, 95, 95, 105, 110, 105, 116, 95, 95]⟩ := by with_unfolding_all rfl
    have e223 : ofString "Char.__init__" = ⟨#[67, 104, 97, 114, 46, 95, 95, 105, 110, 105, 116, 95, 95]⟩ := by with_unfolding_all rfl
    have e224 : ofString "Text.__init__" = ⟨#[84, 101, 120, 116, 46, 95, 95, 105, 110, 105, 116, 95, 95]⟩ := by with_unfolding_all rfl
    have e225 : ofString "Vector.__init__" = ⟨#[86, 101, 99, 116, 111, 114, 46, 95, 95, 105, 110, 105, 116, 95, 95]⟩ := by with_unfolding_all rfl
    have e226 : ofString "Box.__init__" = ⟨#[66, 111, 120, 46, 95, 95, 105, 110, 105, 116, 95, 95]⟩ := by with_unfolding_all rfl
    have e227 : ofString "Promise.__init__" = ⟨#[80, 114, 111, 109, 105, 115, 101, 46, 95, 95, 105, 110, 105, 116, 95, 95]⟩ := by with_unfolding_all rfl
    have e228 : ofString "PortRef.__init__" = ⟨#[80, 111, 114, 116, 82, 101, 102, 46, 95, 95, 105, 110, 105, 116, 95, 95]⟩ := by with_unfolding_all rfl
    have e229 : ofString "Procedure.__init__" = ⟨#[80, 114, 111, 99, 101, 100, 117, 114, 101, 46, 95, 95, 105, 110, 105, 116, 95, 95]⟩ := by with_unfolding_all rfl
    have e230 : ofString "Primitive.__init__" = ⟨#[80, 114, 105, 109, 105, 116, 105, 118, 101, 46, 95, 95, 105, 110, 105, 116, 95, 95]⟩ := by with_unfolding_all rfl
    have e231 : ofString "Real.__init__" = ⟨#[82, 101, 97, 108, 46, 95, 95, 105, 110, 105, 116, 95, 95]⟩ := by with_unfolding_all rfl
    have e232 : ofString "Ratio.__init__" = ⟨#[82, 97, 116, 105, 111, 46, 95, 95, 105, 110, 105, 116, 95, 95]⟩ := by with_unfolding_all rfl
    have e233 : ofString "ObjectStore.__init__" = ⟨#[79, 98, 106, 101, 99, 116, 83, 116, 111, 114, 101, 46, 95, 95, 105, 110, 105, 116, 95, 95]⟩ := by with_unfolding_all rfl
    have e234 : ofString "ObjectStore.boolean" = ⟨#[79, 98, 106, 101, 99, 116, 83, 116, 111, 114, 101, 46, 98, 111, 111, 108, 101, 97, 110]⟩ := by with_unfolding_all rfl
    have e235 : ofString "ObjectStore.is_boolean" = ⟨#[79, 98, 106, 101, 99, 116, 83, 116, 111, 114, 101, 46, 105, 115, 95, 98, 111, 111, 108, 101, 97, 110]⟩ := by with_unfolding_all rfl
    have e236 : ofString "ObjectStore.is_true" = ⟨#[79, 98, 106, 101, 99, 116, 83, 116, 111, 114, 101, 46, 105, 115, 95, 116, 114, 117, 101]⟩ := by with_unfolding_all rfl
    have e237 : ofString "ObjectStore.empty" = ⟨#[79, 98, 106, 101, 99, 116, 83, 116, 111, 114, 101, 46, 101, 109, 112, 116, 121]⟩ := by with_unfolding_all rfl
    have e238 : ofString "ObjectStore.is_empty" = ⟨#[79, 98, 106, 101, 99, 116, 83, 116, 111, 114, 101, 46, 105, 115, 95, 101, 109, 112, 116, 121]⟩ := by with_unfolding_all rfl
    have e239 : ofString "ObjectStore.unspecified" = ⟨#[79, 98, 106, 101, 99, 116, 83, 116, 111, 114, 101, 46, 117, 110, 115, 112, 101, 99, 105, 102, 105, 101, 100]⟩ := by with_unfolding_all rfl
    have e240 : ofString "ObjectStore.unassigned" = ⟨#[79, 98, 106, 101, 99, 116, 83, 116, 111, 114, 101, 46, 117, 110, 97, 115, 115, 105, 103, 110, 101, 100]⟩ := by with_unfolding_all rfl
    have e241 : ofString "ObjectStore.is_unassigned" = ⟨#[79, 98, 106, 101, 99, 116, 83, 116, 111, 114, 101, 46, 105, 115, 95, 117, 110, 97, 115, 115, 105, 103, 110, 101, 100]⟩ := by with_unfolding_all rfl
    have e242 : ofString "ObjectStore.eof" = ⟨#[79, 98, 106, 101, 99, 116, 83, 116, 111, 114, 101, 46, 101, 111, 102]⟩ := by with_unfolding_all rfl
    have e243 : ofString "ObjectStore.is_eof" = ⟨#[79, 98, 106, 101, 99, 116, 83, 116, 111, 114, 101, 46, 105, 115, 95, 101, 111, 102]⟩ := by with_unfolding_all rfl
    have e244 : ofString "ObjectStore.pair" = ⟨#[79, 98, 106, 101, 99, 116, 83, 116, 111, 114, 101, 46, 112, 97, 105, 114]⟩ := by with_unfolding_all rfl
    have e245 : ofString "ObjectStore.is_pair" = ⟨#[79, 98, 106, 101, 99, 116, 83, 116, 111, 114, 101, 46, 105, 115, 95, 112, 97, 105, 114]⟩ := by with_unfolding_all rfl
    have e246 : ofString "ObjectStore.car" = ⟨#[79, 98, 106, 101, 99, 116, 83, 116, 111, 114, 101, 46, 99, 97, 114]⟩ := by with_unfolding_all rfl
    have e247 : ofString "ObjectStore.cdr" = ⟨#[79, 98, 106, 101, 99, 116, 83, 116, 111, 114, 101, 46, 99, 100, 114]⟩ := by with_unfolding_all rfl
    have e248 : ofString "ObjectStore.set_car" = ⟨#[79, 98, 106, 101, 99, 116, 83, 116, 111, 114, 101, 46, 115, 101, 116, 95, 99, 97, 114]⟩ := by with_unfolding_all rfl
    have e249 : ofString "ObjectStore.set_cdr" = ⟨#[79, 98, 106, 101, 99, 116, 83, 116, 111, 114, 101, 46, 115, 101, 116, 95, 99, 100, 114]⟩ := by with_unfolding_all rfl
    have e250 : ofString "ObjectStore.symbol" = ⟨#[79, 98, 106, 101, 99, 116, 83, 116, 111, 114, 101, 46, 115, 121, 109, 98, 111, 108]⟩ := by with_unfolding_all rfl
    have e251 : ofString "ObjectStore.is_symbol" = ⟨#[79, 98, 106, 101, 99, 116, 83, 116, 111, 114, 101, 46, 105, 115, 95, 115, 121, 109, 98, 111, 108]⟩ := by with_unfolding_all rfl
    have e252 : ofString "ObjectStore.symbol_number" = ⟨#[79, 98, 106, 101, 99, 116, 83, 116, 111, 114, 101, 46, 115, 121, 109, 98, 111, 108, 95, 110, 117, 109, 98, 101, 114]⟩ := by with_unfolding_all rfl
    have e253 : ofString "ObjectStore.char" = ⟨#[79, 98, 106, 101, 99, 116, 83, 116, 111, 114, 101, 46, 99, 104, 97, 114]⟩ := by with_unfolding_all rfl
    have e254 : ofString "ObjectStore.is_char" = ⟨#[79, 98, 106, 101, 99, 116, 83, 116, 111, 114, 101, 46, 105, 115, 95, 99, 104, 97, 114]⟩ := by with_unfolding_all rfl
    have e255 : ofString "ObjectStore.char_code" = ⟨#[79, 98, 106, 101, 99, 116, 83, 116, 111, 114, 101, 46, 99, 104, 97, 114, 95, 99, 111, 100, 101]⟩ := by with_unfolding_all rfl
    have e256 : ofString "ObjectStore.string" = ⟨#[79, 98, 106, 101, 99, 116, 83, 116, 111, 114, 101, 46, 115, 116, 114, 105, 110, 103]⟩ := by with_unfolding_all rfl
    have e257 : ofString "ObjectStore.is_string" = ⟨#[79, 98, 106, 101, 99, 116, 83, 116, 111, 114, 101, 46, 105, 115, 95, 115, 116, 114, 105, 110, 103]⟩ := by with_unfolding_all rfl
    have e258 : ofString "ObjectStore.string_length" = ⟨#[79, 98, 106, 101, 99, 116, 83, 116, 111, 114, 101, 46, 115, 116, 114, 105, 110, 103, 95, 108, 101, 110, 103, 116, 104]⟩ := by with_unfolding_all rfl
    have e259 : ofString "ObjectStore.string_code" = ⟨#[79, 98, 106, 101, 99, 116, 83, 116, 111, 114, 101, 46, 115, 116, 114, 105, 110, 103, 95, 99, 111, 100, 101]⟩ := by with_unfolding_all rfl
    have e260 : ofString "ObjectStore.set_string_code" = ⟨#[79, 98, 106, 101, 99, 116, 83, 116, 111, 114, 101, 46, 115, 101, 116, 95, 115, 116, 114, 105, 110, 103, 95, 99, 111, 100, 101]⟩ := by with_unfolding_all rfl
    have e261 : ofString "ObjectStore.vector" = ⟨#[79, 98, 106, 101, 99, 116, 83, 116, 111, 114, 101, 46, 118, 101, 99, 116, 111, 114]⟩ := by with_unfolding_all rfl
    have e262 : ofString "ObjectStore.is_vector" = ⟨#[79, 98, 106, 101, 99, 116, 83, 116, 111, 114, 101, 46, 105, 115, 95, 118, 101, 99, 116, 111, 114]⟩ := by with_unfolding_all rfl
    have e263 : ofString "ObjectStore.vector_length" = ⟨#[79, 98, 106, 101, 99, 116, 83, 116, 111, 114, 101, 46, 118, 101, 99, 116, 111, 114, 95, 108, 101, 110, 103, 116, 104]⟩ := by with_unfolding_all rfl
    have e264 : ofString "ObjectStore.vector_item" = ⟨#[79, 98, 106, 101, 99, 116, 83, 116, 111, 114, 101, 46, 118, 101, 99, 116, 111, 114, 95, 105, 116, 101, 109]⟩ := by with_unfolding_all rfl
    have e265 : ofString "ObjectStore.set_vector_item" = ⟨#[79, 98, 106, 101, 99, 116, 83, 116, 111, 114, 101, 46, 115, 101, 116, 95, 118, 101, 99, 116, 111, 114, 95, 105, 116, 101, 109]⟩ := by with_unfolding_all rfl
    have e266 : ofString "ObjectStore.number" = ⟨#[79, 98, 106, 101, 99, 116, 83, 116, 111, 114, 101, 46, 110, 117, 109, 98, 101, 114]⟩ := by with_unfolding_all rfl
    have e267 : ofString "ObjectStore.is_number" = ⟨#[79, 98, 106, 101, 99, 116, 83, 116, 111, 114, 101, 46, 105, 115, 95, 110, 117, 109, 98, 101, 114]⟩ := by with_unfolding_all rfl
    have e268 : ofString "ObjectStore.number_of" = ⟨#[79, 98, 106, 101, 99, 116, 83, 116, 111, 114, 101, 46, 110, 117, 109, 98, 101, 114, 95, 111, 102]⟩ := by with_unfolding_all rfl
    have e269 : ofString "ObjectStore.box" = ⟨#[79, 98, 106, 101, 99, 116, 83, 116, 111, 114, 101, 46, 98, 111, 120]⟩ := by with_unfolding_all rfl
    have e270 : ofString "ObjectStore.unbox" = ⟨#[79, 98, 106, 101, 99, 116, 83, 116, 111, 114, 101, 46, 117, 110, 98, 111, 120]⟩ := by with_unfolding_all rfl
    have e271 : ofString "ObjectStore.set_box" = ⟨#[79, 98, 106, 101, 99, 116, 83, 116, 111, 114, 101, 46, 115, 101, 116, 95, 98, 111, 120]⟩ := by with_unfolding_all rfl
    have e272 : ofString "ObjectStore.promise" = ⟨#[79, 98, 106, 101, 99, 116, 83, 116, 111, 114, 101, 46, 112, 114, 111, 109, 105, 115, 101]⟩ := by with_unfolding_all rfl
    have e273 : ofString "ObjectStore.is_promise" = ⟨#[79, 98, 106, 101, 99, 116, 83, 116, 111, 114, 101, 46, 105, 115, 95, 112, 114, 111, 109, 105, 115, 101]⟩ := by with_unfolding_all rfl
    have e274 : ofString "ObjectStore.promise_is_done" = ⟨#[79, 98, 106, 101, 99, 116, 83, 116, 111, 114, 101, 46, 112, 114, 111, 109, 105, 115, 101, 95, 105, 115, 95, 100, 111, 110, 101]⟩ := by with_unfolding_all rfl
    have e275 : ofString "ObjectStore.promise_content" = ⟨#[79, 98, 106, 101, 99, 116, 83, 116, 111, 114, 101, 46, 112, 114, 111, 109, 105, 115, 101, 95, 99, 111, 110, 116, 101, 110, 116]⟩ := by with_unfolding_all rfl
    have e276 : ofString "ObjectStore.settle" = ⟨#[79, 98, 106, 101, 99, 116, 83, 116, 111, 114, 101, 46, 115, 101, 116, 116, 108, 101]⟩ := by with_unfolding_all rfl
    have e277 : ofString "ObjectStore.port" = ⟨#[79, 98, 106, 101, 99, 116, 83, 116, 111, 114, 101, 46, 112, 111, 114, 116]⟩ := by with_unfolding_all rfl
    have e278 : ofString "ObjectStore.is_port" = ⟨#[79, 98, 106, 101, 99, 116, 83, 116, 111, 114, 101, 46, 105, 115, 95, 112, 111, 114, 116]⟩ := by with_unfolding_all rfl
    have e279 : ofString "ObjectStore.port_number" = ⟨#[79, 98, 106, 101, 99, 116, 83, 116, 111, 114, 101, 46, 112, 111, 114, 116, 95, 110, 117, 109, 98, 101, 114]⟩ := by with_unfolding_all rfl
    have e280 : ofString "ObjectStore.is_procedure" = ⟨#[79, 98, 106, 101, 99, 116, 83, 116, 111, 114, 101, 46, 105, 115, 95, 112, 114, 111, 99, 101, 100, 117, 114, 101]⟩ := by with_unfolding_all rfl
    have e281 : ofString "ObjectStore.same" = ⟨#[79, 98, 106, 101, 99, 116, 83, 116, 111, 114, 101, 46, 115, 97, 109, 101]⟩ := by with_unfolding_all rfl
    have e282 : ofString "ObjectStore.datum" = ⟨#[79, 98, 106, 101, 99, 116, 83, 116, 111, 114, 101, 46, 100, 97, 116, 117, 109]⟩ := by with_unfolding_all rfl
    have e283 : ofString "ObjectStore.from_datum" = ⟨#[79, 98, 106, 101, 99, 116, 83, 116, 111, 114, 101, 46, 102, 114, 111, 109, 95, 100, 97, 116, 117, 109]⟩ := by with_unfolding_all rfl
    funext P; delta K o2 o3 o20 o21 o34 o35 o37 o38 o39 o40 o43 o44 o46 o47 o49 o50 o52 o53 o67 o68 o70 o71 o72 o73 o88 o89 o95 o96 o102 o103 o109 o110 o116 o117 o123 o124 o130 o131 o133 o134 o135 o136 o151 o152 o154 o155 o156 o157 o172 o173 o175 o176 o177 o178 o193 o194 o196 o197 o198 o199 o214 o215 o217 o218 o219 o220 o235 o236 o238 o239 o240 o241 o256 o257 o259 o260 o261 o262 o277 o278 o280 o281 o282 o283 o298 o299 o301 o302 o303 o304 o319 o320 o322 o323 o338 o339 o341 o342 o343 o344 o352 o353 o366 o367 o369 o370 o371 o372 o380 o381 o387 o388 o394 o395 o401 o402 o408 o409 o415 o416 o422 o423 o429 o430 o436 o437 o443 o444 o450 o451 o464 o465 o471 o472 o478 o479 o485 o486 o492 o493 o499 o500 o506 o507 o513 o514 o520 o521 o527 o528 o534 o535 o541 o542 o548 o549 o555 o556 o562 o563 o569 o570 o576 o577 o583 o584 o590 o591 o597 o598 o604 o605 o611 o612 o618 o619 o625 o626 o632 o633 o639 o640 o646 o647 o653 o654 o660 o661 o667 o668 o674 o675 o681 o682 o688 o689 o695 o696 o702 o703 o709 o710 o716 o717 o723 o724 o730 o731 o737 o738 o744 o745 o751 o752 o758 o759 o765 o766 o772 o773 o779 o780 o786 o787 o793 o794 o800 o801 o807 o808 o814 o815 o817 o818 o819 o820 o828 o829 o835 o836 o840 o841 o847 o848 o854 o855 o861 o862 o868 o869 o873 o874 o880 o881 o887 o888 o892 o893 o899 o900 o904 o905 o909 o910 o914 o915 o919 o920; dsimp only
    simp (maxSteps := 10000000) only [e0, e2, e3, e4, e5, e7, e8, e9, e10, e11, e12, e13, e14, e15, e16, e17, e19, e22, e27, e30, e31, e32, e33, e34, e35, e36, e37, e38, e39, e41, e43, e45, e47, e48, e49, e51, e52, e55, e58, e59, e62, e67, e68, e69, e70, e72, e73, e75, e76, e77, e78, e79, e80, e81, e82, e84, e86, e87, e88, e89, e90, e91, e94, e95, e96, e97, e98, e99, e100, e101, e102, e104, e105, e106, e108, e109, e111, e112, e113, e114, e115, e116, e117, e118, e119, e120, e121, e122, e123, e124, e125, e126, e127, e128, e129, e130, e131, e132, e136, e137, e138, e145, e150, e159, e163, e168, e171, e174, e175, e179, e180, e181, e186, e187, e189, e190, e191, e192, e193, e194, e195, e196, e197, e198, e199, e200, e201, e202, e203, e204, e205, e206, e207, e208, e209, e210, e211, e212, e213, e214, e215, e216, e217, e218, e219, e220, e221, e222, e223, e224, e225, e226, e227, e228, e229, e230, e231, e232, e233, e234, e235, e236, e237, e238, e239, e240, e241, e242, e243, e244, e245, e246, e247, e248, e249, e250, e251, e252, e253, e254, e255, e256, e257, e258, e259, e260, e261, e262, e263, e264, e265, e266, e267, e268, e269, e270, e271, e272, e273, e274, e275, e276, e277, e278, e279, e280, e281, e282, e283, stm_C, mth_C]
    exact rfl
  case f => exact fun _ => ?s
theorem kc_k : KC = K := rfl

noncomputable def as : List Addr := [2, 3, 20, 21, 34, 35, 37, 38, 39, 40, 43, 44, 46, 47, 49, 50, 52, 53, 67, 68, 70, 71, 72, 73, 88, 89, 95, 96, 102, 103, 109, 110, 116, 117, 123, 124, 130, 131, 133, 134, 135, 136, 151, 152, 154, 155, 156, 157, 172, 173, 175, 176, 177, 178, 193, 194, 196, 197, 198, 199, 214, 215, 217, 218, 219, 220, 235, 236, 238, 239, 240, 241, 256, 257, 259, 260, 261, 262, 277, 278, 280, 281, 282, 283, 298, 299, 301, 302, 303, 304, 319, 320, 322, 323, 338, 339, 341, 342, 343, 344, 352, 353, 366, 367, 369, 370, 371, 372, 380, 381, 387, 388, 394, 395, 401, 402, 408, 409, 415, 416, 422, 423, 429, 430, 436, 437, 443, 444, 450, 451, 464, 465, 471, 472, 478, 479, 485, 486, 492, 493, 499, 500, 506, 507, 513, 514, 520, 521, 527, 528, 534, 535, 541, 542, 548, 549, 555, 556, 562, 563, 569, 570, 576, 577, 583, 584, 590, 591, 597, 598, 604, 605, 611, 612, 618, 619, 625, 626, 632, 633, 639, 640, 646, 647, 653, 654, 660, 661, 667, 668, 674, 675, 681, 682, 688, 689, 695, 696, 702, 703, 709, 710, 716, 717, 723, 724, 730, 731, 737, 738, 744, 745, 751, 752, 758, 759, 765, 766, 772, 773, 779, 780, 786, 787, 793, 794, 800, 801, 807, 808, 814, 815, 817, 818, 819, 820, 828, 829, 835, 836, 840, 841, 847, 848, 854, 855, 861, 862, 868, 869, 873, 874, 880, 881, 887, 888, 892, 893, 899, 900, 904, 905, 909, 910, 914, 915, 919, 920]
theorem as_K : ∀ P, as = (K P).map (·.1) := fun _ => rfl
noncomputable def hook : Hook := kHook K as as_K

-- the view: the law alone
noncomputable def q : Program := { PySem.Challenge.pw_nt0186_01 with main := { PySem.Challenge.pw_nt0186_01.main with body := [stm 55] } }
noncomputable def qC : Program := { P1 with main := { P1.main with body := [stmC 55] } }
noncomputable def loose : List PySem.Str := [ofString "_wall", ofString "Special", ofString "EMPTY", ofString "UNSPECIFIED", ofString "UNASSIGNED", ofString "EOF", ofString "Symbol", ofString "SymbolTable", ofString "Pair", ofString "Char", ofString "Text", ofString "Vector", ofString "Box", ofString "Promise", ofString "PortRef", ofString "Procedure", ofString "Primitive", ofString "Real", ofString "same_real", ofString "Ratio", ofString "is_whole", ofString "is_exact", ofString "top_of", ofString "bottom_of", ofString "gcd_of", ofString "made", ofString "ratio_of", ofString "is_equal_exact", ofString "is_inexact", ofString "is_number", ofString "is_number_numkinds", ofString "same_number", ofString "ObjectStore", ofString "prim_boolean_p", ofString "prim_not", ofString "_law_deck", ofString "_law_draw", ofString "_law_plain", ofString "_law_thing", ofString "_law_value", ofString "_law_make", ofString "_law_change", ofString "_law_answers", ofString "_law_is_kind", ofString "_law_number", ofString "_law_parts", ofString "_law_tells", ofString "_law_many"]
set_option simprocs false in
noncomputable def looseC : List PySem.Str := by
  refine (?f : loose = ?s → List PySem.Str) ?h
  case h =>
    have e0 : ofString "_wall" = ⟨#[95, 119, 97, 108, 108]⟩ := by with_unfolding_all rfl
    have e4 : ofString "Special" = ⟨#[83, 112, 101, 99, 105, 97, 108]⟩ := by with_unfolding_all rfl
    have e8 : ofString "EMPTY" = ⟨#[69, 77, 80, 84, 89]⟩ := by with_unfolding_all rfl
    have e10 : ofString "UNSPECIFIED" = ⟨#[85, 78, 83, 80, 69, 67, 73, 70, 73, 69, 68]⟩ := by with_unfolding_all rfl
    have e12 : ofString "UNASSIGNED" = ⟨#[85, 78, 65, 83, 83, 73, 71, 78, 69, 68]⟩ := by with_unfolding_all rfl
    have e14 : ofString "EOF" = ⟨#[69, 79, 70]⟩ := by with_unfolding_all rfl
    have e16 : ofString "Symbol" = ⟨#[83, 121, 109, 98, 111, 108]⟩ := by with_unfolding_all rfl
    have e19 : ofString "SymbolTable" = ⟨#[83, 121, 109, 98, 111, 108, 84, 97, 98, 108, 101]⟩ := by with_unfolding_all rfl
    have e34 : ofString "Pair" = ⟨#[80, 97, 105, 114]⟩ := by with_unfolding_all rfl
    have e37 : ofString "Char" = ⟨#[67, 104, 97, 114]⟩ := by with_unfolding_all rfl
    have e39 : ofString "Text" = ⟨#[84, 101, 120, 116]⟩ := by with_unfolding_all rfl
    have e41 : ofString "Vector" = ⟨#[86, 101, 99, 116, 111, 114]⟩ := by with_unfolding_all rfl
    have e43 : ofString "Box" = ⟨#[66, 111, 120]⟩ := by with_unfolding_all rfl
    have e45 : ofString "Promise" = ⟨#[80, 114, 111, 109, 105, 115, 101]⟩ := by with_unfolding_all rfl
    have e47 : ofString "PortRef" = ⟨#[80, 111, 114, 116, 82, 101, 102]⟩ := by with_unfolding_all rfl
    have e48 : ofString "Procedure" = ⟨#[80, 114, 111, 99, 101, 100, 117, 114, 101]⟩ := by with_unfolding_all rfl
    have e49 : ofString "Primitive" = ⟨#[80, 114, 105, 109, 105, 116, 105, 118, 101]⟩ := by with_unfolding_all rfl
    have e52 : ofString "Real" = ⟨#[82, 101, 97, 108]⟩ := by with_unfolding_all rfl
    have e55 : ofString "same_real" = ⟨#[115, 97, 109, 101, 95, 114, 101, 97, 108]⟩ := by with_unfolding_all rfl
    have e59 : ofString "Ratio" = ⟨#[82, 97, 116, 105, 111]⟩ := by with_unfolding_all rfl
    have e62 : ofString "is_whole" = ⟨#[105, 115, 95, 119, 104, 111, 108, 101]⟩ := by with_unfolding_all rfl
    have e67 : ofString "is_exact" = ⟨#[105, 115, 95, 101, 120, 97, 99, 116]⟩ := by with_unfolding_all rfl
    have e68 : ofString "top_of" = ⟨#[116, 111, 112, 95, 111, 102]⟩ := by with_unfolding_all rfl
    have e69 : ofString "bottom_of" = ⟨#[98, 111, 116, 116, 111, 109, 95, 111, 102]⟩ := by with_unfolding_all rfl
    have e70 : ofString "gcd_of" = ⟨#[103, 99, 100, 95, 111, 102]⟩ := by with_unfolding_all rfl
    have e72 : ofString "made" = ⟨#[109, 97, 100, 101]⟩ := by with_unfolding_all rfl
    have e73 : ofString "ratio_of" = ⟨#[114, 97, 116, 105, 111, 95, 111, 102]⟩ := by with_unfolding_all rfl
    have e75 : ofString "is_equal_exact" = ⟨#[105, 115, 95, 101, 113, 117, 97, 108, 95, 101, 120, 97, 99, 116]⟩ := by with_unfolding_all rfl
    have e77 : ofString "is_inexact" = ⟨#[105, 115, 95, 105, 110, 101, 120, 97, 99, 116]⟩ := by with_unfolding_all rfl
    have e78 : ofString "is_number" = ⟨#[105, 115, 95, 110, 117, 109, 98, 101, 114]⟩ := by with_unfolding_all rfl
    have e79 : ofString "is_number_numkinds" = ⟨#[105, 115, 95, 110, 117, 109, 98, 101, 114, 95, 110, 117, 109, 107, 105, 110, 100, 115]⟩ := by with_unfolding_all rfl
    have e80 : ofString "same_number" = ⟨#[115, 97, 109, 101, 95, 110, 117, 109, 98, 101, 114]⟩ := by with_unfolding_all rfl
    have e82 : ofString "ObjectStore" = ⟨#[79, 98, 106, 101, 99, 116, 83, 116, 111, 114, 101]⟩ := by with_unfolding_all rfl
    have e132 : ofString "prim_boolean_p" = ⟨#[112, 114, 105, 109, 95, 98, 111, 111, 108, 101, 97, 110, 95, 112]⟩ := by with_unfolding_all rfl
    have e136 : ofString "prim_not" = ⟨#[112, 114, 105, 109, 95, 110, 111, 116]⟩ := by with_unfolding_all rfl
    have e138 : ofString "_law_deck" = ⟨#[95, 108, 97, 119, 95, 100, 101, 99, 107]⟩ := by with_unfolding_all rfl
    have e145 : ofString "_law_draw" = ⟨#[95, 108, 97, 119, 95, 100, 114, 97, 119]⟩ := by with_unfolding_all rfl
    have e150 : ofString "_law_plain" = ⟨#[95, 108, 97, 119, 95, 112, 108, 97, 105, 110]⟩ := by with_unfolding_all rfl
    have e159 : ofString "_law_thing" = ⟨#[95, 108, 97, 119, 95, 116, 104, 105, 110, 103]⟩ := by with_unfolding_all rfl
    have e163 : ofString "_law_value" = ⟨#[95, 108, 97, 119, 95, 118, 97, 108, 117, 101]⟩ := by with_unfolding_all rfl
    have e168 : ofString "_law_make" = ⟨#[95, 108, 97, 119, 95, 109, 97, 107, 101]⟩ := by with_unfolding_all rfl
    have e171 : ofString "_law_change" = ⟨#[95, 108, 97, 119, 95, 99, 104, 97, 110, 103, 101]⟩ := by with_unfolding_all rfl
    have e174 : ofString "_law_answers" = ⟨#[95, 108, 97, 119, 95, 97, 110, 115, 119, 101, 114, 115]⟩ := by with_unfolding_all rfl
    have e175 : ofString "_law_is_kind" = ⟨#[95, 108, 97, 119, 95, 105, 115, 95, 107, 105, 110, 100]⟩ := by with_unfolding_all rfl
    have e179 : ofString "_law_number" = ⟨#[95, 108, 97, 119, 95, 110, 117, 109, 98, 101, 114]⟩ := by with_unfolding_all rfl
    have e180 : ofString "_law_parts" = ⟨#[95, 108, 97, 119, 95, 112, 97, 114, 116, 115]⟩ := by with_unfolding_all rfl
    have e181 : ofString "_law_tells" = ⟨#[95, 108, 97, 119, 95, 116, 101, 108, 108, 115]⟩ := by with_unfolding_all rfl
    have e186 : ofString "_law_many" = ⟨#[95, 108, 97, 119, 95, 109, 97, 110, 121]⟩ := by with_unfolding_all rfl
    delta loose
    simp (maxSteps := 10000000) only [e0, e4, e8, e10, e12, e14, e16, e19, e34, e37, e39, e41, e43, e45, e47, e48, e49, e52, e55, e59, e62, e67, e68, e69, e70, e72, e73, e75, e77, e78, e79, e80, e82, e132, e136, e138, e145, e150, e159, e163, e168, e171, e174, e175, e179, e180, e181, e186]
    exact rfl
  case f => exact fun _ => ?s
noncomputable def lawC : PySem.Str := ⟨#[108, 97, 119]⟩
set_option simprocs false in
noncomputable def rwC : OpenLaw := by
  refine (?f : PySem.Challenge.rw_nt0186_01 = ?s → OpenLaw) ?h
  case h =>
    have e82 : ofString "ObjectStore" = ⟨#[79, 98, 106, 101, 99, 116, 83, 116, 111, 114, 101]⟩ := by with_unfolding_all rfl
    have e128 : ofString "same" = ⟨#[115, 97, 109, 101]⟩ := by with_unfolding_all rfl
    have e187 : ofString "law" = ⟨#[108, 97, 119]⟩ := by with_unfolding_all rfl
    delta PySem.Challenge.rw_nt0186_01; have ep : PySem.Challenge.pw_nt0186_01 = P1 := rfl
    simp (maxSteps := 10000000) only [e82, e128, e187, ep]
    exact rfl
  case f => exact fun _ => ?s
noncomputable def recsC : WRecords := []
noncomputable def xt (s : Shared) : Bool := xlAt q [] s && recOk (RowW.records PySem.Challenge.rw_nt0186_01.row.toRowW) s

noncomputable def z0 : Pos := ⟨0, 0, 0, 0⟩
noncomputable def env0 : Env := { scope := P1.main.scope, locals := mainNs, globals := mainNs, cells := [], code := .ref 13, frame := some 14 }
noncomputable def code0 : Code := .body (behindTheImports P1) env0
noncomputable def b11 : Obj := ⟨.type "tuple", none, .seq #[] 0, #[]⟩
noncomputable def b12 : Obj := ⟨.none, none, .fields #[], #[]⟩
noncomputable def b13 : Obj := ⟨.type "code", none, .fields #[.str (ofString "<module>") 182, .str (ofString "<module>") 183, .str (ofString "/claim/cut.py") 184, .int 1 0, .int 0 0, .int 0 0, .int 0 0, .int 0 0, .ref 11, .bool false, .int 181 0, .ref 12, .none, .none, .none, .none, .int 185 0, .int 1 0, .str (ofString "/claim/cut.py") 186], #[]⟩
noncomputable def b14 : Obj := ⟨.type "frame", none, .plain, #[some (.ref 13), some (.ref 3), some (.ref 3), none, some (.str (ofString "__main__") 164), none, some (.ref 0)]⟩
noncomputable def heap0 (P : Params) : Heap := ⟨⟨[boot_o_0 P, boot_o_1 P, boot_o_2 P, boot_o_3 P, boot_o_4 P, boot_o_5 P, boot_o_6 P, boot_o_7 P, boot_o_8 P, boot_o_9 P, boot_o_10 P, b11, b12, b13, b14]⟩, {}⟩
noncomputable def tree0 (P : Params) : BT :=
  .node (boot_o_0 P)
    (.node (boot_o_1 P)
      (.node (boot_o_3 P) (.node (boot_o_7 P) .nil .nil) (.node b11 .nil .nil))
      (.node (boot_o_5 P) (.node (boot_o_9 P) .nil .nil) (.node b13 .nil .nil)))
    (.node (boot_o_2 P)
      (.node (boot_o_4 P) (.node (boot_o_8 P) .nil .nil) (.node b12 .nil .nil))
      (.node (boot_o_6 P) (.node (boot_o_10 P) .nil .nil) (.node b14 .nil .nil)))
noncomputable def st0 (w : World) (os : OsState) : SharedT := { tree := tree0 w.params, n := 15, life := {}, gens := #[], drawn := {}, toks := 187, os := os }
noncomputable def ann0 : Option Value := some (.ref 6)

noncomputable def pre (w : World) (os : OsState) := topGo treeTable P1 w 11 ann0 12 ⟨boot_heap w.params, Array.mk [], boot_drawn, boot_toks, os⟩ (topStub P1)
noncomputable def preR (w : World) (os : OsState) : Option (Shared × Thread) := some (⟨heap0 w.params, #[], {}, 187, os⟩, ⟨denote treeTable code0, code0, z0, [topFrame z0]⟩)
noncomputable def blk (w : World) (os : OsState) := segRun treeTable P1 w 11 ann0 1 1 ⟨heap0 w.params, #[], {}, 187, os⟩ (blockOf (behindTheImports P1) env0 code0 z0 [topFrame z0])
noncomputable def blkR (w : World) (os : OsState) : Option (Flow × Shared × Code × Pos) := some (.next, (st0 w os).abs, code0, z0)
noncomputable def szL (w : World) := ((boot_heap w.params).isNs mainGlobals && (Array.mk [] : Array GenState).size == 0, (boot_heap w.params).objs.size, (boot_heap w.params).nsMap mainGlobals "__annotations__")
noncomputable def szR (_ : World) : Bool × Nat × Option Value := (true, 11, ann0)

noncomputable def endOk (w : World) (s : Shared) : Bool := staticsOk (importedModules P1.main.body) (boot_heap w.params) s.heap && namesBound P1 s.heap && gensDone s && laidKept (boot_heap w.params) s.heap
noncomputable def xtC (s : Shared) : Bool := xlAt qC [] s && recOk (recsC) s
noncomputable def look (w : World) (os : OsState) :=
  (segRunT treeTable P1 w 11 ann0 1 6700 (st0 w os) (piecesOf (behindTheImports P1) env0 code0 z0 [topFrame z0])).map fun r =>
    (r.1, r.2.2.1, endOk w r.2.1.abs, openSeen qC looseC (importedModules P1.main.body) xtC true r.2.1.abs, as.map r.2.1.abs.heap.get?)
noncomputable def good (w : World) := some (Flow.next, code0, true, openGood qC looseC, (KC w.params).map fun p => some p.2)

theorem pre_self : pre = pre := rfl
theorem preR_self : preR = preR := rfl
theorem blk_self : blk = blk := rfl
theorem blkR_self : blkR = blkR := rfl
theorem szL_self : szL = szL := rfl
theorem look_self : look = look := rfl
theorem good_self : good = good := rfl
end Mine
set_option maxHeartbeats 0
name_quick mPre for Mine.pre by Mine.pre_self
name_quick mPreR for Mine.preR by Mine.preR_self
name_quick mBlk for Mine.blk by Mine.blk_self
name_quick mBlkR for Mine.blkR by Mine.blkR_self
name_quick mSzL for Mine.szL by Mine.szL_self
name_quick mLook for Mine.look by Mine.look_self
name_quick mGood for Mine.good by Mine.good_self
namespace Mine
open PySem.W.Fast
open PySem.Str (ofString)
theorem pre_q : ∀ w os, mPre w os = mPreR w os := fun _ _ => by kernel_rfl
theorem pre_ok (w : World) (os : OsState) : pre w os = preR w os := by rw [mPre_eq, mPreR_eq]; exact pre_q w os
theorem blk_q : ∀ w os, mBlk w os = mBlkR w os := fun _ _ => by kernel_rfl
theorem blk_ok (w : World) (os : OsState) : blk w os = blkR w os := by rw [mBlk_eq, mBlkR_eq]; exact blk_q w os
theorem sz_q : ∀ w, mSzL w = szR w := fun _ => by kernel_rfl
theorem sz_ok (w : World) : szL w = szR w := by rw [mSzL_eq]; exact sz_q w
theorem look_q : ∀ w os, mLook w os = mGood w := fun _ _ => by kernel_rfl
theorem look_ok (w : World) (os : OsState) : look w os = good w := by rw [mLook_eq, mGood_eq]; exact look_q w os

theorem fin_ok (w : World) (s : Shared) (c : Code) (z : Pos) : topRun treeTable P1 w 11 ann0 2 s ⟨doneF .next, c, z, [topFrame z0]⟩ = some s := by
  obtain ⟨h, g, d, t, os⟩ := s
  rfl

theorem left_of {p q : Program} {loose : List PySem.Str} {Xt : Shared → Bool} {α : Type} {Yf : Shared → α} {Ya : World → α} {N : Nat} {g0 : Bool} {H₀ : Params → Heap} {gs₀ : Array GenState} {d₀ : Drawn} {k₀ m₀ : Nat} {ann : Option Value} {M : Nat}
    (open_ : ∀ w : World, (fencedOpening treeTable p w N).map (fun s => (s.heap, s.gens, s.drawn, s.toks)) = some (H₀ w.params, gs₀, d₀, k₀))
    (size : ∀ w : World, ((H₀ w.params).isNs mainGlobals && gs₀.size == 0, (H₀ w.params).objs.size, (H₀ w.params).nsMap mainGlobals "__annotations__") = (true, m₀, ann))
    (run : ∀ (w : World) (os : OsState), ∃ s₁, topRun treeTable p w m₀ ann M ⟨H₀ w.params, gs₀, d₀, k₀, os⟩ (topStub p) = some s₁ ∧
      (staticsOk (importedModules p.main.body) (H₀ w.params) s₁.heap && namesBound p s₁.heap && gensDone s₁ && laidKept (H₀ w.params) s₁.heap) = true ∧
      openSeen q loose (importedModules p.main.body) Xt g0 s₁ = openGood q loose ∧ Yf s₁ = Ya w)
    (le : Nat.ble M N = true) : LeftO p q loose Xt Yf Ya N g0 := fun w => by
  obtain ⟨⟨h, gs, d, k, os⟩, e, e'⟩ := Option.map_eq_some_iff.mp (open_ w)
  obtain ⟨rfl, rfl, rfl, rfl⟩ : h = H₀ w.params ∧ gs = gs₀ ∧ d = d₀ ∧ k = k₀ := by simpa using e'
  obtain ⟨z1, z2, z3⟩ : _ ∧ _ ∧ _ := by simpa only [Prod.mk.injEq] using size w
  obtain ⟨s₁, r0, l1, l2, l3⟩ := run w os
  have r := topRun_mono (N - M) _ _ _ _ r0
  rw [show M + (N - M) = N by have := Nat.le_of_ble_eq_true le; omega] at r
  have t : topFrom treeTable p w N ⟨H₀ w.params, gs, d, k, os⟩ = some s₁ := by
    unfold topFrom
    dsimp only
    rw [z1, z2, z3, r]
    show (match staticsOk (importedModules p.main.body) (H₀ w.params) s₁.heap && namesBound p s₁.heap && gensDone s₁ && laidKept (H₀ w.params) s₁.heap with | true => _ | false => _) = _
    rw [l1]
  unfold openEnds
  rw [e]
  show (topFrom treeTable p w N _).map _ = _
  rw [t]
  exact congrArg some (Prod.ext l2 l3)

theorem run_ok (w : World) (os : OsState) : ∃ s₁, topRun treeTable P1 w 11 ann0 (12 + (1 + (6700 + 2))) ⟨boot_heap w.params, Array.mk [], boot_drawn, boot_toks, os⟩ (topStub P1) = some s₁ ∧
    endOk w s₁ = true ∧ openSeen qC looseC (importedModules P1.main.body) xtC true s₁ = openGood qC looseC ∧ as.map s₁.heap.get? = (K w.params).map fun p => some p.2 := by
  obtain ⟨⟨f, s, c, z⟩, e, e'⟩ := Option.map_eq_some_iff.mp (look_ok w os)
  simp only [Prod.mk.injEq] at e'
  obtain ⟨rfl, rfl, a1, a2, a3⟩ := e'
  refine ⟨s.abs, ?_, a1, a2, a3⟩
  have m := segRun_of e
  have k := piece_app (rest := []) (N := 2) m (piece_nil (fin_ok w s.abs _ z))
  rw [List.append_nil] at k
  exact go_top (pre_ok w os) (piece_block (blk_ok w os) k)

theorem opens : opening P1 = plainProg P1.main.scope.names := by kernel_rfl
theorem fenced (s : Shared) : fenceModules? P1 s = some s := by kernel_rfl
theorem leftC : LeftO P1 qC looseC xtC hook.obs hook.val 7000 true :=
  left_of (boot_open opens (by decide) fenced) sz_ok run_ok (by decide)
theorem left : LeftO PySem.Challenge.pw_nt0186_01 q loose xt hook.obs hook.val 7000 true := leftC

noncomputable def rec0C : DefRec := { name := lawC, params := sPar (stmC 55), body := sBody (stmC 55), scope := sScope (stmC 55), pos := sPos (stmC 55) }
theorem d1C : defOf qC lawC = some (rec0C, []) := by kernel_rfl
theorem d2C : P1.theDef lawC = some (sPar (stmC 55), sBody (stmC 55), sScope (stmC 55)) := by kernel_rfl
theorem d3C : kwWritten? (sPar (stmC 55)).kwonlyargs (sPar (stmC 55)).kw_defaults = some [] := by kernel_rfl
noncomputable def rec0 : DefRec := { name := ofString "law", params := sPar (stm 55), body := sBody (stm 55), scope := sScope (stm 55), pos := sPos (stm 55) }
set_option maxHeartbeats 8000000 in
theorem head (hc : WalkO q loose (XL q []) (kHook K as as_K).says PySem.Challenge.rw_nt0186_01.row.toRowW rec0 [] fun f vs => PySem.call f vs) : PySem.Challenge.rw_nt0186_01.Holds := by
  have h : rwC.Holds := by
    w_on
    o_law
    rename_i said
    show PySem.Challenge.rw_nt0186_01.row.Holds
    refine holds_open (q := q) (loose := loose) (Xt := xt) (XP := XL q []) (Yf := hook.obs) (Ya := hook.val) (YP := hook.says) (N := 7000) left hook.of hook.keeps (fun s e => xl_of s (Bool.and_eq_true_iff.mp e).1) XL.keeps d1C d2C d3C (fun s e => recFacts_of (Bool.and_eq_true_iff.mp e).2) (by rfl) said (by decide +kernel) ⟨rfl, rfl, rfl, rfl, rfl, by decide +kernel⟩ ?hw hc
    case hw => w_witness2
  exact h
end Mine
end
open PySem PySem.W PyProof.Rows PySem.Calls
set_option maxRecDepth 100000
set_option maxHeartbeats 8000000
set_option linter.unusedVariables false
set_option linter.unusedSimpArgs false
namespace Mine
open PySem.Str (ofString)
theorem wOff : True := by
  w_top off
  trivial
theorem fillAll : PySem.Challenge.rw_nt0186_01 = PySem.Challenge.rw_nt0186_01 ∧ K = K := by
  k_fill
  k_with "evs" =>
    (repeat' (first | exact evs_nil | refine evs_int ?_ | refine evs_str ?_ | refine evs_none ?_ | refine evs_bool ?_ | (refine' evs_loc ?F7 ?v7 ?a7 ?b7 ?d7 ?_; (case F7 => k_asm); (case a7 => rfl); (case b7 => rfl); (case d7 => decide); (case v7 => rfl)) | (refine' evs_cell ?N7 ?c7 ?m7 ?d7 ?a7 ?b7 ?e7 ?_; (case a7 => rfl); (case b7 => rfl); (case e7 => decide); (case N7 => k_asm); (case c7 => rfl); (case m7 => k_mem); (case d7 => k_asm)) | (refine' evs_K ?F7 ?X7 ?T7 ?e7 ?a7 ?b7 ?d7 ?_; (case a7 => rfl); (case b7 => rfl); (case F7 => k_asm); (case X7 => k_asm); (case T7 => k_asm); (case e7 => k_is); (case d7 => decide)) | (refine' evs_B ?F7 ?X7 ?T7 ?e7 ?v7 ?n7 ?a7 ?b7 ?d7 ?_; (case a7 => rfl); (case b7 => rfl); (case F7 => k_asm); (case X7 => k_asm); (case T7 => k_asm); (case e7 => k_is); (case v7 => boot_fast); (case n7 => decide); (case d7 => decide)) | fail "no arg"))
  k_with "isi" =>
    (with_reducible show wpAny _ _ (call (Value.builtin _) [_, _]) _ _ _); (with_reducible show wpAny _ _ (call (Value.builtin "isinstance") _) _ _ _); k_dflt (first | (refine' isi_any ?X ?hv ?S ?hc ?_; (case X => k_in); (case hv => assumption); (case S => (repeat (first | exact stays_refl | with_reducible assumption | refine stays_step (by with_reducible assumption) ?_))); (case hc => k_mem)) | (refine' isi_int ?X ?hv ?S ?hc ?_; (case X => k_in); (case hv => assumption); (case S => (repeat (first | exact stays_refl | with_reducible assumption | refine stays_step (by with_reducible assumption) ?_))); (case hc => rfl))); intro _
  k_with "def" =>
    (with_reducible show wpAny _ _ (call (Value.ref _) _) _ _ _); k_dflt (refine wpAny_call ?_; refine' code_defZ ?k1 ?k2 ?k3 ?k4 ?k5 ?k6 ?k7 ?k8 ?k9 ?_ ?c2 ?c3 ?c4 ?c5; (case k1 => k_asm); (case k2 => k_asm); (case k3 => k_asm); (case k4 => k_asm); (case k5 => k_is); (case k6 => k_is); (case k7 => k_room); (case k8 => exact BindsTo.of_eq rfl); (case k9 => exact locs rfl); (case c2 => exact rfl); (case c3 => exact rfl); (case c4 => exact rfl); (case c5 => decide)); intro g' L' h' tk' FG' F' N' l1 X' T'; (try k_lt l1); (try dsimp only); (try k_fold)
  k_with "cls" =>
    (with_reducible show wpAny _ _ (call (Value.ref _) _) _ _ _); k_dflt (refine' call_cls ?k1 ?k2 ?k3 ?k4 ?k5 ?k6 ?_; (case k1 => k_asm); (case k2 => k_asm); (case k3 => k_asm); (case k4 => k_is); (case k5 => k_is); (case k6 => k_is); k_whole); intro x' d' h' F' N' l1 l2; (try k_lt l1); (try k_lt2 l2); (try k_sweep); k_dflt (refine' code_defZ ?k1 ?k2 ?k3 ?k4 ?k5 ?k6 ?k7 ?k8 ?k9 ?_ ?c2 ?c3 ?c4 ?c5; (case k1 => k_asm); (case k2 => k_asm); (case k3 => k_asm); (case k4 => k_asm); (case k5 => k_is); (case k6 => k_is); (case k7 => k_room); (case k8 => exact BindsTo.of_eq rfl); (case k9 => exact locs rfl); (case c2 => exact rfl); (case c3 => exact rfl); (case c4 => exact rfl); (case c5 => decide)); intro g' L' h' tk' FG' F' N' l1 X' T'; (try k_lt l1); (try dsimp only); (try k_fold)
  k_with "attr" =>
    (with_reducible show wpAny _ _ (getAttr (Value.ref _) _ _) _ _ _); k_dflt (refine' get_own ?k1 ?k2 ?k3 ?k4 ?k5 ?k6 ?k7 ?k8 ?k9 ?_; (case k1 => k_asm); (case k2 => k_asm); (case k3 => (refine instAt_stays (by with_reducible assumption) ?_; (repeat (first | exact stays_refl | with_reducible assumption | refine stays_step (by with_reducible assumption) ?_)))); (case k4 => k_is); (case k5 => k_is); (case k6 => k_is); (case k7 => k_is); (case k8 => k_get); (case k9 => k_handed); k_whole)
  k_with "meth" =>
    (with_reducible show wpAny _ _ (getMethod (Value.ref _) _ _) _ _ _); k_dflt (refine' method_inst ?k1 ?k2 ?k3 ?k4 ?k5 ?k6 ?k7 ?_; (case k1 => k_asm); (case k2 => k_asm); (case k3 => (refine instAt_stays (by with_reducible assumption) ?_; (repeat (first | exact stays_refl | with_reducible assumption | refine stays_step (by with_reducible assumption) ?_)))); (case k4 => k_is); (case k5 => k_is); (case k6 => k_is); (case k7 => k_get); k_whole)
  k_with "cls2" =>
    (with_reducible show wpAny _ _ (call (Value.ref _) _) _ _ _); k_dflt (refine' call_cls ?k1 ?k2 ?k3 ?k4 ?k5 ?k6 ?_; (case k1 => k_asm); (case k2 => k_asm); (case k3 => k_asm); (case k4 => k_is); (case k5 => k_is); (case k6 => k_is); k_whole); intro x' d' h' F' N' l1 l2; replace l2 := lt_two (o := dictOf [] 0) l1 l2; (try k_sweep); k_dflt (refine' code_defZ ?k1 ?k2 ?k3 ?k4 ?k5 ?k6 ?k7 ?k8 ?k9 ?_ ?c2 ?c3 ?c4 ?c5; (case k1 => k_asm); (case k2 => k_asm); (case k3 => k_asm); (case k4 => k_asm); (case k5 => k_is); (case k6 => k_is); (case k7 => k_room); (case k8 => exact BindsTo.of_eq rfl); (case k9 => exact locs rfl); (case c2 => exact rfl); (case c3 => exact rfl); (case c4 => exact rfl); (case c5 => decide)); intro g' L' h' tk' FG' F' N' l1 X' T'; (try k_lt l1); (try dsimp only); (try k_fold)
  k_with "ne" =>
    (refine neN ?_; (try dsimp only); first | with_reducible assumption | exact Ne.symm (by with_reducible assumption) | exact neL (by with_reducible assumption) (by k_mem) | exact neL' (by with_reducible assumption) (by k_mem) | exact neF (by with_reducible assumption) (by k_mem) | exact neF' (by with_reducible assumption) (by k_mem) | exact neG (by with_reducible assumption) (by k_mem) (by k_ne) | exact neG' (by with_reducible assumption) (by k_mem) (by k_ne) | omega | fail "no ne")
  k_with "ne9" =>
    (refine neN ?_; (try dsimp only); first | exact neF (by with_reducible assumption) (by k_mem) | exact neF' (by with_reducible assumption) (by k_mem) | fail "no ne")
  k_with "all" =>
    first | exact List.forall_mem_nil _ | ((first | with_reducible refine' allN ?a ?b | refine' List.forall_mem_cons.mpr ⟨?a, ?b⟩); (case a => k_ne); (case b => k_all)) | exact offE (by with_reducible assumption) | exact tlL (by with_reducible assumption) (by first | exact fun _ h => h | (intro p' hp'; repeat (first | exact hp' | apply List.Mem.tail))) | fail "k_all"
  k_with "mem" =>
    first | with_reducible assumption | exact memE (by with_reducible assumption) | fail "k_mem"
  k_with "combo" =>
    first
      | ((with_reducible show wpAny _ _ (eval (Expr.Call (Expr.Name _ _) (_ :: _) [] _) _) _ _ _); k_dflt (first | (refine' callX_K ?F8 ?X8 ?T8 ?f8 ?k8 ?x8 ?d8 ?c8 ?r8 ?_; (case x8 => rfl); (case c8 => rfl); (case d8 => decide); (case F8 => k_asm); (case X8 => k_asm); (case T8 => k_asm); (case f8 => k_is); (case k8 => k_is); (case r8 => k_extra "evs")) | (refine' callX_B ?F8 ?X8 ?T8 ?f8 ?v8 ?n8 ?x8 ?d8 ?c8 ?r8 ?_; (case x8 => rfl); (case c8 => rfl); (case d8 => decide); (case F8 => k_asm); (case X8 => k_asm); (case T8 => k_asm); (case f8 => k_is); (case v8 => boot_fast); (case n8 => decide); (case r8 => k_extra "evs"))))
      | ((first | ((with_reducible show wpAny _ _ (eval (Expr.Call (Expr.Attribute (Expr.Name _ _) _ _) (_ :: _) [] _) _) _ _ _); first | (k_dflt (refine' methX_L ?F8 ?X8 ?v8 ?I8 ?g8 ?f8 ?t8 ?l8 ?k8 ?c8 ?x8 ?d8 ?r8 ?w8 ?_; (case x8 => rfl); (case c8 => rfl); (case d8 => decide); (case F8 => k_asm); (case X8 => k_asm); (case v8 => rfl); (case I8 => (refine instAt_stays (by with_reducible assumption) ?_; (repeat (first | exact stays_refl | with_reducible assumption | refine stays_step (by with_reducible assumption) ?_)))); (case g8 => k_is); (case f8 => k_is); (case t8 => k_is); (case l8 => k_get); (case k8 => k_is); (case r8 => k_extra "evs"); (case w8 => rfl))) | (k_dflt (refine' methX_C ?F8 ?X8 ?N8 ?cl8 ?m8 ?dd8 ?I8 ?g8 ?f8 ?t8 ?l8 ?k8 ?c8 ?x8 ?d8 ?r8 ?w8 ?_; (case x8 => rfl); (case c8 => rfl); (case d8 => decide); (case F8 => k_asm); (case X8 => k_asm); (case N8 => k_asm); (case cl8 => rfl); (case m8 => k_mem); (case dd8 => k_asm); (case I8 => (refine instAt_stays (by with_reducible assumption) ?_; (repeat (first | exact stays_refl | with_reducible assumption | refine stays_step (by with_reducible assumption) ?_)))); (case g8 => k_is); (case f8 => k_is); (case t8 => k_is); (case l8 => k_get); (case k8 => k_is); (case r8 => k_extra "evs"); (case w8 => rfl)))) | ((with_reducible show wpAny _ _ (eval (Expr.Call (Expr.Attribute (Expr.Name _ _) _ _) [] [] _) _) _ _ _); k_dflt (refine' methX_L0 ?F8 ?X8 ?v8 ?I8 ?g8 ?f8 ?t8 ?l8 ?k8 ?c8 ?x8 ?d8 ?w8 ?_; (case x8 => rfl); (case c8 => rfl); (case d8 => decide); (case F8 => k_asm); (case X8 => k_asm); (case v8 => rfl); (case I8 => (refine instAt_stays (by with_reducible assumption) ?_; (repeat (first | exact stays_refl | with_reducible assumption | refine stays_step (by with_reducible assumption) ?_)))); (case g8 => k_is); (case f8 => k_is); (case t8 => k_is); (case l8 => k_get); (case k8 => k_is); (case w8 => rfl)))))
      | ((with_reducible show wpAny _ _ (isTrue (Expr.Compare (Expr.Name _ _) [CmpOp.Eq] [Expr.Constant (Const.str _) _ _] _) _ _) _ _ _); k_dflt (refine' test_word ?F8 ?v8 ?c8 ?x8 ?d8 ?_; (case x8 => rfl); (case c8 => rfl); (case d8 => decide); (case F8 => k_asm); (case v8 => rfl)); (try dsimp only))
      | ((first | ((with_reducible show wpAny _ _ (execs (Stmt.If _ _ [] _ :: _) _) _ _ _); refine x_if0 ?_) | ((with_reducible show wpAny _ _ (execs [Stmt.If _ _ _ _] _) _ _ _); refine x_if1 ?_) | ((with_reducible show wpAny _ _ (execs (Stmt.If _ _ _ _ :: _) _) _ _ _); refine x_if ?_)))
      | ((with_reducible show wpAny _ _ (execs (Stmt.Return (some _) _ :: _) _) _ _ _); refine x_ret ?_)
      | ((with_reducible show wpAny _ _ (execs (Stmt.Assign [Expr.Name _ _] _ _ :: _) _) _ _ _); (fail_if_success (with_reducible show wpAny _ _ (execs (Stmt.Assign _ (Expr.ListComp _ _ _ _) _ :: _) _) _ _ _)); k_dflt (refine x_asg (by rfl) ?_))
      | ((with_reducible show wpAny _ _ (execs (Stmt.Expr _ _ :: _) _) _ _ _); k_dflt (refine x_expr (by rfl) (by rfl) ?_))
      | ((with_reducible show wpAny _ _ (eval (Expr.List (_ :: _) _) _) _ _ _); k_dflt (refine' listX ?r8 ?_; (case r8 => k_extra "evs")))
      | ((with_reducible show wpAny _ _ (eval (Expr.Tuple (_ :: _) _ _) _) _ _ _); k_dflt (refine' tupX ?r8 ?_; (case r8 => k_extra "evs")))
      | ((with_reducible show wpAny _ _ (eval (Expr.Compare _ [_] [_] _) _) _ _ _); k_dflt (refine' cmpX ?r8 ?m8 ?_; (case r8 => k_extra "evs"); (case m8 => with_unfolding_all rfl)))
      | ((with_reducible show wpAny _ _ (isTrue (Expr.Compare _ [_] [_] _) _ _) _ _ _); k_dflt (refine' tcmpX ?r8 ?m8 ?_; (case r8 => k_extra "evs"); (case m8 => with_unfolding_all rfl)))
      | ((with_reducible show wpAny _ _ (eval (Expr.BinOp _ _ _ _) _) _ _ _); k_dflt (refine' binX ?r8 ?_; (case r8 => k_extra "evs")))
      | ((with_reducible show wpAny _ _ (eval (Expr.Attribute (Expr.Name _ _) _ _) _) _ _ _); k_dflt (refine' attrX ?F8 ?v8 ?c8 ?x8 ?d8 ?_; (case x8 => rfl); (case c8 => rfl); (case d8 => decide); (case F8 => k_asm); (case v8 => rfl)))
  exact ⟨rfl, rfl⟩
abbrev P0 : Program := PySem.Challenge.pw_nt0186_01
abbrev ad (d u : Nat) : Around := { handled := none, depth := d, frames := none, guards := none, units := u }

theorem all_mem {α : Type} {p : α → Bool} {l : List α} (h : l.all p = true) {c : α} (m : c ∈ l) : p c = true := List.all_eq_true.mp h c m
theorem mem_sub {l l' : List Nat} (h : (l.all fun x => l'.contains x) = true) {c : Nat} (m : c ∈ l) : c ∈ l' := List.contains_iff_mem.mp (all_mem h m)
theorem mem_gt {n : Nat} {l : List Nat} (h : (l.all fun x => Nat.blt n x) = true) {c : Nat} (m : c ∈ l) : n < c := Nat.le_of_ble_eq_true (all_mem h m)
theorem mem_lt {n : Nat} {l : List Nat} (h : (l.all fun x => Nat.blt x n) = true) {c : Nat} (m : c ∈ l) : c < n := Nat.le_of_ble_eq_true (all_mem h m)
theorem lt8 {a : Nat} (h : a < 8) : a = 0 ∨ a = 1 ∨ a = 2 ∨ a = 3 ∨ a = 4 ∨ a = 5 ∨ a = 6 ∨ a = 7 := (by decide : ∀ a < 8, a = 0 ∨ a = 1 ∨ a = 2 ∨ a = 3 ∨ a = 4 ∨ a = 5 ∨ a = 6 ∨ a = 7) a h
theorem lt10 {a : Nat} (h : a < 10) : a = 0 ∨ a = 1 ∨ a = 2 ∨ a = 3 ∨ a = 4 ∨ a = 5 ∨ a = 6 ∨ a = 7 ∨ a = 8 ∨ a = 9 := (by decide : ∀ a < 10, a = 0 ∨ a = 1 ∨ a = 2 ∨ a = 3 ∨ a = 4 ∨ a = 5 ∨ a = 6 ∨ a = 7 ∨ a = 8 ∨ a = 9) a h
theorem nat_of {r : Int} {n : Nat} (h0 : 0 ≤ r) (h1 : r < n) : r.toNat < n := (Int.toNat_lt h0).mpr h1
theorem enter {w : World} {A : Around} {s : Shared} {base : Heap} {news : List (Addr × Obj)} {R : Result → Shared → Prop} {name qual : PySem.Str} {st : Stmt} {doc pm : Value} {c f : Addr} {args : Args} {binds : List (PySem.Str × Value)}
    {mean : ExcName → Option Value} {mg mb : PySem.Str → Option Value}
    (X : (K w.params).In base) (T : Top q (looseW q loose) mean mg mb base) (keep : ∀ b o, base.get? b = some o → s.heap.get? b = some o)
    (hN : ∀ p ∈ news, s.heap.get? p.1 = some p.2 ∧ base.get? p.1 = none)
    (ho : (K w.params).lookup f = some (fn name qual st doc pm c)) (hcd : codeIn (K w.params) (.ref c) qual = true) (hroom : A.depth < recursionLimit)
    (hbind : BindsTo s (fnOf name qual (sPar st) (sBody st) (sScope st) .none .none doc pm none (.ref c) .none) args binds) (hloc : ∀ y ∈ binds, (sScope st).names.lookup y.1 = some .local)
    (hcell : ∀ x ∈ (sScope st).names, x.2 ≠ .cell) (hco : (sScope st).isCoroutine = false) (hgen : (sScope st).isGenerator = false) (hk : (sScope st).kind = .function)
    (h : ∀ g L' h₁, g = hideAll s.heap (news.map (·.1)) → L' = s.heap.objs.size → Fr g L' h₁ (fun y => binds.reverse.lookup y) → News g L' h₁ news → (∀ p ∈ news, p.1 < L') → (K w.params).In g → Top q (looseW q loose) mean mg mb g →
      wpAny (model P0 w) (A.deeper (envOf qual (sScope st) L' f (.ref c))) (execs (sBody st) (envOf qual (sScope st) L' f (.ref c)))
        (fun fl s' => R (.ok (.ret (match fl with | .ret v => v | _ => .none))) s') (fun _ _ => False)
        { s with heap := h₁, toks := s.toks + binds.length }) :
    codeAny (model P0 w) A (.call (.ref f) args) R s := by
  have nm : ∀ b o, base.get? b = some o → b ∉ news.map (·.1) := fun b o e q => by
    obtain ⟨p, hp, rfl⟩ := List.mem_map.mp q
    rw [(hN p hp).2] at e; cases e
  have st' : ∀ b o, base.get? b = some o → (hideAll s.heap (news.map (·.1))).get? b = some o := fun b o e => hideAll_get _ (keep b o e) (nm b o e)
  refine codeAny_call_def (fd := fnOf name qual (sPar st) (sBody st) (sScope st) .none .none doc pm none (.ref c) .none) (body := sBody st) (binds := binds) hroom (keep _ _ (X _ _ ho)) rfl (T.nolimit.keeps keep) (codeRec_of (X.keeps keep) hcd) rfl hbind hcell hloc (fun h₁ hns hk₁ => ?_) hco hgen hk
  exact wpAny_mono (h _ s.heap.objs.size h₁ rfl rfl ⟨hns, fun b o e => hk₁ b o (of_hideAll _ e), Nat.le_of_eq (hideAll_size _ _)⟩
    (fun p hp => ⟨hk₁ _ _ (hN p hp).1, Nat.ne_of_lt (Heap.lt_size (hN p hp).1), hideAll_none _ (List.mem_map_of_mem hp)⟩) (fun p hp => Heap.lt_size (hN p hp).1) (X.keeps st') (T.keeps st')) (fun _ _ x => x) (fun _ _ x => x.elim)
abbrev Led := List (Addr × Obj)
theorem code_weak {M : Model} {A : Around} {d u : Nat} {c : Code} {R : Result → Shared → Prop} {s : Shared} (h : codeAny M (ad d u) c R s) (hh : A.handled = none) (hd : A.depth ≤ d) (hu : A.units ≤ u) : codeAny M A c R s :=
  fun Γ p hc ⟨b1, b2, _, _, b5⟩ => h Γ p hc ⟨b1.trans hh, Nat.le_trans b2 hd, (fun _ e => nomatch e), (fun _ e => nomatch e), Nat.le_trans b5 hu⟩

noncomputable def Keep (D : List Addr) (h h' : Heap) : Prop := ∀ b o, h.get? b = some o → b ∉ D → h'.get? b = some o
theorem Keep.refl {D : List Addr} {h : Heap} : Keep D h h := fun _ _ e _ => e
theorem Keep.trans {D : List Addr} {h h' h'' : Heap} (a : Keep D h h') (b : Keep D h' h'') : Keep D h h'' := fun x o e n => b x o (a x o e n) n
theorem Keep.mono {D D' : List Addr} {h h' : Heap} (a : Keep D h h') (s : ∀ x ∈ D, x ∈ D') : Keep D' h h' := fun x o e n => a x o e fun q => n (s x q)
theorem keep_of {g h h' : Heap} {D : List Addr} {L : Addr} {m : PySem.Str → Option Value} (hg : g = hideAll h D) (F : Fr g L h' m) : Keep D h h' := fun b o e n => F.keep b o (hg ▸ hideAll_get _ e n)

theorem led_after {h₀ h h' : Heap} {L : Addr} {m : PySem.Str → Option Value} {news news' : Led} {D : List Addr} (F : Fr h₀ L h m) (N : News h₀ L h news) (hD : ∀ a ∈ D, ∃ o, (a, o) ∈ news) (k : Keep D h h')
    (r : ∀ p ∈ news', (p ∈ news ∧ p.1 ∉ D) ∨ (p.1 ∈ D ∧ h'.get? p.1 = some p.2) ∨ (h.objs.size ≤ p.1 ∧ h'.get? p.1 = some p.2)) : Fr h₀ L h' m ∧ News h₀ L h' news' := by
  have nD : ∀ a ∈ D, a ≠ L ∧ h₀.get? a = none := fun a ha => let ⟨o, ho⟩ := hD a ha; (N _ ho).2
  obtain ⟨oL, es, ep, hL, hd, hk, hf⟩ := F.ns
  have F' : Fr h₀ L h' m := ⟨⟨oL, es, ep, k _ _ hL (fun q => (nD L q).1 rfl), hd, hk, hf⟩, fun b o e => k b o (F.keep b o e) (fun q => by have := (nD b q).2; rw [e] at this; cases this), F.above⟩
  refine ⟨F', fun p hp => ?_⟩
  rcases r p hp with ⟨a, b⟩ | ⟨a, b⟩ | ⟨a, b⟩
  · exact ⟨k _ _ (N p a).1 b, (N p a).2⟩
  · exact ⟨b, nD _ a⟩
  · refine ⟨b, Nat.ne_of_gt (Nat.lt_of_lt_of_le (Heap.lt_size hL) a), ?_⟩
    cases e : h₀.get? p.1 with
    | none => rfl
    | some o => exact absurd (Heap.lt_size (F.keep _ _ e)) (Nat.not_lt.mpr a)

inductive UpD (d c : Nat) (dO cO : Obj) : Led → (Obj → Obj → Led) → Prop
  | head {r : Led} : (∀ p ∈ r, p.1 ≠ d) → (∀ p ∈ r, p.1 ≠ c) → UpD d c dO cO ((d, dO) :: (c, cO) :: r) (fun a b => (d, a) :: (c, b) :: r)
  | tail {p : Addr × Obj} {r : Led} {g : Obj → Obj → Led} : p.1 ≠ d → p.1 ≠ c → UpD d c dO cO r g → UpD d c dO cO (p :: r) (fun a b => p :: g a b)
theorem UpD.mem {d c : Nat} {dO cO : Obj} {l : Led} {g : Obj → Obj → Led} (u : UpD d c dO cO l g) : (d, dO) ∈ l ∧ (c, cO) ∈ l ∧ ∀ a b, ∀ p ∈ g a b, (p ∈ l ∧ p.1 ≠ d ∧ p.1 ≠ c) ∨ p = (d, a) ∨ p = (c, b) := by
  induction u with
  | head h1 h2 =>
    refine ⟨by simp, by simp, fun a b p hp => ?_⟩
    rcases List.mem_cons.mp hp with rfl | hp
    · exact .inr (.inl rfl)
    rcases List.mem_cons.mp hp with rfl | hp
    · exact .inr (.inr rfl)
    exact .inl ⟨.tail _ (.tail _ hp), h1 p hp, h2 p hp⟩
  | tail h1 h2 _ ih =>
    obtain ⟨i1, i2, i3⟩ := ih
    refine ⟨.tail _ i1, .tail _ i2, fun a b p hp => ?_⟩
    rcases List.mem_cons.mp hp with rfl | hp
    · exact .inl ⟨.head _, h1, h2⟩
    rcases i3 a b p hp with ⟨x, y⟩ | x | x
    · exact .inl ⟨.tail _ x, y⟩
    · exact .inr (.inl x)
    · exact .inr (.inr x)

/-- a deck: its list at one address, the list of its cells at c -/
noncomputable def Dk (c : Nat) (dO cO : Obj) : Prop := ∃ (vs : List Value) (ns : List Int) (x k : Int) (t1 t2 : Tok) (n1 n2 : Nat), dO = listOf #[.ref c, .int x t1, .int k t2] n1 ∧ cO = listOf vs.toArray n2 ∧ IntsAre vs ns ∧ vs.length ≤ 24
theorem Dk.mk {c : Nat} {vs : List Value} {ns : List Int} {x k : Int} {t1 t2 : Tok} {n1 n2 : Nat} (hv : IntsAre vs ns) (hl : vs.length ≤ 24) : Dk c (listOf #[.ref c, .int x t1, .int k t2] n1) (listOf vs.toArray n2) := ⟨vs, ns, x, k, t1, t2, n1, n2, rfl, rfl, hv, hl⟩

theorem pop0 {prog : Program} {w : World} {A : Around} {E : Value → Shared → Prop} {s : Shared} {h₀ : Heap} {L D : Addr} {m : PySem.Str → Option Value} {news news' : Led} {x : Value} {vs : List Value} {n : Nat} {u : Tok} {Q : Value → Shared → Prop}
    (F : Fr h₀ L s.heap m) (N : News h₀ L s.heap news) (U : Upd D (listOf (x :: vs).toArray n) (listOf vs.toArray (n + 1)) news news') (hz : vs.length ≤ 24) (h : ∀ h', Fr h₀ L h' m → News h₀ L h' news' → Q x { s with heap := h' }) :
    wpAny (model prog w) A (call (.builtin "list.pop") [.ref D, .int 0 u]) Q E s :=
  kl_popAt (k := 0) (p := []) (q := vs) F N (by decide) (by simp [seqIndex?]) rfl U (by show (x :: vs).length ≤ _; rw [List.length_cons, sizeLine_eq]; omega) h
local macro_rules | `(tactic| walk_at "call builtin:list.pop") => `(tactic| (k_here; (with_reducible show wpAny _ _ (call (Value.builtin _) [Value.ref _, Value.int 0 _]) _ _ _); k_dflt (refine' pop0 ?F ?N ?U ?z ?_; (case F => k_asm); (case N => k_asm); (case U => k_upd); (case z => assumption)); intro h' F' N'))
theorem draw_spec {w : World} {mean : ExcName → Option Value} {mg mb : PySem.Str → Option Value} {base : Heap} {s : Shared} {R : Result → Shared → Prop}
    (X : (K w.params).In base) (T : Top q (looseW q loose) mean mg mb base) (keep : ∀ b o, base.get? b = some o → s.heap.get? b = some o)
    {d c : Nat} {many : Int} {t3 : Tok} {dO cO : Obj} (dc : d ≠ c) (hD : Dk c dO cO)
    (hd : s.heap.get? d = some dO) (hc : s.heap.get? c = some cO) (hd0 : base.get? d = none) (hc0 : base.get? c = none)
    (hm : 0 < many) (hm2 : many ≤ 14)
    (hR : ∀ (r : Int) (t : Tok) (dO' cO' : Obj) (h' : Heap) (tk' : Nat), 0 ≤ r → r < many → Dk c dO' cO' → Keep [d, c] s.heap h' → h'.get? d = some dO' → h'.get? c = some cO' → R (.ok (.ret (.int r t))) { s with heap := h', toks := tk' }) :
    codeAny (model P0 w) (ad 900 9000) (.call (.ref 848) ⟨[.ref d, .int many t3], []⟩) R s := by
  obtain ⟨vs, ns, x, k, t1, t2, n1, n2, rfl, rfl, hv, hl⟩ := hD
  cases hv with
  | nil =>
    refine enter (news := [(d, listOf #[.ref c, .int x t1, .int k t2] n1), (c, listOf [].toArray n2)]) X T keep (by simp [*]) (by rfl) (by rfl) (by decide) (BindsTo.of_eq rfl) (locs rfl) (by decide) rfl rfl rfl ?_
    intro g L' h₁ hg hL F' N' hlt X' T'
    k_fill
    (try k_fold)
    k_steps
    exact hR _ _ _ _ _ _ (Int.fmod_nonneg_of_pos _ hm) (Int.fmod_lt_of_pos _ hm) (Dk.mk (ns := []) .nil (by simp)) (keep_of hg (by assumption)) (News.get (by assumption) (by k_mem)) (News.get (by assumption) (by k_mem))
  | cons n t hv =>
    rename_i vs ns
    refine enter (news := [(d, listOf #[.ref c, .int x t1, .int k t2] n1), (c, listOf (Value.int n t :: vs).toArray n2)]) X T keep (by simp [*]) (by rfl) (by rfl) (by decide) (BindsTo.of_eq rfl) (locs rfl) (by decide) rfl rfl rfl ?_
    intro g L' h₁ hg hL F' N' hlt X' T'
    k_fill
    have hl' : vs.length ≤ 24 := by simp at hl; omega
    (try k_fold)
    k_steps
    all_goals (first
      | exact hR _ _ _ _ _ _ (Int.fmod_nonneg_of_pos _ hm) (Int.fmod_lt_of_pos _ hm) (Dk.mk (.cons _ _ hv) (by simpa using hl)) (keep_of hg (by assumption)) (News.get (by assumption) (by k_mem)) (News.get (by assumption) (by k_mem))
      | exact hR _ _ _ _ _ _ (Int.fmod_nonneg_of_pos _ hm) (Int.fmod_lt_of_pos _ hm) (Dk.mk hv hl') (keep_of hg (by assumption)) (News.get (by assumption) (by k_mem)) (News.get (by assumption) (by k_mem)))
/-- what a contract hands on -/
noncomputable def Ret (s : Shared) (D : List Addr) (Post : Value → Heap → Prop) : Result → Shared → Prop :=
  fun r s' => ∃ v h' tk, r = .ok (.ret v) ∧ s' = { s with heap := h', toks := tk } ∧ Keep D s.heap h' ∧ Post v h'

theorem stays_fr {h₀ h : Heap} {L : Addr} {m : PySem.Str → Option Value} (F : Fr h₀ L h m) : h₀.StaysIn h := F.keep
theorem stays_step {g h₀ h : Heap} {L : Addr} {m : PySem.Str → Option Value} (F : Fr h₀ L h m) (S : g.StaysIn h₀) : g.StaysIn h := fun b o e => F.keep b o (S b o e)
theorem stays_refl {g : Heap} : g.StaysIn g := fun _ _ e => e
local macro_rules | `(tactic| walk_at "stays") => `(tactic| first | exact stays_refl | (refine stays_fr ?_; with_reducible assumption) | (refine stays_step (by with_reducible assumption) ?_; walk_at "stays"))

section
variable {prog : Program} {w : World} {A : Around} {s : Shared} {h₀ : Heap} {L : Addr} {m mg mb : PySem.Str → Option Value} {news : Led} {p : Program} {loose : List PySem.Str} {mean : ExcName → Option Value} {K : Frag}

theorem code_def0 {R : Result → Shared → Prop} {name qual : PySem.Str} {params : Arguments} {body : List Stmt} {scope : Scope} {dV kV doc pm cdv ct oc : Value} {an od : Option Addr} {osl : Array (Option Value)} {f : Addr} {args : Args} {binds : List (PySem.Str × Value)}
    (F : Fr h₀ L s.heap m) (X₀ : K.In h₀) (N : News h₀ L s.heap news) (T : Top p loose mean mg mb h₀)
    (ho : K.lookup f = some ⟨oc, od, .func (fnOf name qual params body scope dV kV doc pm an cdv ct), osl⟩) (hcd : codeIn K cdv qual = true) (hroom : A.depth < recursionLimit)
    (hbind : BindsTo s (fnOf name qual params body scope dV kV doc pm an cdv ct) args binds) (hloc : ∀ y ∈ binds, scope.names.lookup y.1 = some .local)
    (h : ∀ g L' h₁, Fr h₀ L g m → Fr g L' h₁ (fun y => binds.reverse.lookup y) → News g L' h₁ news → (∀ p ∈ news, p.1 < L') → K.In g → Top p loose mean mg mb g →
      wpAny (model prog w) (A.deeper (envOf qual scope L' f cdv)) (execs body (envOf qual scope L' f cdv))
        (fun fl s' => LeaveK h₀ L m g R (match fl with | .ret v => v | _ => .none) s') (fun _ _ => False)
        { s with heap := h₁, toks := s.toks + binds.length })
    (hco : scope.isCoroutine = false) (hgen : scope.isGenerator = false) (hk : scope.kind = .function)
    (hcell : ∀ x ∈ scope.names, x.2 ≠ .cell) : codeAny (model prog w) A (.call (.ref f) args) R s := by
  have X := X₀.keeps F.keep
  have nm : ∀ b o, h₀.get? b = some o → b ∉ news.map (·.1) := fun b o e q => by
    obtain ⟨p, hp, rfl⟩ := List.mem_map.mp q
    rw [(N p hp).2.2] at e; cases e
  have st : h₀.StaysIn (hideAll s.heap (news.map (·.1))) := fun b o e => hideAll_get _ (F.keep b o e) (nm b o e)
  obtain ⟨oL, es, ep, hL, hLd, hLk, hLf⟩ := F.ns
  have nL : L ∉ news.map (·.1) := fun q => by
    obtain ⟨p, hp, e⟩ := List.mem_map.mp q
    exact (N p hp).2.1 e
  have hLg := hideAll_get (news.map (·.1)) hL nL
  refine codeAny_call_def (fd := fnOf name qual params body scope dV kV doc pm an cdv ct) (body := body) (binds := binds) hroom (X _ _ ho) rfl (T.nolimit.keeps F.keep) (codeRec_of X hcd) rfl hbind hcell hloc (fun h₁ hns hk₁ => ?_) hco hgen hk
  refine wpAny_mono (h _ s.heap.objs.size h₁ ⟨⟨oL, es, ep, hLg, hLd, hLk, hLf⟩, st, F.above⟩ ⟨hns, fun b o e => hk₁ b o (of_hideAll _ e), Nat.le_of_eq (hideAll_size _ _)⟩
    (fun p hp => ⟨hk₁ _ _ (N p hp).1, Nat.ne_of_lt (Heap.lt_size (N p hp).1), hideAll_none _ (List.mem_map_of_mem hp)⟩) (fun p hp => Heap.lt_size (N p hp).1) (X₀.keeps st) (T.keeps st)) (fun fl s' hl => ?_) fun _ _ y => y.elim
  obtain ⟨L', m', news', F', N', k⟩ := hl
  refine k ⟨⟨oL, es, ep, F'.keep L oL hLg, hLd, hLk, hLf⟩, fun b o e => F'.keep b o (st b o e), F.above⟩ fun p hp => ⟨(N' p hp).1, fun q => ?_, ?_⟩
  · have := (N' p hp).2.2; rw [q, hLg] at this; cases this
  · cases q : h₀.get? p.1 with
    | none => rfl
    | some o => have := (N' p hp).2.2; rw [st _ _ q] at this; cases this
end

/-- the kinds of values, by number: 0 a bool, 1 an int, the four single things by their addresses, else the class's address -/
noncomputable def kinds : List Nat := [0, 1, 342, 370, 176, 71, 281, 323, 44, 47, 50, 53, 155, 197, 218, 239, 260]
noncomputable def ty (k : Nat) : Value := if k = 0 then .type "bool" else if k = 1 then .type "int" else if k = 44 ∨ k = 47 ∨ k = 50 ∨ k = 53 then .ref 38 else .ref k
noncomputable def clsNum : List (Value × Nat) := [(.type "bool", 0), (.ref 342, 342), (.ref 370, 370), (.ref 176, 176), (.ref 71, 71), (.ref 281, 281), (.ref 323, 323), (.ref 302, 323), (.ref 155, 155), (.ref 197, 197), (.ref 218, 218), (.ref 239, 239), (.ref 260, 260)]
noncomputable def tabOk (P : Params) : Bool := kinds.all fun k => kitOne (K P) (ty k) (.type "int") == some (decide (k ≤ 1)) && clsNum.all fun c => kitOne (K P) (ty k) c.1 == some (decide (k = c.2))
theorem tab_ok (P : Params) : tabOk P = true := by kernel_rfl!
theorem tab_one {P : Params} {k : Nat} (hk : k ∈ kinds) {c : Value × Nat} (hc : c ∈ clsNum) : kitOne (K P) (ty k) c.1 = some (decide (k = c.2)) := by
  have := List.all_eq_true.mp (tab_ok P) k hk
  rw [Bool.and_eq_true] at this
  exact beq_iff_eq.mp (List.all_eq_true.mp this.2 c hc)
theorem tab_int {P : Params} {k : Nat} (hk : k ∈ kinds) : kitOne (K P) (ty k) (.type "int") = some (decide (k ≤ 1)) := by
  have := List.all_eq_true.mp (tab_ok P) k hk
  rw [Bool.and_eq_true] at this
  exact beq_iff_eq.mp this.1

structure HasK (P : Params) (h : Heap) (v : Value) (k : Nat) : Prop where
  at' : ∃ H : Heap → Prop, KitX (K P) v (ty k) H ∧ H h ∧ ∀ h', h.StaysIn h' → H h'
  kk : k ∈ kinds
  form : (k = 0 ∧ ∃ b, v = .bool b) ∨ (k = 1 ∧ ∃ i t, v = .int i t) ∨ (1 < k ∧ ∃ x o, v = .ref x ∧ h.get? x = some o ∧ o.cls = ty k)
  id1 : v = .ref 44 ↔ k = 44
  id2 : v = .ref 50 ↔ k = 50
  id3 : v = .ref 53 ↔ k = 53
  id4 : v = .ref 47 ↔ k = 47
theorem HasK.keeps {P : Params} {g h : Heap} {v : Value} {k : Nat} (x : HasK P g v k) (S : g.StaysIn h) : HasK P h v k :=
  let ⟨H, a, b, c⟩ := x.at'
  ⟨⟨H, a, c _ S, fun h' S' => c _ fun b o e => S' b o (S b o e)⟩, x.kk, x.form.imp id (fun y => y.imp id fun ⟨z, a, o, e, ha, hn⟩ => ⟨z, a, o, e, S _ _ ha, hn⟩), x.id1, x.id2, x.id3, x.id4⟩
theorem HasK.nb {P : Params} {h : Heap} {v : Value} {k : Nat} (x : HasK P h v k) : v ≠ .builtin "__main__.__loader__#opaque" := by
  rcases x.form with ⟨_, b, rfl⟩ | ⟨_, i, t, rfl⟩ | ⟨_, a, o, rfl, _⟩ <;> intro e <;> cases e

section
variable {prog : Program} {w : World} {A : Around} {E : Value → Shared → Prop} {s : Shared} {Q : Value → Shared → Prop} {v : Value} {k : Nat} {g : Heap}
theorem isi_any {c : Value} {n : Nat} (X : (K w.params).In s.heap) (hv : HasK w.params g v k) (S : g.StaysIn s.heap) (hc : (c, n) ∈ clsNum) (h : ∀ tk, Q (.bool (decide (k = n))) { s with toks := tk }) :
    wpAny (model prog w) A (call (.builtin "isinstance") [v, c]) Q E s := by
  have hv' := hv.keeps S
  obtain ⟨H, Z, p, _⟩ := hv'.at'
  exact kia_one Z X p (tab_one hv.kk hc) hv.nb h
theorem isi_int {c : Value} (X : (K w.params).In s.heap) (hv : HasK w.params g v k) (S : g.StaysIn s.heap) (hc : c = .type "int") (h : ∀ tk, Q (.bool (decide (k ≤ 1))) { s with toks := tk }) :
    wpAny (model prog w) A (call (.builtin "isinstance") [v, c]) Q E s := by
  subst hc
  have hv' := hv.keeps S
  obtain ⟨H, Z, p, _⟩ := hv'.at'
  exact kia_one Z X p (tab_int hv.kk) hv.nb h
theorem ty_of {k : Nat} (h : 1 < k) : ty k = if k = 44 ∨ k = 47 ∨ k = 50 ∨ k = 53 then .ref 38 else .ref k := by
  unfold ty
  rw [if_neg (by omega), if_neg (by omega)]
theorem ty_ref {k : Nat} (h : 1 < k) : ∃ c, ty k = .ref c := by
  unfold ty
  rw [if_neg (by omega), if_neg (by omega)]
  split <;> exact ⟨_, rfl⟩
theorem ty_nt {k : Nat} (h : 1 < k) : ty k ≠ .type "tuple" := by
  obtain ⟨c, e⟩ := ty_ref h
  rw [e]; intro q; cases q
theorem HasK.inj {P : Params} {h : Heap} {v : Value} {k k' : Nat} (x : HasK P h v k) (y : HasK P h v k') : k = k' := by
  rcases x.form with ⟨rfl, b, e⟩ | ⟨rfl, i, t, e⟩ | ⟨l, a, o, e, ha, hc⟩ <;> rcases y.form with ⟨rfl, b', e'⟩ | ⟨rfl, i', t', e'⟩ | ⟨l', a', o', e', ha', hc'⟩ <;> rw [e] at e' <;> first | rfl | (cases e'; done) | skip
  cases e'
  rw [ha] at ha'
  cases ha'
  have ht : ty k = ty k' := hc.symm.trans hc'
  have a1 := x.id1.symm.trans y.id1
  have a2 := x.id2.symm.trans y.id2
  have a3 := x.id3.symm.trans y.id3
  have a4 := x.id4.symm.trans y.id4
  rw [ty_of l, ty_of l'] at ht
  split at ht <;> split at ht
  · rename_i q _
    rcases q with q | q | q | q <;> first | exact q.trans (a1.mp q).symm | exact q.trans (a2.mp q).symm | exact q.trans (a3.mp q).symm | exact q.trans (a4.mp q).symm
  · have := Value.ref.inj ht
    have kk := y.kk
    rw [← this] at kk
    exact absurd kk (by decide)
  · have := Value.ref.inj ht
    have kk := x.kk
    rw [this] at kk
    exact absurd kk (by decide)
  · exact Value.ref.inj ht
/-- «is» over two values that are objects -/
theorem is_any {k' : Nat} {v' : Value} (hv : HasK w.params g v k) (hv' : HasK w.params g v' k') (S : g.StaysIn s.heap) (h1 : 1 < k) (h : ∀ b : Bool, (b = true ↔ v = v') → Q (.bool b) s) : wpAny (model prog w) A (compareOp .Is v v') Q E s := by
  rcases hv.form with ⟨e, _⟩ | ⟨e, _⟩ | ⟨_, x, o, rfl, hx, hn⟩
  · omega
  · omega
  rcases hv'.form with ⟨_, b, rfl⟩ | ⟨_, i, t, rfl⟩ | ⟨_, y, o', rfl, hy, _⟩
  · exact wpAny_is_other (by rfl) (by intro e; cases e) (h _ ⟨fun e => (by cases e), fun e => (by cases e)⟩)
  · exact wpAny_is_other (by rfl) (by intro e; cases e) (h _ ⟨fun e => (by cases e), fun e => (by cases e)⟩)
  · by_cases e : x = y
    · subst e
      exact wpAny_is_ref_self (h _ ⟨fun _ => rfl, fun _ => rfl⟩)
    · exact wpAny_is_ref_other e (S _ _ hx) (S _ _ hy) (hn ▸ ty_nt h1) (h _ ⟨fun q => (by cases q), fun q => absurd (Value.ref.inj q) e⟩)
theorem is_sing {a : Nat} (hv : HasK w.params g v k) (S : g.StaysIn s.heap) (X : (K w.params).In s.heap) (ha : a = 44 ∨ a = 50 ∨ a = 53) (h : Q (.bool (decide (k = a))) s) : wpAny (model prog w) A (compareOp .Is v (.ref a)) Q E s := by
  have hid : v = .ref a ↔ k = a := by
    rcases ha with rfl | rfl | rfl
    · exact hv.id1
    · exact hv.id2
    · exact hv.id3
  obtain ⟨o, ho⟩ : ∃ o, s.heap.get? a = some o := by
    rcases ha with rfl | rfl | rfl
    · exact ⟨_, X 44 _ (by rfl)⟩
    · exact ⟨_, X 50 _ (by rfl)⟩
    · exact ⟨_, X 53 _ (by rfl)⟩
  rcases hv.form with ⟨_, b, rfl⟩ | ⟨_, i, t, rfl⟩ | ⟨h1, x, o', rfl, hx, hn⟩
  · refine wpAny_is_other (by rfl) (by intro e; cases e) ?_
    rw [decide_eq_false (fun e => (by cases hid.mpr e))] at h; exact h
  · refine wpAny_is_other (by rfl) (by intro e; cases e) ?_
    rw [decide_eq_false (fun e => (by cases hid.mpr e))] at h; exact h
  · by_cases e : x = a
    · subst e
      rw [decide_eq_true (hid.mp rfl)] at h
      exact wpAny_is_ref_self h
    · rw [decide_eq_false (fun q => e (Value.ref.inj (hid.mpr q)))] at h
      exact wpAny_is_ref_other e (S _ _ hx) ho (hn ▸ ty_nt h1) h
end
noncomputable def zipP (ps : Arguments) (vs : List Value) : List (PySem.Str × Value) := (ps.args.map (·.arg)).zip vs

section
variable {w : World} {A : Around} {s : Shared} {h₀ : Heap} {L : Addr} {m mg mb : PySem.Str → Option Value} {news : Led} {mean : ExcName → Option Value}

/-- a called def of the text is entered -/
theorem code_defZ {R : Result → Shared → Prop} {name qual : PySem.Str} {st : Stmt} {doc pm : Value} {c f : Nat} {vs : List Value}
    (F : Fr h₀ L s.heap m) (X₀ : (K w.params).In h₀) (N : News h₀ L s.heap news) (T : Top q (looseW q loose) mean mg mb h₀)
    (ho : (K w.params).lookup f = some (fn name qual st doc pm c)) (hcd : codeIn (K w.params) (.ref c) qual = true) (hroom : A.depth < recursionLimit)
    (hbind : BindsTo s (fnOf name qual (sPar st) (sBody st) (sScope st) .none .none doc pm none (.ref c) .none) ⟨vs, []⟩ (zipP (sPar st) vs)) (hloc : ∀ y ∈ zipP (sPar st) vs, (sScope st).names.lookup y.1 = some .local)
    (h : ∀ g L' h₁ tk', Fr h₀ L g m → Fr g L' h₁ (fun y => (zipP (sPar st) vs).reverse.lookup y) → News g L' h₁ news → (∀ p ∈ news, p.1 < L') → (K w.params).In g → Top q (looseW q loose) mean mg mb g →
      wpAny (model P0 w) (A.deeper (envOf qual (sScope st) L' f (.ref c))) (execs (sBody st) (envOf qual (sScope st) L' f (.ref c)))
        (fun fl s' => LeaveK h₀ L m g R (match fl with | .ret v => v | _ => .none) s') (fun _ _ => False)
        { s with heap := h₁, toks := tk' })
    (hco : (sScope st).isCoroutine = false) (hgen : (sScope st).isGenerator = false) (hk : (sScope st).kind = .function)
    (hcell : ∀ x ∈ (sScope st).names, x.2 ≠ .cell) : codeAny (model P0 w) A (.call (.ref f) ⟨vs, []⟩) R s :=
  code_def0 F X₀ N T ho hcd hroom hbind hloc (fun g L' h₁ => h g L' h₁ _) hco hgen hk hcell

/-- a contract is used: nothing of the ledger is changed -/
theorem call_spec {d u : Nat} {f : Addr} {vs : List Value} {Post : Value → Heap → Prop} {Q : Value → Shared → Prop} {E : Value → Shared → Prop}
    (C : codeAny (model P0 w) (ad d u) (.call (.ref f) ⟨vs, []⟩) (Ret s [] Post) s) (hh : A.handled = none) (hd : A.depth ≤ d) (hu : A.units ≤ u)
    (F : Fr h₀ L s.heap m) (N : News h₀ L s.heap news)
    (h : ∀ v h' tk, Fr h₀ L h' m → News h₀ L h' news → s.heap.StaysIn h' → Post v h' → Q v { s with heap := h', toks := tk }) :
    wpAny (model P0 w) A (call (.ref f) vs) Q E s := by
  refine wpAny_call (codeAny_mono (code_weak C hh hd hu) fun r s' hr => ?_)
  obtain ⟨v, h', tk, rfl, rfl, k, p⟩ := hr
  obtain ⟨F', N'⟩ := led_after (news' := news) (D := []) F N (fun _ q => nomatch q) k (fun p hp => .inl ⟨hp, fun q => nomatch q⟩)
  exact h v h' tk F' N' (fun b o e => k b o e fun q => nomatch q) p
end
noncomputable def isNum (k : Nat) : Bool := decide (k = 1) || decide (k = 342) || decide (k = 370)
theorem keep_all {h h' : Heap} (S : h.StaysIn h') : Keep [] h h' := fun b o e _ => S b o e
theorem ret_mk {s : Shared} {Post : Value → Heap → Prop} {v : Value} {h' : Heap} {tk : Nat} (S : s.heap.StaysIn h') (p : Post v h') :
    Ret s [] Post (.ok (.ret v)) { heap := h', gens := s.gens, drawn := s.drawn, toks := tk, os := s.os } := ⟨v, h', tk, rfl, rfl, keep_all S, p⟩
theorem bool_val {a b : Bool} (h : a = true ↔ b = true) : Value.bool a = Value.bool b := congrArg Value.bool (Bool.eq_iff_iff.mpr h)
/-- a contract's def is entered, nothing being changed -/
theorem enterN {w : World} {A : Around} {s : Shared} {base : Heap} {R : Result → Shared → Prop} {name qual : PySem.Str} {st : Stmt} {doc pm : Value} {c f : Addr} {args : Args} {binds : List (PySem.Str × Value)}
    {mean : ExcName → Option Value} {mg mb : PySem.Str → Option Value}
    (X : (K w.params).In base) (T : Top q (looseW q loose) mean mg mb base) (keep : ∀ b o, base.get? b = some o → s.heap.get? b = some o)
    (ho : (K w.params).lookup f = some (fn name qual st doc pm c)) (hcd : codeIn (K w.params) (.ref c) qual = true) (hroom : A.depth < recursionLimit)
    (hbind : BindsTo s (fnOf name qual (sPar st) (sBody st) (sScope st) .none .none doc pm none (.ref c) .none) args binds) (hloc : ∀ y ∈ binds, (sScope st).names.lookup y.1 = some .local)
    (hcell : ∀ x ∈ (sScope st).names, x.2 ≠ .cell) (hco : (sScope st).isCoroutine = false) (hgen : (sScope st).isGenerator = false) (hk : (sScope st).kind = .function)
    (h : ∀ L' h₁ tk', L' = s.heap.objs.size → Fr s.heap L' h₁ (fun y => binds.reverse.lookup y) → News s.heap L' h₁ [] → (K w.params).In s.heap → Top q (looseW q loose) mean mg mb s.heap →
      wpAny (model P0 w) (A.deeper (envOf qual (sScope st) L' f (.ref c))) (execs (sBody st) (envOf qual (sScope st) L' f (.ref c)))
        (fun fl s' => R (.ok (.ret (match fl with | .ret v => v | _ => .none))) s') (fun _ _ => False)
        { s with heap := h₁, toks := tk' }) :
    codeAny (model P0 w) A (.call (.ref f) args) R s :=
  enter (news := []) X T keep (fun _ q => nomatch q) ho hcd hroom hbind hloc hcell hco hgen hk fun g L' h₁ hg hL F N _ X' T' => by
    obtain rfl : g = s.heap := hg
    exact h L' h₁ _ hL F N X' T'

/-- expressions one behind the other -/
noncomputable def SeqEv (M : Model) (A : Around) (env : Env) : List PySem.Expr → (List Value → Shared → Prop) → (Value → Shared → Prop) → Shared → Prop
  | [], Q, _, s => Q [] s
  | e :: r, Q, E, s => wpAny M A (eval e env) (fun v s₁ => SeqEv M A env r (fun vs s₂ => Q (v :: vs) s₂) E s₁) E s
/-- an argument list of names and written values, evaluated in one step: the tokens alone may change -/
structure Evs (M : Model) (A : Around) (env : Env) (s : Shared) (es : List PySem.Expr) (vs : List Value) (s' : Shared) : Prop where
  go : ∀ (pos : Pos) (Q : List Value → Shared → Prop) (E : Value → Shared → Prop), Q vs s' → wpAny M A (spliced (backTo pos (starEach es env))) Q E s
  seq : ∀ (Q : List Value → Shared → Prop) (E : Value → Shared → Prop), Q vs s' → SeqEv M A env es Q E s
  heap : s'.heap = s.heap
  plain : ∀ pos, (backTo pos (starEach es env)).any (·.1) = false
  head : ∀ e r, es = e :: r → starEach (e :: r) env = (false, eval e env) :: starEach r env ∧ ∀ pos, (backTo pos (starEach r env)).any (·.1) = false
section
variable {M : Model} {A : Around} {s s₁ s' : Shared} {es : List PySem.Expr} {vs : List Value} {env : Env} {hp : Heap} {gs : Array GenState} {dr : Drawn} {tk : Nat} {os : OsState}
theorem evs_nil : Evs M A env s [] [] s := ⟨fun _ _ _ h => args_nil h, fun _ _ h => h, rfl, fun _ => rfl, fun _ _ e => nomatch e⟩
theorem evs_cons {e : PySem.Expr} {v : Value} (h0 : ∀ (Q : Value → Shared → Prop) (E : Value → Shared → Prop), Q v s₁ → wpAny M A (eval e env) Q E s) (hh : s₁.heap = s.heap) (he : starEach (e :: es) env = (false, eval e env) :: starEach es env) (r : Evs M A env s₁ es vs s') : Evs M A env s (e :: es) (v :: vs) s' :=
  ⟨fun pos Q E h => args_cons (h0 _ _ (r.go pos _ E h)) he, fun Q E h => h0 _ _ (r.seq _ E h), r.heap.trans hh, fun pos => by rw [he]; exact r.plain pos, fun _ _ q => by cases q; exact ⟨he, r.plain⟩⟩
theorem evs_int {i : Int} {k : Nat} {p : Pos} (r : Evs M A env ⟨hp, gs, dr, tk + 1, os⟩ es vs s') : Evs M A env ⟨hp, gs, dr, tk, os⟩ (.Constant (.int i) k p :: es) (.int i tk :: vs) s' := evs_cons (s₁ := ⟨hp, gs, dr, tk + 1, os⟩) (fun _ _ h => wpAny_Constant_int h) rfl rfl r
theorem evs_str {i : PySem.Str} {k : Nat} {p : Pos} (r : Evs M A env ⟨hp, gs, dr, tk + 1, os⟩ es vs s') : Evs M A env ⟨hp, gs, dr, tk, os⟩ (.Constant (.str i) k p :: es) (.str i tk :: vs) s' := evs_cons (s₁ := ⟨hp, gs, dr, tk + 1, os⟩) (fun _ _ h => PySem.Calls.Constant_str h) rfl rfl r
theorem evs_none {k : Nat} {p : Pos} (r : Evs M A env s es vs s') : Evs M A env s (.Constant .none k p :: es) (.none :: vs) s' := evs_cons (fun _ _ h => wpAny_Constant_none h) rfl rfl r
theorem evs_bool {b : Bool} {k : Nat} {p : Pos} (r : Evs M A env s es vs s') : Evs M A env s (.Constant (.bool b) k p :: es) (.bool b :: vs) s' := evs_cons (fun _ _ h => wpAny_Constant_bool h) rfl rfl r
end
section
variable {M : Model} {A : Around} {E : Value → Shared → Prop} {s s' : Shared} {K : Frag} {h₀ : Heap} {L a : Addr} {m mg mb : PySem.Str → Option Value} {cn : PySem.Str} {cs : Scope} {ccd : Value} {cl : List (PySem.Str × Addr)} {p : Program} {loose : List PySem.Str}
  {x : PySem.Str} {v : Value} {es : List PySem.Expr} {vs : List Value} {xp : Pos} {news : Led} {c : Addr} {o : Obj}
theorem evs_loc (F : Fr h₀ L s.heap m) (hv : m x = some v) (hk : cs.kind = .function) (hx : (envX cn cs L a ccd cl).kindOf x = some .local) (hd : (x == ("__debug__" : PySem.Str)) = false) (r : Evs M A (envX cn cs L a ccd cl) s es vs s') :
    Evs M A (envX cn cs L a ccd cl) s (.Name x xp :: es) (v :: vs) s' := evs_cons (fun _ _ h => nameX_L F hv h hk hx hd) rfl rfl r
theorem evs_cell (N : News h₀ L s.heap news) (hc : cl.lookup x = some c) (hm : (c, o) ∈ news) (hd : o.data = .cell (some v)) (hk : cs.kind = .function) (hx : (envX cn cs L a ccd cl).kindOf x = some .cell) (hb : (x == ("__debug__" : PySem.Str)) = false) (r : Evs M A (envX cn cs L a ccd cl) s es vs s') :
    Evs M A (envX cn cs L a ccd cl) s (.Name x xp :: es) (v :: vs) s' := evs_cons (fun _ _ h => nameX_C N hc hm hd h hk hx hb) rfl rfl r
theorem evs_K (F : Fr h₀ L s.heap m) (X : K.In h₀) (T : TopRead p loose mg mb h₀) (e : nsIn K mainGlobals x = some (some v)) (hk : cs.kind = .function) (hx : (envX cn cs L a ccd cl).kindOf x = some .globalImplicit) (hd : (x == ("__debug__" : PySem.Str)) = false) (r : Evs M A (envX cn cs L a ccd cl) s es vs s') :
    Evs M A (envX cn cs L a ccd cl) s (.Name x xp :: es) (v :: vs) s' := evs_cons (fun _ _ h => nameX_K F X T e h hk hx hd) rfl rfl r
theorem evs_B (F : Fr h₀ L s.heap m) (X : K.In h₀) (T : TopRead p loose mg mb h₀) (e : nsIn K mainGlobals x = some none) (hv : bootBuiltins x = some v) (hn : x ≠ "__name__") (hk : cs.kind = .function) (hx : (envX cn cs L a ccd cl).kindOf x = some .globalImplicit) (hd : (x == ("__debug__" : PySem.Str)) = false) (r : Evs M A (envX cn cs L a ccd cl) s es vs s') :
    Evs M A (envX cn cs L a ccd cl) s (.Name x xp :: es) (v :: vs) s' := evs_cons (fun _ _ h => nameX_B F X T e hv hn h hk hx hd) rfl rfl r
theorem spl (r : Evs M A (envX cn cs L a ccd cl) s es vs s') {pos : Pos} {Q : List Value → Shared → Prop} (h : Q vs s') : wpAny M A (spliced (backTo pos (starEach es (envX cn cs L a ccd cl)))) Q E s := r.go pos Q E h
/-- a call of a def or a class of the text -/
theorem callX_K {e : PySem.Expr} {pos : Pos} {Q : Value → Shared → Prop} (F : Fr h₀ L s.heap m) (X : K.In h₀) (T : TopRead p loose mg mb h₀) (hf : nsIn K mainGlobals x = some (some v)) (hk : keepIn K v = true) (hx : (envX cn cs L a ccd cl).kindOf x = some .globalImplicit) (hd : (x == ("__debug__" : PySem.Str)) = false) (hc : cs.kind = .function)
    (r : Evs M A (envX cn cs L a ccd cl) s (e :: es) vs s') 
    (h : wpAny M A (call v vs) Q E s') : wpAny M A (eval (.Call (.Name x xp) (e :: es) [] pos) (envX cn cs L a ccd cl)) Q E s :=
  Call_ (nameX_K F X T hf (callWith_K X hk (r.go _ _ _ ⟨r.heap ▸ X.keeps F.keep, h⟩) (r.head _ _ rfl).1 ((r.head _ _ rfl).2 _)) hc hx hd) rfl
theorem callX_B {i : String} {e : PySem.Expr} {pos : Pos} {Q : Value → Shared → Prop} (F : Fr h₀ L s.heap m) (X : K.In h₀) (T : TopRead p loose mg mb h₀) (hf : nsIn K mainGlobals x = some none) (hv : bootBuiltins x = some (.builtin i)) (hn : x ≠ "__name__") (hx : (envX cn cs L a ccd cl).kindOf x = some .globalImplicit) (hd : (x == ("__debug__" : PySem.Str)) = false) (hc : cs.kind = .function)
    (r : Evs M A (envX cn cs L a ccd cl) s (e :: es) vs s') 
    (h : wpAny M A (call (.builtin i) vs) Q E s') : wpAny M A (eval (.Call (.Name x xp) (e :: es) [] pos) (envX cn cs L a ccd cl)) Q E s :=
  Call_ (nameX_B F X T hf hv hn (callWith_builtin1 (r.go _ _ _ h) (r.head _ _ rfl).1 ((r.head _ _ rfl).2 _)) hc hx hd) rfl
theorem listX {pos : Pos} {Q : Value → Shared → Prop} (r : Evs M A (envX cn cs L a ccd cl) s es vs s') (h : wpAny M A (newList vs) Q E s') : wpAny M A (eval (.List es pos) (envX cn cs L a ccd cl)) Q E s := List_ (r.go _ _ E h)
theorem tupX {k : Nat} {pos : Pos} {Q : Value → Shared → Prop} (r : Evs M A (envX cn cs L a ccd cl) s es vs s') (h : wpAny M A (newTuple vs) Q E s') : wpAny M A (eval (.Tuple es k pos) (envX cn cs L a ccd cl)) Q E s := Tuple_ (r.go _ _ E h)
theorem cmpX {l r : PySem.Expr} {op : CmpOp} {pos : Pos} {u v : Value} {Q : Value → Shared → Prop} (z : Evs M A (envX cn cs L a ccd cl) s [l, r] [u, v] s') (hm : behindInMarks op r = false) (h : wpAny M A (compareOp op u v) Q E s') : wpAny M A (eval (.Compare l [op] [r] pos) (envX cn cs L a ccd cl)) Q E s :=
  wpAny_Compare1 (z.seq (fun vs s₂ => match vs with | [u, v] => wpAny M A (compareOp op u v) Q E s₂ | _ => True) E h) hm
theorem tcmpX {l r : PySem.Expr} {op : CmpOp} {pos : Pos} {u v : Value} {whole : Sem Value} {Q : Bool → Shared → Prop} (z : Evs M A (envX cn cs L a ccd cl) s [l, r] [u, v] s') (hm : behindInMarks op r = false) (h : wpAny M A (compareOp op u v) (fun c s₃ => wpAny M A (truthy c) Q E s₃) E s') : wpAny M A (isTrue (.Compare l [op] [r] pos) (envX cn cs L a ccd cl) whole) Q E s :=
  wpAny_isTrue_Compare1 (z.seq (fun vs s₂ => match vs with | [u, v] => wpAny M A (compareOp op u v) (fun c s₃ => wpAny M A (truthy c) Q E s₃) E s₂ | _ => True) E h) hm
theorem binX {l r : PySem.Expr} {op : Operator} {pos : Pos} {u v : Value} {Q : Value → Shared → Prop} (z : Evs M A (envX cn cs L a ccd cl) s [l, r] [u, v] s') (h : wpAny M A (binaryOp op u v) Q E s') : wpAny M A (eval (.BinOp l op r pos) (envX cn cs L a ccd cl)) Q E s :=
  wpAny_BinOp (z.seq (fun vs s₂ => match vs with | [u, v] => wpAny M A (binaryOp op u v) Q E s₂ | _ => True) E h)
theorem attrX {attr : PySem.Str} {pos : Pos} {Q : Value → Shared → Prop} (F : Fr h₀ L s.heap m) (hv : m x = some v) (hk : cs.kind = .function) (hx : (envX cn cs L a ccd cl).kindOf x = some .local) (hd : (x == ("__debug__" : PySem.Str)) = false) (h : wpAny M A (getAttr v attr true) Q E s) : wpAny M A (eval (.Attribute (.Name x xp) attr pos) (envX cn cs L a ccd cl)) Q E s :=
  Attribute_Name_ (nameX_L F hv h hk hx hd)
/-- a test of a local word against a written one -/
theorem test_word {prog : Program} {w : World} {y xv : PySem.Str} {t : Tok} {k : Nat} {p1 p2 : Pos} {whole : Sem Value} {Q : Bool → Shared → Prop} {hp : Heap} {gs : Array GenState} {dr : Drawn} {tk : Nat} {os : OsState} (F : Fr h₀ L hp m) (hv : m x = some (.str xv t)) (hk : cs.kind = .function) (hx : (envX cn cs L a ccd cl).kindOf x = some .local) (hd : (x == ("__debug__" : PySem.Str)) = false) (h : Q (xv == y) ⟨hp, gs, dr, tk + 1, os⟩) :
    wpAny (model prog w) A (isTrue (.Compare (.Name x xp) [.Eq] [.Constant (.str y) k p1] p2) (envX cn cs L a ccd cl) whole) Q E ⟨hp, gs, dr, tk, os⟩ :=
  wpAny_isTrue_Compare1 (nameX_L F hv (PySem.Calls.Constant_str (PyProof.Rows.eq_str (wpAny_truthy_bool h))) hk hx hd)
end
section
variable {w : World} {A : Around} {E : Value → Shared → Prop} {s s' : Shared} {h₀ : Heap} {L a : Addr} {m : PySem.Str → Option Value} {cn : PySem.Str} {cs : Scope} {ccd : Value} {cl : List (PySem.Str × Addr)}
  {x nm : PySem.Str} {es : List PySem.Expr} {vs : List Value} {xp ap pos : Pos} {news : Led} {o f C : Nat} {ox : Obj} {ens : List DictEntry} {n : Nat} {e : PySem.Expr} {Q : Value → Shared → Prop}
theorem meth_go {K : Frag} {prog : Program} (X : K.In s.heap) (hn : ∀ {pl : Sem Bool} {Q' : Value × List Value → Shared → Prop}, Q' (.ref f, [.ref o]) s → wpAny (model prog w) A (getMethod (.ref o) nm pl) Q' E s) (hk : keepIn K (.ref f) = true)
    (ho : ∀ {Q' : Value → Shared → Prop}, Q' (.ref o) s → wpAny (model prog w) A (eval (.Name x xp) (envX cn cs L a ccd cl)) Q' E s)
    (r : Evs (model prog w) A (envX cn cs L a ccd cl) s (e :: es) vs s')  {pl : Sem Bool}
    (hw : eval (.Call (.Attribute (.Name x xp) nm ap) (e :: es) [] pos) (envX cn cs L a ccd cl) = (do
      let ov ← eval (.Name x xp) (envX cn cs L a ccd cl)
      standAt ap.atName
      let (f, first) ← holding [ov] (getMethod ov nm pl)
      callWith pos f first (backTo pos (starEach (e :: es) (envX cn cs L a ccd cl))) []))
    (h : wpAny (model prog w) A (call (.ref f) (.ref o :: vs)) Q E s') : wpAny (model prog w) A (eval (.Call (.Attribute (.Name x xp) nm ap) (e :: es) [] pos) (envX cn cs L a ccd cl)) Q E s :=
  MethodCall_ (ho (hn (callWith_K X hk (r.go _ _ _ ⟨r.heap ▸ X, h⟩) (r.head _ _ rfl).1 ((r.head _ _ rfl).2 _)))) hw
theorem meth_go0 {K : Frag} {prog : Program} (X : K.In s.heap) (hn : ∀ {pl : Sem Bool} {Q' : Value × List Value → Shared → Prop}, Q' (.ref f, [.ref o]) s → wpAny (model prog w) A (getMethod (.ref o) nm pl) Q' E s) (hk : keepIn K (.ref f) = true)
    (ho : ∀ {Q' : Value → Shared → Prop}, Q' (.ref o) s → wpAny (model prog w) A (eval (.Name x xp) (envX cn cs L a ccd cl)) Q' E s) {pl : Sem Bool}
    (hw : eval (.Call (.Attribute (.Name x xp) nm ap) [] [] pos) (envX cn cs L a ccd cl) = (do
      let ov ← eval (.Name x xp) (envX cn cs L a ccd cl)
      standAt ap.atName
      let (f, first) ← holding [ov] (getMethod ov nm pl)
      callWith pos f first (backTo pos (starEach [] (envX cn cs L a ccd cl))) []))
    (h : wpAny (model prog w) A (call (.ref f) [.ref o]) Q E s) : wpAny (model prog w) A (eval (.Call (.Attribute (.Name x xp) nm ap) [] [] pos) (envX cn cs L a ccd cl)) Q E s :=
  MethodCall_ (ho (hn (callWith_K0 X hk h))) hw
/-- a method call of an object that a local name holds -/
theorem methX_L {prog : Program} {K : Frag} (F : Fr h₀ L s.heap m) (X : K.In h₀) (hv : m x = some (.ref o)) (I : InstAt s.heap o ox C (some (dictOf ens n))) (hg : plainGet K C nm = true) (hf : findIn K (.ref C) nm = some (some (.ref f))) (ht : isFn K (.ref f) = true) (hl : getL nm ens = some none) (hk : keepIn K (.ref f) = true)
    (hc : cs.kind = .function) (hx : (envX cn cs L a ccd cl).kindOf x = some .local) (hd : (x == ("__debug__" : PySem.Str)) = false)
    (r : Evs (model prog w) A (envX cn cs L a ccd cl) s (e :: es) vs s')  {pl : Sem Bool}
    (hw : eval (.Call (.Attribute (.Name x xp) nm ap) (e :: es) [] pos) (envX cn cs L a ccd cl) = (do
      let ov ← eval (.Name x xp) (envX cn cs L a ccd cl)
      standAt ap.atName
      let (f, first) ← holding [ov] (getMethod ov nm pl)
      callWith pos f first (backTo pos (starEach (e :: es) (envX cn cs L a ccd cl))) []))
    (h : wpAny (model prog w) A (call (.ref f) (.ref o :: vs)) Q E s') : wpAny (model prog w) A (eval (.Call (.Attribute (.Name x xp) nm ap) (e :: es) [] pos) (envX cn cs L a ccd cl)) Q E s :=
  meth_go (X.keeps F.keep) (fun q => method_inst F X I hg hf ht hl q) hk (fun q => nameX_L F hv q hc hx hd) r hw h
theorem methX_L0 {prog : Program} {K : Frag} (F : Fr h₀ L s.heap m) (X : K.In h₀) (hv : m x = some (.ref o)) (I : InstAt s.heap o ox C (some (dictOf ens n))) (hg : plainGet K C nm = true) (hf : findIn K (.ref C) nm = some (some (.ref f))) (ht : isFn K (.ref f) = true) (hl : getL nm ens = some none) (hk : keepIn K (.ref f) = true)
    (hc : cs.kind = .function) (hx : (envX cn cs L a ccd cl).kindOf x = some .local) (hd : (x == ("__debug__" : PySem.Str)) = false) {pl : Sem Bool}
    (hw : eval (.Call (.Attribute (.Name x xp) nm ap) [] [] pos) (envX cn cs L a ccd cl) = (do
      let ov ← eval (.Name x xp) (envX cn cs L a ccd cl)
      standAt ap.atName
      let (f, first) ← holding [ov] (getMethod ov nm pl)
      callWith pos f first (backTo pos (starEach [] (envX cn cs L a ccd cl))) []))
    (h : wpAny (model prog w) A (call (.ref f) [.ref o]) Q E s) : wpAny (model prog w) A (eval (.Call (.Attribute (.Name x xp) nm ap) [] [] pos) (envX cn cs L a ccd cl)) Q E s :=
  meth_go0 (X.keeps F.keep) (fun q => method_inst F X I hg hf ht hl q) hk (fun q => nameX_L F hv q hc hx hd) hw h
/-- .. that a cell holds -/
theorem methX_C {prog : Program} {K : Frag} {c : Nat} {oc : Obj} (F : Fr h₀ L s.heap m) (X : K.In h₀) (N : News h₀ L s.heap news) (hcl : cl.lookup x = some c) (hm : (c, oc) ∈ news) (hdd : oc.data = .cell (some (.ref o))) (I : InstAt s.heap o ox C (some (dictOf ens n))) (hg : plainGet K C nm = true) (hf : findIn K (.ref C) nm = some (some (.ref f))) (ht : isFn K (.ref f) = true) (hl : getL nm ens = some none) (hk : keepIn K (.ref f) = true)
    (hc : cs.kind = .function) (hx : (envX cn cs L a ccd cl).kindOf x = some .cell) (hd : (x == ("__debug__" : PySem.Str)) = false)
    (r : Evs (model prog w) A (envX cn cs L a ccd cl) s (e :: es) vs s')  {pl : Sem Bool}
    (hw : eval (.Call (.Attribute (.Name x xp) nm ap) (e :: es) [] pos) (envX cn cs L a ccd cl) = (do
      let ov ← eval (.Name x xp) (envX cn cs L a ccd cl)
      standAt ap.atName
      let (f, first) ← holding [ov] (getMethod ov nm pl)
      callWith pos f first (backTo pos (starEach (e :: es) (envX cn cs L a ccd cl))) []))
    (h : wpAny (model prog w) A (call (.ref f) (.ref o :: vs)) Q E s') : wpAny (model prog w) A (eval (.Call (.Attribute (.Name x xp) nm ap) (e :: es) [] pos) (envX cn cs L a ccd cl)) Q E s :=
  meth_go (X.keeps F.keep) (fun q => method_inst F X I hg hf ht hl q) hk (fun q => nameX_C N hcl hm hdd q hc hx hd) r hw h
end
section
variable {M : Model} {A : Around} {E : Value → Shared → Prop} {s : Shared} {env : Env} {t e : PySem.Expr} {body orelse rest : List Stmt} {pos px : Pos} {x : PySem.Str} {Q : Flow → Shared → Prop}
theorem x_if (h : wpAny M A (isTrue t env (eval t env)) (fun b s₂ => if b = true then wpAny M A (execs body env) (fun f s' => match f with | .next => wpAny M A (execs rest env) Q E s' | f => Q f s') E s₂ else wpAny M A (execs orelse env) (fun f s' => match f with | .next => wpAny M A (execs rest env) Q E s' | f => Q f s') E s₂) E s) :
    wpAny M A (execs (.If t body orelse pos :: rest) env) Q E s := wpAny_execs_cons (wpAny_If h)
theorem x_if0 (h : wpAny M A (isTrue t env (eval t env)) (fun b s₂ => if b = true then wpAny M A (execs body env) (fun f s' => match f with | .next => wpAny M A (execs rest env) Q E s' | f => Q f s') E s₂ else wpAny M A (execs rest env) Q E s₂) E s) :
    wpAny M A (execs (.If t body [] pos :: rest) env) Q E s := x_if (wpAny_mono h (fun b s₂ q => by cases b <;> first | exact q | exact wpAny_execs_nil q) fun _ _ q => q)
theorem x_if1 (h : wpAny M A (isTrue t env (eval t env)) (fun b s₂ => if b = true then wpAny M A (execs body env) Q E s₂ else wpAny M A (execs orelse env) Q E s₂) E s) :
    wpAny M A (execs [.If t body orelse pos] env) Q E s := x_if (wpAny_mono h (fun b s₂ q => by
      have k : ∀ {l : List Stmt}, wpAny M A (execs l env) Q E s₂ → wpAny M A (execs l env) (fun f s' => match f with | .next => wpAny M A (execs [] env) Q E s' | f => Q f s') E s₂ := fun q => wpAny_mono q (fun f s' q => by cases f <;> first | exact q | exact wpAny_execs_nil q) fun _ _ q => q
      cases b <;> exact k q) fun _ _ q => q)
theorem x_ret (h : wpAny M A (eval e env) (fun v => Q (.ret v)) E s) : wpAny M A (execs (.Return (some e) pos :: rest) env) Q E s := wpAny_execs_cons (wpAny_Return_some h)
theorem x_asg (hs : swapsWith e (some (.Name x px)) pos.line env = pure false) (h : wpAny M A (eval e env) (fun v s₁ => wpAny M A (storeName env x v) (fun _ s₂ => wpAny M A (execs rest env) Q E s₂) E s₁) E s) : wpAny M A (execs (.Assign [.Name x px] e pos :: rest) env) Q E s := wpAny_execs_cons (wpAny_Assign_Name h hs)
theorem x_expr {prog : Program} {w : World} (hi : interactive env = false) (hs : swapsWith e none pos.line env = pure false) (h : wpAny (model prog w) A (eval e env) (fun _ s' => wpAny (model prog w) A (execs rest env) Q E s') E s) : wpAny (model prog w) A (execs (.Expr e pos :: rest) env) Q E s := wpAny_execs_cons (wpAny_Expr_any h hi hs)
end
noncomputable def Inst1 (P : Params) (h : Heap) (x C : Nat) (a : PySem.Str) (v : Value) : Prop := ∃ (dx : Nat) (n : Nat) (t : Tok), InstAt h x (instObj C dx) C (some (dictOf [en P a t v] n))
noncomputable def Inst2 (P : Params) (h : Heap) (x C : Nat) (a : PySem.Str) (v : Value) (b : PySem.Str) (u : Value) : Prop :=
  ∃ (dx : Nat) (n : Nat) (t t' : Tok), InstAt h x (instObj C dx) C (some (dictOf [en P a t v, en P b t' u] n))
theorem instAt_stays {g h : Heap} {x C : Addr} {ox od : Obj} (I : InstAt g x ox C (some od)) (S : g.StaysIn h) : InstAt h x ox C (some od) := by
  obtain ⟨a, b, c, d⟩ := I
  refine ⟨S _ _ a, b, c, ?_⟩
  cases hq : ox.dict with
  | none => rw [hq] at d; exact d.elim
  | some dx => rw [hq] at d; exact S _ _ d
theorem Inst1.stays {P : Params} {g h : Heap} {x C : Nat} {a : PySem.Str} {v : Value} (I : Inst1 P g x C a v) (S : g.StaysIn h) : Inst1 P h x C a v := let ⟨dx, n, t, i⟩ := I; ⟨dx, n, t, instAt_stays i S⟩
theorem Inst2.stays {P : Params} {g h : Heap} {x C : Nat} {a b : PySem.Str} {v u : Value} (I : Inst2 P g x C a v b u) (S : g.StaysIn h) : Inst2 P h x C a v b u := let ⟨dx, n, t, t', i⟩ := I; ⟨dx, n, t, t', instAt_stays i S⟩

/-- the things of the law -/
inductive Pl where
  | boolean (i : Int) | whole (i : Int) | real (i : Int) | ratio (i : Int) | char (i : Int) | symbol (i : Int) | port (i : Int) | procedure (i : Int)
  | empty | unspecified | unassigned | eof | block (i : Nat)
noncomputable def one (w : String) (i : Int) : PyData := .tuple [.str (ofString w), .int i]
noncomputable def num (w : String) (i j : Int) : PyData := .tuple [.str (ofString "number"), .tuple [.str (ofString w), .int i, .int j]]
noncomputable def Pl.data : Pl → PyData
  | .boolean i => one "boolean" i
  | .whole i => num "whole" i 1
  | .real i => num "real" i 0
  | .ratio i => num "ratio" i 2
  | .char i => one "char" i
  | .symbol i => one "symbol" i
  | .port i => one "port" i
  | .procedure i => one "procedure" i
  | .empty => one "empty" 0
  | .unspecified => one "unspecified" 0
  | .unassigned => one "unassigned" 0
  | .eof => one "eof" 0
  | .block i => one "block" i
/-- the kind of a thing's value; bk: the blocks' -/
noncomputable def Pl.kd (bk : Nat → Nat) : Pl → Nat
  | .boolean _ => 0 | .whole _ => 1 | .real _ => 342 | .ratio _ => 370 | .char _ => 176 | .symbol _ => 71 | .port _ => 281 | .procedure _ => 323
  | .empty => 44 | .unspecified => 47 | .unassigned => 50 | .eof => 53 | .block i => bk i
noncomputable def wd : List PySem.Str := [ofString "boolean", ofString "whole", ofString "real", ofString "ratio", ofString "char", ofString "symbol", ofString "port", ofString "procedure", ofString "empty", ofString "unspecified", ofString "unassigned", ofString "eof", ofString "block"]
noncomputable def Pl.code : Pl → Nat
  | .boolean _ => 0 | .whole _ => 1 | .real _ => 2 | .ratio _ => 3 | .char _ => 4 | .symbol _ => 5 | .port _ => 6 | .procedure _ => 7
  | .empty => 8 | .unspecified => 9 | .unassigned => 10 | .eof => 11 | .block _ => 12
noncomputable def Pl.arg : Pl → Int
  | .boolean i => i | .whole i => i | .real i => i | .ratio i => i | .char i => i | .symbol i => i | .port i => i | .procedure i => i
  | .block i => i | _ => 0
theorem wd_inj : ∀ a < 13, ∀ b < 13, wd[a]? = wd[b]? → a = b := by decide +kernel
theorem code_lt (t : Pl) : t.code < 13 := by cases t <;> simp [Pl.code]
noncomputable def dec (c : Nat) (i : Int) : Pl := ((([.boolean i, .whole i, .real i, .ratio i, .char i, .symbol i, .port i, .procedure i, .empty, .unspecified, .unassigned, .eof, .block i.toNat] : List Pl)[c]?).getD .eof)
theorem dec_eq (t : Pl) : dec t.code t.arg = t := by cases t <;> rfl
theorem pl_ext {t u : Pl} (h1 : t.code = u.code) (h2 : t.arg = u.arg) : t = u := (dec_eq t).symm.trans ((by rw [h1, h2]) : dec t.code t.arg = dec u.code u.arg) |>.trans (dec_eq u)
theorem data_shape (t : Pl) : (∃ x, wd[t.code]? = some x ∧ t.data = .tuple [.str x, .int t.arg]) ∨ (∃ x j, wd[t.code]? = some x ∧ t.data = .tuple [.str (ofString "number"), .tuple [.str x, .int t.arg, .int j]]) := by
  cases t <;> first | exact .inl ⟨_, rfl, rfl⟩ | exact .inr ⟨_, _, rfl, rfl⟩
theorem eqv_data {t u : Pl} (h : PyData.eqv t.data u.data = true) : t = u := by
  rcases data_shape t with ⟨x, hx, e⟩ | ⟨x, j, hx, e⟩ <;> rcases data_shape u with ⟨y, hy, e'⟩ | ⟨y, j', hy, e'⟩ <;> rw [e, e'] at h <;> simp [PyData.eqv, PyData.eqvAll] at h
  · exact pl_ext (wd_inj _ (code_lt t) _ (code_lt u) (by rw [hx, hy, h.1])) h.2
  · exact pl_ext (wd_inj _ (code_lt t) _ (code_lt u) (by rw [hx, hy, h.1])) h.2.1
theorem eqv_self (t : Pl) : PyData.eqv t.data t.data = true := by
  rcases data_shape t with ⟨x, hx, e⟩ | ⟨x, j, hx, e⟩ <;> rw [e] <;> simp [PyData.eqv, PyData.eqvAll]
theorem eqv_iff {t u : Pl} : PyData.eqv t.data u.data = true ↔ t = u := ⟨eqv_data, fun e => e ▸ eqv_self t⟩
theorem eqv_ne {t u : Pl} (h : t ≠ u) : PyData.eqv t.data u.data = false := Bool.eq_false_iff.mpr fun e => h (eqv_data e)

/-- the value of a thing; vs: the blocks' values -/
inductive Va (P : Params) (vs : List Value) (h : Heap) : Value → Pl → Prop
  | boolean (i : Int) : (i = 0 ∨ i = 1) → Va P vs h (.bool (decide (i = 1))) (.boolean i)
  | whole (i : Int) (t : Tok) : Va P vs h (.int i t) (.whole i)
  | real {x : Nat} {i : Int} {t t' : Tok} : Inst2 P h x 342 (ofString "mantissa") (.int i t) (ofString "exponent") (.int 0 t') → Va P vs h (.ref x) (.real i)
  | ratio {x : Nat} {i : Int} {t t' : Tok} : Inst2 P h x 370 (ofString "top") (.int i t) (ofString "bottom") (.int 2 t') → Va P vs h (.ref x) (.ratio i)
  | char {x : Nat} {i : Int} {t : Tok} : Inst1 P h x 176 (ofString "code") (.int (97 + i) t) → Va P vs h (.ref x) (.char i)
  | symbol {x : Nat} {i : Int} {t : Tok} {u : Value} : Inst2 P h x 71 (ofString "number") (.int i t) (ofString "text") u → Va P vs h (.ref x) (.symbol i)
  | port {x : Nat} {i : Int} {t : Tok} : Inst1 P h x 281 (ofString "number") (.int i t) → Va P vs h (.ref x) (.port i)
  | procedure {x : Nat} {i : Int} {t : Tok} {u : Value} : Inst2 P h x 323 (ofString "title") u (ofString "op") (.int i t) → Va P vs h (.ref x) (.procedure i)
  | empty : Va P vs h (.ref 44) .empty
  | unspecified : Va P vs h (.ref 47) .unspecified
  | unassigned : Va P vs h (.ref 50) .unassigned
  | eof : Va P vs h (.ref 53) .eof
  | block {i : Nat} {v : Value} : vs[i]? = some v → Va P vs h v (.block i)
theorem Va.stays {P : Params} {vs : List Value} {g h : Heap} {v : Value} {t : Pl} (x : Va P vs g v t) (S : g.StaysIn h) : Va P vs h v t := by
  cases x with
  | boolean i hi => exact .boolean i hi
  | whole i t => exact .whole i t
  | real I => exact .real (I.stays S)
  | ratio I => exact .ratio (I.stays S)
  | char I => exact .char (I.stays S)
  | symbol I => exact .symbol (I.stays S)
  | port I => exact .port (I.stays S)
  | procedure I => exact .procedure (I.stays S)
  | empty => exact .empty
  | unspecified => exact .unspecified
  | unassigned => exact .unassigned
  | eof => exact .eof
  | block e => exact .block e

/-- an object of a class of the text -/
theorem hasK_inst {P : Params} {h : Heap} {x C dx : Nat} {od : Obj} (X : (K P).In h) (I : InstAt h x (instObj C dx) C (some od)) (hc : C ∈ [342, 370, 176, 71, 281, 323, 155, 197, 218, 239, 260]) : HasK P h (.ref x) C := by
  have ne : ∀ a, (K P).lookup a = some ⟨.ref 38, some (a - 1), .plain, #[]⟩ → x ≠ a := fun a e q => by
    subst q
    have := (X _ _ e).symm.trans I.at_
    simp only [instObj, Option.some.injEq, Obj.mk.injEq, Value.ref.injEq] at this
    have h38 : (38 : Nat) = C := this.1
    subst h38
    exact absurd hc (by decide)
  have n1 : x ≠ 44 := ne 44 (by rfl)
  have n2 : x ≠ 50 := ne 50 (by rfl)
  have n3 : x ≠ 53 := ne 53 (by rfl)
  have n4 : x ≠ 47 := ne 47 (by rfl)
  have kx : ∀ D : Nat, D = C → D ∈ kinds → ty D = .ref D → KitX (K P) (.ref x) (.ref D) (fun h => InstAt h x (instObj C dx) C (some od)) →
      D ≠ 44 → D ≠ 50 → D ≠ 53 → D ≠ 47 → HasK P h (.ref x) D := by
    rintro D rfl hk ht Z d1 d2 d3 d4
    exact ⟨⟨_, ht ▸ Z, I, fun h' S => instAt_stays I S⟩, hk, .inr (.inr ⟨mem_gt (l := [342, 370, 176, 71, 281, 323, 155, 197, 218, 239, 260]) (by rfl) hc, x, _, rfl, I.at_, by rw [ht]⟩), ⟨fun e => absurd (Value.ref.inj e) n1, fun e => absurd e d1⟩, ⟨fun e => absurd (Value.ref.inj e) n2, fun e => absurd e d2⟩, ⟨fun e => absurd (Value.ref.inj e) n3, fun e => absurd e d3⟩, ⟨fun e => absurd (Value.ref.inj e) n4, fun e => absurd e d4⟩⟩
  have fin : ∀ D : Nat, D = C → D ∈ kinds → ty D = .ref D → D ≠ 44 → D ≠ 50 → D ≠ 53 → D ≠ 47 → plainGet (K P) D "__class__" = true → hasDictIn (K P) D = true → findIn (K P) (.ref D) "__class__" = some (some (.builtin "object.__class__")) →
      specialIn (K P) (.builtin "object.__class__") "__get__" = some (some (.builtin "getset_descriptor.__get__")) → takesIn (K P) (.builtin "object.__class__") = some true → mroIn (K P) D (.type "object") = some true → HasK P h (.ref x) D := by
    rintro D rfl hk ht d1 d2 d3 d4 e1 e2 e3 e4 e5 e6
    exact kx D rfl hk ht (kitx_own e1 e2 e3 e4 e5 e6) d1 d2 d3 d4
  simp only [List.mem_cons, List.not_mem_nil, or_false] at hc
  rcases hc with rfl | rfl | rfl | rfl | rfl | rfl | rfl | rfl | rfl | rfl | rfl <;>
    exact fin _ rfl (by decide) (by rfl) (by decide) (by decide) (by decide) (by decide) (by kernel_rfl!) (by kernel_rfl!) (by kernel_rfl!) (by kernel_rfl!) (by kernel_rfl!) (by kernel_rfl!)
/-- the kinds of the blocks' values -/
structure Blks (P : Params) (vs : List Value) (bk : Nat → Nat) (h : Heap) : Prop where
  kd : ∀ i v, vs[i]? = some v → HasK P h v (bk i) ∧ bk i ∈ [155, 197, 218, 239, 260]
  inj : ∀ i j v : Nat, vs[i]? = some (.ref v) → vs[j]? = some (.ref v) → i = j
theorem Blks.stays {P : Params} {vs : List Value} {bk : Nat → Nat} {g h : Heap} (B : Blks P vs bk g) (S : g.StaysIn h) : Blks P vs bk h := ⟨fun i v e => ⟨(B.kd i v e).1.keeps S, (B.kd i v e).2⟩, B.inj⟩

theorem hasK_sing {P : Params} {h : Heap} {a : Nat} (X : (K P).In h) (ha : a ∈ [44, 47, 50, 53]) : HasK P h (.ref a) a := by
  have fin : ∀ od, (K P).lookup a = some ⟨.ref 38, some (a - 1), .plain, #[]⟩ → (K P).lookup (a - 1) = some od → a ∈ kinds → ty a = .ref 38 → HasK P h (.ref a) a := by
    intro od e1 e2 hk ht
    have I : InstAt h a ⟨.ref 38, some (a - 1), .plain, #[]⟩ 38 (some od) := ⟨X _ _ e1, rfl, rfl, X _ _ e2⟩
    have Z : KitX (K P) (.ref a) (.ref 38) (fun h => InstAt h a ⟨.ref 38, some (a - 1), .plain, #[]⟩ 38 (some od)) :=
      kitx_own (by kernel_rfl!) (by kernel_rfl!) (by kernel_rfl!) (by kernel_rfl!) (by kernel_rfl!) (by kernel_rfl!)
    refine ⟨⟨_, ht ▸ Z, I, fun h' S => instAt_stays I S⟩, hk, .inr (.inr ⟨?_, a, _, rfl, I.at_, by rw [ht]⟩), ⟨Value.ref.inj, fun e => by rw [e]⟩, ⟨Value.ref.inj, fun e => by rw [e]⟩, ⟨Value.ref.inj, fun e => by rw [e]⟩, ⟨Value.ref.inj, fun e => by rw [e]⟩⟩
    simp only [List.mem_cons, List.not_mem_nil, or_false] at ha; omega
  simp only [List.mem_cons, List.not_mem_nil, or_false] at ha
  rcases ha with rfl | rfl | rfl | rfl <;> exact fin _ (by rfl) (by rfl) (by decide) (by rfl)
theorem hasK_bool {P : Params} {h : Heap} {b : Bool} : HasK P h (.bool b) 0 :=
  ⟨⟨_, kitx_bool, trivial, fun _ _ => trivial⟩, by decide, .inl ⟨rfl, _, rfl⟩, ⟨fun e => (by cases e), fun e => absurd e (by decide)⟩, ⟨fun e => (by cases e), fun e => absurd e (by decide)⟩, ⟨fun e => (by cases e), fun e => absurd e (by decide)⟩, ⟨fun e => (by cases e), fun e => absurd e (by decide)⟩⟩
theorem hasK_int {P : Params} {h : Heap} {i : Int} {t : Tok} : HasK P h (.int i t) 1 :=
  ⟨⟨_, kitx_int, trivial, fun _ _ => trivial⟩, by decide, .inr (.inl ⟨rfl, _, _, rfl⟩), ⟨fun e => (by cases e), fun e => absurd e (by decide)⟩, ⟨fun e => (by cases e), fun e => absurd e (by decide)⟩, ⟨fun e => (by cases e), fun e => absurd e (by decide)⟩, ⟨fun e => (by cases e), fun e => absurd e (by decide)⟩⟩
theorem Inst1.hasK {P : Params} {h : Heap} {x C : Nat} {a : PySem.Str} {v : Value} (I : Inst1 P h x C a v) (X : (K P).In h) (hc : C ∈ [342, 370, 176, 71, 281, 323, 155, 197, 218, 239, 260]) : HasK P h (.ref x) C := let ⟨_, _, _, i⟩ := I; hasK_inst X i hc
theorem Inst2.hasK {P : Params} {h : Heap} {x C : Nat} {a b : PySem.Str} {v u : Value} (I : Inst2 P h x C a v b u) (X : (K P).In h) (hc : C ∈ [342, 370, 176, 71, 281, 323, 155, 197, 218, 239, 260]) : HasK P h (.ref x) C := let ⟨_, _, _, _, i⟩ := I; hasK_inst X i hc
noncomputable def Pl.val : Pl → Int
  | .char i => 97 + i
  | t => t.arg
theorem Va.hasK {P : Params} {vs : List Value} {bk : Nat → Nat} {h : Heap} {v : Value} {t : Pl} (x : Va P vs h v t) (X : (K P).In h) (B : Blks P vs bk h) : HasK P h v (t.kd bk) := by
  cases x with
  | boolean i hi => exact hasK_bool
  | whole i t => exact hasK_int
  | real I => exact I.hasK X (by decide)
  | ratio I => exact I.hasK X (by decide)
  | char I => exact I.hasK X (by decide)
  | symbol I => exact I.hasK X (by decide)
  | port I => exact I.hasK X (by decide)
  | procedure I => exact I.hasK X (by decide)
  | empty => exact hasK_sing X (by decide)
  | unspecified => exact hasK_sing X (by decide)
  | unassigned => exact hasK_sing X (by decide)
  | eof => exact hasK_sing X (by decide)
  | block e => exact (B.kd _ _ e).1

section
variable {P : Params} {vs : List Value} {bk : Nat → Nat} {h : Heap} {v u : Value} {t t' : Pl}
theorem Blks.kd' (B : Blks P vs bk h) (x : Va P vs h v t) {i : Nat} (e : t = .block i) : bk i ∈ [155, 197, 218, 239, 260] := by
  cases x <;> first | (cases e; done) | skip
  cases e
  exact (B.kd _ _ (by assumption)).2
noncomputable def kdc : List Nat := [0, 1, 342, 370, 176, 71, 281, 323, 44, 47, 50, 53]
theorem kdc_inj : ∀ a < 12, ∀ b < 12, kdc[a]? = kdc[b]? → a = b := by decide
theorem kd_shape (bk : Nat → Nat) (t : Pl) : (t.code < 12 ∧ kdc[t.code]? = some (t.kd bk)) ∨ ∃ i, t = .block i := by
  cases t <;> first | exact .inr ⟨_, rfl⟩ | exact .inl ⟨by simp only [Pl.code]; decide, rfl⟩
theorem kdc_off : ∀ a < 12, ∀ k ∈ ([155, 197, 218, 239, 260] : List Nat), kdc[a]? ≠ some k := by decide
/-- things of the same kind, not blocks, are of the same make -/
theorem code_eq (B : Blks P vs bk h) (x : Va P vs h v t) (y : Va P vs h u t') (e : t.kd bk = t'.kd bk) : t.code = t'.code := by
  rcases kd_shape bk t with ⟨l, hk⟩ | ⟨i, hi⟩ <;> rcases kd_shape bk t' with ⟨l', hk'⟩ | ⟨j, hj⟩
  · exact kdc_inj _ l _ l' (by rw [hk, hk', e])
  · have := B.kd' y hj
    subst hj
    exact absurd (hk.trans (congrArg some e)) (kdc_off _ l _ this)
  · have := B.kd' x hi
    subst hi
    exact absurd (hk'.trans (congrArg some e.symm)) (kdc_off _ l' _ this)
  · subst hi; subst hj; rfl
theorem val_arg (t : Pl) : t.val = (if t.code = 4 then 97 + t.arg else t.arg) := by cases t <;> rfl
theorem arg_zero (t : Pl) (h : 8 ≤ t.code) (h' : t.code < 12) : t.arg = 0 := by cases t <;> first | rfl | (simp only [Pl.code] at h; omega) | (simp only [Pl.code] at h'; omega)
/-- of two things of one kind that is told by a number -/
theorem eqv_val (B : Blks P vs bk h) (x : Va P vs h v t) (y : Va P vs h u t') (e : t.kd bk = t'.kd bk) : PyData.eqv t.data t'.data = true ↔ t.val = t'.val := by
  have hc := code_eq B x y e
  rw [eqv_iff, val_arg, val_arg, hc]
  constructor
  · intro e; rw [e]
  · intro e
    refine pl_ext hc ?_
    split at e <;> omega
/-- of all else: the same thing is the same object -/
theorem kd8 : ∀ a < 8, ∀ k, kdc[a]? = some k → 1 < k → k ∉ [342, 370] → k ∉ [176, 71, 281, 323] → False := by
  intro a ha k e
  rcases lt8 ha with rfl | rfl | rfl | rfl | rfl | rfl | rfl | rfl <;> cases e <;> decide
theorem eqv_is (X : (K P).In h) (B : Blks P vs bk h) (x : Va P vs h v t) (y : Va P vs h u t') (h1 : 1 < t.kd bk) (hn : t.kd bk ∉ [342, 370]) (hb : t.kd bk = t'.kd bk → t.kd bk ∉ [176, 71, 281, 323]) :
    PyData.eqv t.data t'.data = true ↔ v = u := by
  rw [eqv_iff]
  have kx := x.hasK X B
  have ky := y.hasK X B
  constructor
  · intro e
    subst e
    have hb := hb rfl
    rcases kd_shape bk t with ⟨l, hk⟩ | ⟨i, hi⟩
    · have l8 : 8 ≤ t.code := by
        refine Nat.le_of_not_lt fun q => ?_
        exact kd8 _ q _ hk h1 hn hb
      clear kx ky
      cases x <;> first | (simp only [Pl.code] at l8; exact absurd l8 (by decide)) | (cases y; rfl) | (simp only [Pl.code] at l; exact absurd l (by decide))
    · subst hi
      cases x
      cases y
      exact Option.some.inj ((by assumption : vs[_]? = some v).symm.trans (by assumption : vs[_]? = some u))
  · intro e
    subst e
    have ek := kx.inj ky
    have hc := code_eq B x y ek
    have hb := hb ek
    rcases kd_shape bk t with ⟨l, hk⟩ | ⟨i, hi⟩
    · have l8 : 8 ≤ t.code := by
        refine Nat.le_of_not_lt fun q => ?_
        exact kd8 _ q _ hk h1 hn hb
      exact pl_ext hc ((arg_zero t l8 l).trans (arg_zero t' (hc ▸ l8) (hc ▸ l)).symm)
    · subst hi
      rcases kd_shape bk t' with ⟨l', _⟩ | ⟨j, hj⟩
      · rw [← hc] at l'; exact absurd l' (by simp only [Pl.code]; decide)
      subst hj
      obtain ⟨a, ha⟩ : ∃ a, v = .ref a := by
        rcases kx.form with ⟨e, _⟩ | ⟨e, _⟩ | ⟨_, a, _, e, _⟩
        · rw [e] at h1; exact absurd h1 (by decide)
        · rw [e] at h1; exact absurd h1 (by decide)
        · exact ⟨a, e⟩
      cases x with
      | block e1 => cases y with
        | block e2 => rw [B.inj i j a (ha ▸ e1) (ha ▸ e2)]
end
theorem isnum_spec {w : World} {mean : ExcName → Option Value} {mg mb : PySem.Str → Option Value} {base : Heap} {s : Shared} {v : Value} {k : Nat}
    (X : (K w.params).In base) (T : Top q (looseW q loose) mean mg mb base) (keep : base.StaysIn s.heap) (hv : HasK w.params s.heap v k) :
    codeAny (model P0 w) (ad 900 9000) (.call (.ref 444) ⟨[v], []⟩) (Ret s [] fun r _ => r = .bool (isNum k)) s := by
  refine enterN (binds := [(ofString "value", v)]) X T keep (by rfl) (by rfl) (by decide) (BindsTo.of_eq rfl) (locs rfl) (by decide) rfl rfl rfl ?_
  intro L' h₁ tk' hL F' N' X' T'
  k_fold
  repeat' (first
    | (k_extra "isi")
    | (k_extra "attr")
    | (k_extra "def")
    | (k_extra "combo")
    | (k_unfold; (try dsimp only))
    | (k_end; wrow_close)
    | walk1
    | (dsimp only; walk1)
    | (leave1; (try dsimp only))
    | fail "no step")
  all_goals exact ret_mk (by repeat (first | exact stays_refl | with_reducible assumption | refine stays_step (by with_reducible assumption) ?_)) (by refine bool_val ?_; (try simp only [isNum, beq_iff_eq, Bool.or_eq_true, Bool.and_eq_true, Bool.not_eq_true', decide_eq_true_eq, decide_eq_false_iff_not, Bool.false_eq_true, iff_true, true_iff, iff_false, false_iff]); (try omega))

theorem same_real_spec {w : World} {mean : ExcName → Option Value} {mg mb : PySem.Str → Option Value} {base : Heap} {s : Shared} {x y : Nat} {i j : Int} {t t1 u u1 : Tok}
    (X : (K w.params).In base) (T : Top q (looseW q loose) mean mg mb base) (keep : base.StaysIn s.heap) (hx : Inst2 w.params s.heap x 342 (ofString "mantissa") (.int i t) (ofString "exponent") (.int 0 t1)) (hy : Inst2 w.params s.heap y 342 (ofString "mantissa") (.int j u) (ofString "exponent") (.int 0 u1)) :
    codeAny (model P0 w) (ad 900 9000) (.call (.ref 353) ⟨[.ref x, .ref y], []⟩) (Ret s [] fun r _ => r = .bool (decide (i = j))) s := by
  obtain ⟨dx, n, z1, z2, I⟩ := hx
  obtain ⟨dy, m, z3, z4, J⟩ := hy
  refine enterN (binds := [(ofString "one", .ref x), (ofString "other", .ref y)]) X T keep (by rfl) (by rfl) (by decide) (BindsTo.of_eq rfl) (locs rfl) (by decide) rfl rfl rfl ?_
  intro L' h₁ tk' hL F' N' X' T'
  k_fold
  repeat' (first
    | (k_extra "isi")
    | (k_extra "attr")
    | (k_extra "def")
    | (k_extra "combo")
    | (k_unfold; (try dsimp only))
    | (k_end; wrow_close)
    | walk1
    | (dsimp only; walk1)
    | (leave1; (try dsimp only))
    | fail "no step")
  all_goals exact ret_mk (by repeat (first | exact stays_refl | with_reducible assumption | refine stays_step (by with_reducible assumption) ?_)) (by refine bool_val ?_; (try simp only [isNum, beq_iff_eq, Bool.or_eq_true, Bool.and_eq_true, Bool.not_eq_true', decide_eq_true_eq, decide_eq_false_iff_not, Bool.false_eq_true, iff_true, true_iff, iff_false, false_iff]); (try omega))

inductive Ex (P : Params) (h : Heap) : Value → Int → Int → Prop
  | whole (i : Int) (t : Tok) : Ex P h (.int i t) i 1
  | ratio {x : Nat} {i d : Int} {t t' : Tok} : Inst2 P h x 370 (ofString "top") (.int i t) (ofString "bottom") (.int d t') → Ex P h (.ref x) i d
theorem Ex.stays {P : Params} {g h : Heap} {v : Value} {i d : Int} (e : Ex P g v i d) (S : g.StaysIn h) : Ex P h v i d := by
  cases e with
  | whole i t => exact .whole i t
  | ratio I => exact .ratio (I.stays S)
theorem top_spec {w : World} {mean : ExcName → Option Value} {mg mb : PySem.Str → Option Value} {base : Heap} {s : Shared} {v : Value} {i d : Int}
    (X : (K w.params).In base) (T : Top q (looseW q loose) mean mg mb base) (keep : base.StaysIn s.heap) (hv : Ex w.params s.heap v i d) :
    codeAny (model P0 w) (ad 900 9000) (.call (.ref 395) ⟨[v], []⟩) (Ret s [] fun r _ => ∃ t, r = .int i t) s := by
  cases hv with
  | whole i t =>
    have hk := hasK_int (P := w.params) (h := s.heap) (i := i) (t := t)
    refine enterN (binds := [(ofString "number", .int i t)]) X T keep (by rfl) (by rfl) (by decide) (BindsTo.of_eq rfl) (locs rfl) (by decide) rfl rfl rfl ?_
    intro L' h₁ tk' hL F' N' X' T'
    k_fold
    repeat' (first
      | (k_extra "isi")
      | (k_extra "attr")
      | (k_extra "def")
      | (k_extra "combo")
      | (k_unfold; (try dsimp only))
      | (k_end; wrow_close)
      | walk1
      | (dsimp only; walk1)
      | (leave1; (try dsimp only))
      | fail "no step")
    all_goals exact ret_mk (by repeat (first | exact stays_refl | with_reducible assumption | refine stays_step (by with_reducible assumption) ?_)) ⟨_, rfl⟩
  | ratio I =>
    rename_i x t t'
    have hk := I.hasK (X.keeps keep) (by decide)
    obtain ⟨dx, n, z1, z2, I⟩ := I
    refine enterN (binds := [(ofString "number", .ref x)]) X T keep (by rfl) (by rfl) (by decide) (BindsTo.of_eq rfl) (locs rfl) (by decide) rfl rfl rfl ?_
    intro L' h₁ tk' hL F' N' X' T'
    k_fold
    repeat' (first
      | (k_extra "isi")
      | (k_extra "attr")
      | (k_extra "def")
      | (k_extra "combo")
      | (k_unfold; (try dsimp only))
      | (k_end; wrow_close)
      | walk1
      | (dsimp only; walk1)
      | (leave1; (try dsimp only))
      | fail "no step")
    all_goals exact ret_mk (by repeat (first | exact stays_refl | with_reducible assumption | refine stays_step (by with_reducible assumption) ?_)) ⟨_, rfl⟩
theorem bottom_spec {w : World} {mean : ExcName → Option Value} {mg mb : PySem.Str → Option Value} {base : Heap} {s : Shared} {v : Value} {i d : Int}
    (X : (K w.params).In base) (T : Top q (looseW q loose) mean mg mb base) (keep : base.StaysIn s.heap) (hv : Ex w.params s.heap v i d) :
    codeAny (model P0 w) (ad 900 9000) (.call (.ref 402) ⟨[v], []⟩) (Ret s [] fun r _ => ∃ t, r = .int d t) s := by
  cases hv with
  | whole i t =>
    have hk := hasK_int (P := w.params) (h := s.heap) (i := i) (t := t)
    refine enterN (binds := [(ofString "number", .int i t)]) X T keep (by rfl) (by rfl) (by decide) (BindsTo.of_eq rfl) (locs rfl) (by decide) rfl rfl rfl ?_
    intro L' h₁ tk' hL F' N' X' T'
    k_fold
    repeat' (first
      | (k_extra "isi")
      | (k_extra "attr")
      | (k_extra "def")
      | (k_extra "combo")
      | (k_unfold; (try dsimp only))
      | (k_end; wrow_close)
      | walk1
      | (dsimp only; walk1)
      | (leave1; (try dsimp only))
      | fail "no step")
    all_goals exact ret_mk (by repeat (first | exact stays_refl | with_reducible assumption | refine stays_step (by with_reducible assumption) ?_)) ⟨_, rfl⟩
  | ratio I =>
    rename_i x t t'
    have hk := I.hasK (X.keeps keep) (by decide)
    obtain ⟨dx, n, z1, z2, I⟩ := I
    refine enterN (binds := [(ofString "number", .ref x)]) X T keep (by rfl) (by rfl) (by decide) (BindsTo.of_eq rfl) (locs rfl) (by decide) rfl rfl rfl ?_
    intro L' h₁ tk' hL F' N' X' T'
    k_fold
    repeat' (first
      | (k_extra "isi")
      | (k_extra "attr")
      | (k_extra "def")
      | (k_extra "combo")
      | (k_unfold; (try dsimp only))
      | (k_end; wrow_close)
      | walk1
      | (dsimp only; walk1)
      | (leave1; (try dsimp only))
      | fail "no step")
    all_goals exact ret_mk (by repeat (first | exact stays_refl | with_reducible assumption | refine stays_step (by with_reducible assumption) ?_)) ⟨_, rfl⟩

theorem equal_exact_spec {w : World} {mean : ExcName → Option Value} {mg mb : PySem.Str → Option Value} {base : Heap} {s : Shared} {v u : Value} {i d j e : Int}
    (X : (K w.params).In base) (T : Top q (looseW q loose) mean mg mb base) (keep : base.StaysIn s.heap) (hv : Ex w.params s.heap v i d) (hu : Ex w.params s.heap u j e) :
    codeAny (model P0 w) (ad 850 8500) (.call (.ref 430) ⟨[v, u], []⟩) (Ret s [] fun r _ => r = .bool (decide (i = j) && decide (d = e))) s := by
  refine enterN (binds := [(ofString "one", v), (ofString "other", u)]) X T keep (by rfl) (by rfl) (by decide) (BindsTo.of_eq rfl) (locs rfl) (by decide) rfl rfl rfl ?_
  intro L' h₁ tk' hL F' N' X' T'
  k_fold
  repeat' (first
    | ((with_reducible show wpAny _ _ (call (Value.ref 395) _) _ _ _); k_dflt (refine' call_spec (top_spec ?X ?T ?S ?h) rfl ?zd ?zu ?F ?N ?_; (case F => k_asm); (case N => k_asm); (case S => exact stays_fr (by k_asm)); (case X => k_asm); (case T => k_asm); (case h => first | assumption | exact Ex.stays (by assumption) (by repeat (first | exact stays_refl | with_reducible assumption | refine stays_step (by with_reducible assumption) ?_))); (case zd => exact Nat.le_of_ble_eq_true rfl); (case zu => exact Nat.le_of_ble_eq_true rfl)); intro r' h' tk' F' N' S' p'; (obtain ⟨t', e'⟩ := p'); subst e'; (try k_sweep))
    | ((with_reducible show wpAny _ _ (call (Value.ref 402) _) _ _ _); k_dflt (refine' call_spec (bottom_spec ?X ?T ?S ?h) rfl ?zd ?zu ?F ?N ?_; (case F => k_asm); (case N => k_asm); (case S => exact stays_fr (by k_asm)); (case X => k_asm); (case T => k_asm); (case h => first | assumption | exact Ex.stays (by assumption) (by repeat (first | exact stays_refl | with_reducible assumption | refine stays_step (by with_reducible assumption) ?_))); (case zd => exact Nat.le_of_ble_eq_true rfl); (case zu => exact Nat.le_of_ble_eq_true rfl)); intro r' h' tk' F' N' S' p'; (obtain ⟨t', e'⟩ := p'); subst e'; (try k_sweep))
    | (k_extra "isi")
    | (k_extra "attr")
    | (k_extra "def")
    | (k_extra "combo")
    | (k_unfold; (try dsimp only))
    | (k_end; wrow_close)
    | walk1
    | (dsimp only; walk1)
    | (leave1; (try dsimp only))
    | fail "no step")
  all_goals exact ret_mk (by repeat (first | exact stays_refl | with_reducible assumption | refine stays_step (by with_reducible assumption) ?_)) (by refine bool_val ?_; (try simp only [isNum, beq_iff_eq, Bool.or_eq_true, Bool.and_eq_true, Bool.not_eq_true', decide_eq_true_eq, decide_eq_false_iff_not, Bool.false_eq_true, iff_true, true_iff, iff_false, false_iff]); (try omega))
theorem kd_code {P : Params} {vs : List Value} {bk : Nat → Nat} {h : Heap} {v : Value} {t : Pl} (B : Blks P vs bk h) (x : Va P vs h v t) {c k : Nat} (hc : kdc[c]? = some k) (e : t.kd bk = k) : t.code = c := by
  have l : c < 12 := by
    refine Nat.lt_of_not_le fun q => ?_
    rw [List.getElem?_eq_none (by exact q)] at hc; cases hc
  rcases kd_shape bk t with ⟨l', hk⟩ | ⟨i, hi⟩
  · exact kdc_inj _ l' _ l (by rw [hk, hc, e])
  · have := B.kd' x hi
    subst hi
    exact absurd (hc.trans (congrArg some e.symm)) (kdc_off _ l _ this)
theorem same_realV {w : World} {mean : ExcName → Option Value} {mg mb : PySem.Str → Option Value} {base : Heap} {s : Shared} {vs : List Value} {bk : Nat → Nat} {v u : Value} {t t' : Pl}
    (X : (K w.params).In base) (T : Top q (looseW q loose) mean mg mb base) (keep : base.StaysIn s.heap) (B : Blks w.params vs bk s.heap) (hv : Va w.params vs s.heap v t) (hu : Va w.params vs s.heap u t') (h1 : t.kd bk = 342) (h2 : t'.kd bk = 342) :
    codeAny (model P0 w) (ad 900 9000) (.call (.ref 353) ⟨[v, u], []⟩) (Ret s [] fun r _ => r = .bool (PyData.eqv t.data t'.data)) s := by
  have c1 := kd_code (c := 2) B hv rfl h1
  have c2 := kd_code (c := 2) B hu rfl h2
  cases hv <;> simp only [Pl.code] at c1 <;> first | (exfalso; omega) | skip
  cases hu <;> simp only [Pl.code] at c2 <;> first | (exfalso; omega) | skip
  rename_i x i z1 z2 I y j z3 z4 J
  have e : PyData.eqv (Pl.real i).data (Pl.real j).data = decide (i = j) := by
    rw [Bool.eq_iff_iff, eqv_iff, decide_eq_true_eq, Pl.real.injEq]
  rw [e]
  exact same_real_spec X T keep I J
theorem Va.ex {P : Params} {vs : List Value} {bk : Nat → Nat} {h : Heap} {v : Value} {t : Pl} (B : Blks P vs bk h) (x : Va P vs h v t) (hk : t.kd bk = 1 ∨ t.kd bk = 370) : Ex P h v t.arg (if t.code = 1 then 1 else 2) ∧ (t.code = 1 ∨ t.code = 3) := by
  have hc : t.code = 1 ∨ t.code = 3 := hk.imp (fun e => kd_code (c := 1) B x rfl e) (fun e => kd_code (c := 3) B x rfl e)
  refine ⟨?_, hc⟩
  cases x <;> simp only [Pl.code] at hc <;> first | (exfalso; omega) | skip
  · exact .whole _ _
  · exact .ratio (by assumption)
theorem equal_exactV {w : World} {mean : ExcName → Option Value} {mg mb : PySem.Str → Option Value} {base : Heap} {s : Shared} {vs : List Value} {bk : Nat → Nat} {v u : Value} {t t' : Pl}
    (X : (K w.params).In base) (T : Top q (looseW q loose) mean mg mb base) (keep : base.StaysIn s.heap) (B : Blks w.params vs bk s.heap) (hv : Va w.params vs s.heap v t) (hu : Va w.params vs s.heap u t') (h1 : t.kd bk = 1 ∨ t.kd bk = 370) (h2 : t'.kd bk = 1 ∨ t'.kd bk = 370) :
    codeAny (model P0 w) (ad 850 8500) (.call (.ref 430) ⟨[v, u], []⟩) (Ret s [] fun r _ => r = .bool (PyData.eqv t.data t'.data)) s := by
  obtain ⟨x1, c1⟩ := hv.ex B h1
  obtain ⟨x2, c2⟩ := hu.ex B h2
  have e : PyData.eqv t.data t'.data = (decide (t.arg = t'.arg) && decide ((if t.code = 1 then (1 : Int) else 2) = (if t'.code = 1 then 1 else 2))) := by
    rw [Bool.eq_iff_iff, eqv_iff, Bool.and_eq_true, decide_eq_true_eq, decide_eq_true_eq]
    constructor
    · intro e; rw [e]; exact ⟨rfl, rfl⟩
    · rintro ⟨a, b⟩
      exact pl_ext (by split at b <;> split at b <;> omega) a
  rw [e]
  exact equal_exact_spec X T keep x1 x2

theorem same_number_spec {w : World} {mean : ExcName → Option Value} {mg mb : PySem.Str → Option Value} {base : Heap} {s : Shared} {vs : List Value} {bk : Nat → Nat} {v u : Value} {t t' : Pl}
    (X : (K w.params).In base) (T : Top q (looseW q loose) mean mg mb base) (keep : base.StaysIn s.heap) (B : Blks w.params vs bk s.heap) (hv : Va w.params vs s.heap v t) (hu : Va w.params vs s.heap u t') (h1 : isNum (t.kd bk) = true) (h2 : isNum (t'.kd bk) = true) :
    codeAny (model P0 w) (ad 800 8000) (.call (.ref 451) ⟨[v, u], []⟩) (Ret s [] fun r _ => r = .bool (PyData.eqv t.data t'.data)) s := by
  have k1 := hv.hasK (X.keeps keep) B
  have k2 := hu.hasK (X.keeps keep) B
  have n1 : t.kd bk = 1 ∨ t.kd bk = 342 ∨ t.kd bk = 370 := by simpa [isNum, or_assoc] using h1
  have n2 : t'.kd bk = 1 ∨ t'.kd bk = 342 ∨ t'.kd bk = 370 := by simpa [isNum, or_assoc] using h2
  clear h1 h2
  refine enterN (binds := [(ofString "one", v), (ofString "other", u)]) X T keep (by rfl) (by rfl) (by decide) (BindsTo.of_eq rfl) (locs rfl) (by decide) rfl rfl rfl ?_
  intro L' h₁ tk' hL F' N' X' T'
  k_fold
  repeat' (first
    | ((with_reducible show wpAny _ _ (call (Value.ref 353) _) _ _ _); k_dflt (refine' call_spec (same_realV ?X ?T ?S ?B ?hv ?hu ?h1 ?h2) rfl ?zd ?zu ?F ?N ?_; (case F => k_asm); (case N => k_asm); (case S => exact stays_fr (by k_asm)); (case X => k_asm); (case T => k_asm); (case B => first | assumption | exact Blks.stays (by assumption) (by repeat (first | exact stays_refl | with_reducible assumption | refine stays_step (by with_reducible assumption) ?_))); (case hv => first | assumption | exact Va.stays (by assumption) (by repeat (first | exact stays_refl | with_reducible assumption | refine stays_step (by with_reducible assumption) ?_))); (case hu => first | assumption | exact Va.stays (by assumption) (by repeat (first | exact stays_refl | with_reducible assumption | refine stays_step (by with_reducible assumption) ?_))); (case h1 => omega); (case h2 => omega); (case zd => exact Nat.le_of_ble_eq_true rfl); (case zu => exact Nat.le_of_ble_eq_true rfl)); intro r' h' tk' F' N' S' p'; subst p'; (try k_sweep))
    | ((with_reducible show wpAny _ _ (call (Value.ref 430) _) _ _ _); k_dflt (refine' call_spec (equal_exactV ?X ?T ?S ?B ?hv ?hu ?h1 ?h2) rfl ?zd ?zu ?F ?N ?_; (case F => k_asm); (case N => k_asm); (case S => exact stays_fr (by k_asm)); (case X => k_asm); (case T => k_asm); (case B => first | assumption | exact Blks.stays (by assumption) (by repeat (first | exact stays_refl | with_reducible assumption | refine stays_step (by with_reducible assumption) ?_))); (case hv => first | assumption | exact Va.stays (by assumption) (by repeat (first | exact stays_refl | with_reducible assumption | refine stays_step (by with_reducible assumption) ?_))); (case hu => first | assumption | exact Va.stays (by assumption) (by repeat (first | exact stays_refl | with_reducible assumption | refine stays_step (by with_reducible assumption) ?_))); (case h1 => omega); (case h2 => omega); (case zd => exact Nat.le_of_ble_eq_true rfl); (case zu => exact Nat.le_of_ble_eq_true rfl)); intro r' h' tk' F' N' S' p'; subst p'; (try k_sweep))
    | (k_extra "isi")
    | (k_extra "attr")
    | (k_extra "def")
    | (k_extra "combo")
    | (k_unfold; (try dsimp only))
    | (k_end; wrow_close)
    | walk1
    | (dsimp only; walk1)
    | (leave1; (try dsimp only))
    | fail "no step")
  all_goals exact ret_mk (by repeat (first | exact stays_refl | with_reducible assumption | refine stays_step (by with_reducible assumption) ?_)) (by first | rfl | (refine bool_val ?_; rw [eqv_iff, decide_eq_true_eq]; exact ⟨fun e => absurd e (by omega), fun e => by have := congrArg (Pl.kd bk) e; omega⟩))
theorem not_num' {k : Nat} (h : isNum k = false) : k ≠ 1 ∧ k ≠ 342 ∧ k ≠ 370 := by
  simp only [isNum, Bool.or_eq_false_iff, decide_eq_false_iff_not] at h; omega
theorem not_num {k : Nat} (h : isNum k = false) (h0 : ¬ k = 0) : 1 < k := by
  have := not_num' h; omega
theorem end_r {bk : Nat → Nat} {t t' : Pl} (h : isNum (t.kd bk) = true) (h' : isNum (t'.kd bk) = false) : Value.bool (isNum (t'.kd bk)) = Value.bool (PyData.eqv t.data t'.data) := by
  rw [h', eqv_ne]; intro e; rw [e, h'] at h; cases h
theorem end_l {bk : Nat → Nat} {t t' : Pl} (h : isNum (t.kd bk) = false) (h' : isNum (t'.kd bk) = true) : Value.bool (isNum (t.kd bk)) = Value.bool (PyData.eqv t.data t'.data) := by
  rw [h, eqv_ne]; intro e; rw [e, h'] at h; cases h
section
variable {w : World} {A : Around} {E : Value → Shared → Prop} {s : Shared} {Q : Value → Shared → Prop} {v u : Value} {t t' : Pl} {g h₀ : Heap} {L : Addr} {m : PySem.Str → Option Value} {vs : List Value} {bk : Nat → Nat}
theorem attr_any {expr : Bool} {C : Nat} {name : PySem.Str} (F : Fr h₀ L s.heap m) (X₀ : (K w.params).In h₀) (B : Blks w.params vs bk g) (hv : Va w.params vs g v t) (S : g.StaysIn s.heap) (hk : t.kd bk = C)
    (hC : (C, name) ∈ ([(176, ofString "code"), (71, ofString "number"), (281, ofString "number"), (323, ofString "op")] : List (Nat × PySem.Str))) (h : ∀ tk z, Q (.int t.val z) { s with toks := tk }) :
    wpAny (model P0 w) A (getAttr v name expr) Q E s := by
  simp only [List.mem_cons, List.not_mem_nil, or_false, Prod.mk.injEq] at hC
  rcases hC with ⟨rfl, rfl⟩ | ⟨rfl, rfl⟩ | ⟨rfl, rfl⟩ | ⟨rfl, rfl⟩
  · have c := kd_code (c := 4) B hv rfl hk
    cases hv <;> simp only [Pl.code] at c <;> first | (exfalso; omega) | skip
    rename_i I; obtain ⟨dx, n, z, I⟩ := I
    exact get_own F X₀ (instAt_stays I S) (by kernel_rfl!) (by kernel_rfl!) (attr := none) (by kernel_rfl!) (by kernel_rfl!) (v := .int _ _) (by rfl) (by rfl) (h _ _)
  · have c := kd_code (c := 5) B hv rfl hk
    cases hv <;> simp only [Pl.code] at c <;> first | (exfalso; omega) | skip
    rename_i I; obtain ⟨dx, n, z, z', I⟩ := I
    exact get_own F X₀ (instAt_stays I S) (by kernel_rfl!) (by kernel_rfl!) (attr := none) (by kernel_rfl!) (by kernel_rfl!) (v := .int _ _) (by rfl) (by rfl) (h _ _)
  · have c := kd_code (c := 6) B hv rfl hk
    cases hv <;> simp only [Pl.code] at c <;> first | (exfalso; omega) | skip
    rename_i I; obtain ⟨dx, n, z, I⟩ := I
    exact get_own F X₀ (instAt_stays I S) (by kernel_rfl!) (by kernel_rfl!) (attr := none) (by kernel_rfl!) (by kernel_rfl!) (v := .int _ _) (by rfl) (by rfl) (h _ _)
  · have c := kd_code (c := 7) B hv rfl hk
    cases hv <;> simp only [Pl.code] at c <;> first | (exfalso; omega) | skip
    rename_i I; obtain ⟨dx, n, z, z', I⟩ := I
    exact get_own F X₀ (instAt_stays I S) (by kernel_rfl!) (by kernel_rfl!) (attr := none) (by kernel_rfl!) (by kernel_rfl!) (v := .int _ _) (by rfl) (by rfl) (h _ _)
theorem eqb_any (B : Blks w.params vs bk g) (hv : Va w.params vs g v t) (hu : Va w.params vs g u t') (h1 : t.kd bk = 0) (h2 : t'.kd bk = 0) (h : Q (.bool (PyData.eqv t.data t'.data)) s) : wpAny (model P0 w) A (compareOp .Eq v u) Q E s := by
  have c1 := kd_code (c := 0) B hv rfl h1
  have c2 := kd_code (c := 0) B hu rfl h2
  cases hv <;> simp only [Pl.code] at c1 <;> first | (exfalso; omega) | skip
  cases hu <;> simp only [Pl.code] at c2 <;> first | (exfalso; omega) | skip
  rename_i i hi j hj
  refine eq_bool ?_
  rw [show (decide (i = 1) == decide (j = 1)) = PyData.eqv (Pl.boolean i).data (Pl.boolean j).data from ?_]
  · exact h
  · rw [Bool.eq_iff_iff, eqv_iff, Pl.boolean.injEq]
    rcases hi with rfl | rfl <;> rcases hj with rfl | rfl <;> decide
end

theorem same_spec {w : World} {mean : ExcName → Option Value} {mg mb : PySem.Str → Option Value} {base : Heap} {s : Shared} {vs : List Value} {bk : Nat → Nat} {v u : Value} {t t' : Pl} {st : Value}
    (X : (K w.params).In base) (T : Top q (looseW q loose) mean mg mb base) (keep : base.StaysIn s.heap) (B : Blks w.params vs bk s.heap) (hv : Va w.params vs s.heap v t) (hu : Va w.params vs s.heap u t') :
    codeAny (model P0 w) (ad 750 7500) (.call (.ref 801) ⟨[st, v, u], []⟩) (Ret s [] fun r _ => r = .bool (PyData.eqv t.data t'.data)) s := by
  have X1 := X.keeps keep
  have k1 := hv.hasK X1 B
  have k2 := hu.hasK X1 B
  refine enterN (binds := [(ofString "self", st), (ofString "one", v), (ofString "other", u)]) X T keep (by rfl) (by rfl) (by decide) (BindsTo.of_eq rfl) (locs rfl) (by decide) rfl rfl rfl ?_
  intro L' h₁ tk' hL F' N' X' T'
  k_fold
  repeat' (first
    | ((with_reducible show wpAny _ _ (call (Value.ref 444) _) _ _ _); k_dflt (refine' call_spec (isnum_spec ?X ?T ?S ?hv) rfl ?zd ?zu ?F ?N ?_; (case F => k_asm); (case N => k_asm); (case S => exact stays_fr (by k_asm)); (case X => k_asm); (case T => k_asm); (case hv => first | assumption | exact HasK.keeps (by assumption) (by repeat (first | exact stays_refl | with_reducible assumption | refine stays_step (by with_reducible assumption) ?_))); (case zd => exact Nat.le_of_ble_eq_true rfl); (case zu => exact Nat.le_of_ble_eq_true rfl)); intro r' h' tk' F' N' S' p'; subst p'; (try k_sweep))
    | ((with_reducible show wpAny _ _ (call (Value.ref 451) _) _ _ _); k_dflt (refine' call_spec (same_number_spec ?X ?T ?S ?B ?hv ?hu ?h1 ?h2) rfl ?zd ?zu ?F ?N ?_; (case F => k_asm); (case N => k_asm); (case S => exact stays_fr (by k_asm)); (case X => k_asm); (case T => k_asm); (case B => first | assumption | exact Blks.stays (by assumption) (by repeat (first | exact stays_refl | with_reducible assumption | refine stays_step (by with_reducible assumption) ?_))); (case hv => first | assumption | exact Va.stays (by assumption) (by repeat (first | exact stays_refl | with_reducible assumption | refine stays_step (by with_reducible assumption) ?_))); (case hu => first | assumption | exact Va.stays (by assumption) (by repeat (first | exact stays_refl | with_reducible assumption | refine stays_step (by with_reducible assumption) ?_))); (case h1 => assumption); (case h2 => assumption); (case zd => exact Nat.le_of_ble_eq_true rfl); (case zu => exact Nat.le_of_ble_eq_true rfl)); intro r' h' tk' F' N' S' p'; subst p'; (try k_sweep))
    | ((with_reducible show wpAny _ _ (getAttr _ _ _) _ _ _); k_dflt (refine' attr_any ?F ?X ?B ?hv ?S ?hk ?hC ?_; (case F => k_asm); (case X => k_asm); (case hv => assumption); (case B => assumption); (case S => (repeat (first | exact stays_refl | with_reducible assumption | refine stays_step (by with_reducible assumption) ?_))); (case hk => assumption); (case hC => k_mem)); intro _ _; (try dsimp only))
    | ((with_reducible show wpAny _ _ (compareOp CmpOp.Eq _ _) _ _ _); k_dflt (refine' eqb_any ?B ?hv ?hu ?h1 ?h2 ?_; (case hv => assumption); (case hu => assumption); (case B => assumption); (case h1 => assumption); (case h2 => assumption)); (try dsimp only))
    | ((with_reducible show wpAny _ _ (compareOp CmpOp.Is _ _) _ _ _); k_dflt (refine' is_any ?hv ?hu ?S ?h1 ?_; (case hv => assumption); (case hu => assumption); (case S => (repeat (first | exact stays_refl | with_reducible assumption | refine stays_step (by with_reducible assumption) ?_))); (case h1 => first | omega | exact not_num (by assumption) (by assumption))); intro b' hb'; (try dsimp only))
    | (k_extra "isi")
    | (k_extra "def")
    | (k_extra "combo")
    | (k_unfold; (try dsimp only))
    | (k_end; wrow_close)
    | walk1
    | (dsimp only; walk1)
    | (leave1; (try dsimp only))
    | fail "no step")
  all_goals (try k_unfold)
  all_goals (try dsimp only)
  all_goals refine ret_mk (by repeat (first | exact stays_refl | with_reducible assumption | refine stays_step (by with_reducible assumption) ?_)) ?_
  all_goals first
    | rfl
    | (refine bool_val ?_; rw [eqv_iff, decide_eq_true_eq]; exact ⟨fun e => absurd e (by omega), fun e => by have := congrArg (Pl.kd bk) e; omega⟩)
    | exact end_r (by assumption) (by assumption)
    | exact end_l (by assumption) (by assumption)
    | exact bool_val (beq_iff_eq.trans (eqv_val B hv hu (by omega)).symm)
    | (refine bool_val (Iff.trans (by assumption) (eqv_is X1 B hv hu ?_ ?_ ?_).symm)
       · first | omega | exact not_num (by assumption) (by assumption)
       · have z1 := not_num' (by assumption : isNum (t.kd bk) = false)
         simp only [List.mem_cons, List.not_mem_nil, or_false]; omega
       · simp only [List.mem_cons, List.not_mem_nil, or_false]; omega)
abbrev tupO (vs : List Value) (n : Nat) : Obj := { cls := .type "tuple", data := .seq vs.toArray n }
/-- the words and the numbers of a thing, as they lie -/
inductive Wh (h : Heap) : Pl → PySem.Str → Value → Prop
  | one {t : Pl} {x : PySem.Str} (k : Tok) : t.code ∉ [1, 2, 3] → wd[t.code]? = some x → Wh h t x (.int t.arg k)
  | num {t : Pl} {b : Nat} {y : PySem.Str} {k k' k'' : Tok} {j : Int} : t.code ∈ [1, 2, 3] → wd[t.code]? = some y → t.data = .tuple [.str (ofString "number"), .tuple [.str y, .int t.arg, .int j]] →
      IsTup h b #[.str y k, .int t.arg k', .int j k''] → Wh h t (ofString "number") (.ref b)
inductive ThAt (h : Heap) (t : Pl) (v : Value) : Prop
  | mk (a : Nat) (x : PySem.Str) (k : Tok) (what : Value) (z0 : v = .ref a) (z1 : IsTup h a #[.str x k, what]) (z2 : Wh h t x what) : ThAt h t v
theorem Wh.stays {g h : Heap} {t : Pl} {x : PySem.Str} {v : Value} (e : Wh g t x v) (S : g.StaysIn h) : Wh h t x v := by
  cases e with
  | one k a b => exact .one k a b
  | num a b c d => exact .num a b c (IsTup.keeps d S)
theorem ThAt.stays {g h : Heap} {t : Pl} {v : Value} (e : ThAt g t v) (S : g.StaysIn h) : ThAt h t v := let ⟨a, x, k, what, e1, e2, e3⟩ := e; ⟨a, x, k, what, e1, IsTup.keeps e2 S, e3.stays S⟩
theorem isTup_reads {h : Heap} {a : Nat} {vs : List Value} {ds : List PyData} {as : List Addr} (x : IsTup h a vs.toArray) (r : ReadsAll h vs ds as) : Reads h (.ref a) (.tuple ds) as := by
  obtain ⟨o, e1, e2, n, e3⟩ := x
  exact .tuple e1 e2 e3 (by simpa using r)
theorem ThAt.reads {h : Heap} {t : Pl} {v : Value} (e : ThAt h t v) : ∃ as, Reads h v t.data as := by
  obtain ⟨a, x, k, what, rfl, e2, e3⟩ := e
  cases e3 with
  | one k' c hx =>
    have hd : t.data = .tuple [.str x, .int t.arg] := by
      rcases data_shape t with ⟨y, hy, e⟩ | ⟨y, j, hy, e⟩
      · rw [e]; cases hx.symm.trans hy; rfl
      · exfalso; revert c e; cases t <;> simp [Pl.code, Pl.data, one, num]
    rw [hd]
    exact ⟨_, isTup_reads (vs := [.str x k, .int t.arg k']) e2 (.cons (.str _ _) (.cons (.int _ _) .nil))⟩
  | num c hy hd ht =>
    rw [hd]
    exact ⟨_, isTup_reads (vs := [_, _]) e2 (.cons (.str _ _) (.cons (isTup_reads (vs := [_, _, _]) ht (.cons (.str _ _) (.cons (.int _ _) (.cons (.int _ _) .nil)))) .nil))⟩
theorem code_inv (t : Pl) : t = dec t.code t.arg := (dec_eq t).symm
theorem Wh.word {h : Heap} {t : Pl} {x : PySem.Str} {v : Value} (e : Wh h t x v) (c : Nat) (hc : c < 13) (hn : c ∉ [1, 2, 3]) {y : PySem.Str} (hy : wd[c]? = some y) (hx : x = y) (hnum : y ≠ ofString "number") : t.code = c ∧ ∃ k, v = .int t.arg k := by
  cases e with
  | one k a b => exact ⟨wd_inj _ (code_lt t) _ hc (by rw [b, hy, hx]), k, rfl⟩
  | num => exact absurd hx.symm hnum

/-- what the law's own things are -/
noncomputable def OkT (n : Nat) : Pl → Prop
  | .boolean i => i = 0 ∨ i = 1
  | .ratio i => i = 1 ∨ i = -1 ∨ i = 3
  | .symbol i => i = 0 ∨ i = 1
  | .block i => i < n
  | _ => True
/-- the store, as it lies -/
inductive StoreAt (P : Params) (h : Heap) (st : Nat) : Prop
  | mk (ds n : Nat) (k : Tok) (tb dt n' : Nat) (k1 k2 : Tok) (rw : Nat) (bt : Value) (y0 y1 : Nat) (t0 t1 : Tok) (u0 u1 : Value)
    (z0 : InstAt h st (instObj 818 ds) 818 (some (dictOf [en P (ofString "table") k (.ref tb)] n))) (z1 : InstAt h tb (instObj 134 dt) 134 (some (dictOf [en P (ofString "rows") k1 (.ref rw), en P (ofString "by_text") k2 bt] n')))
    (z2 : h.IsList rw #[.ref y0, .ref y1]) (z3 : Inst2 P h y0 71 (ofString "number") (.int 0 t0) (ofString "text") u0) (z4 : Inst2 P h y1 71 (ofString "number") (.int 1 t1) (ofString "text") u1) : StoreAt P h st
theorem StoreAt.elim {P : Params} {h : Heap} {st : Nat} {motive : Prop} (x : StoreAt P h st) (k : ∀ (ds n : Nat) (k : Tok) (tb dt n' : Nat) (k1 k2 : Tok) (rw : Nat) (bt : Value) (y0 y1 : Nat) (t0 t1 : Tok) (u0 u1 : Value),
  InstAt h st (instObj 818 ds) 818 (some (dictOf [en P (ofString "table") k (.ref tb)] n)) → InstAt h tb (instObj 134 dt) 134 (some (dictOf [en P (ofString "rows") k1 (.ref rw), en P (ofString "by_text") k2 bt] n')) →
  h.IsList rw #[.ref y0, .ref y1] → Inst2 P h y0 71 (ofString "number") (.int 0 t0) (ofString "text") u0 → Inst2 P h y1 71 (ofString "number") (.int 1 t1) (ofString "text") u1 → motive) : motive := by
  obtain ⟨_, _, _, _, _, _, _, _, _, _, _, _, _, _, _, _, a, b, c, d, e⟩ := x; exact k _ _ _ _ _ _ _ _ _ _ _ _ _ _ _ _ a b c d e
theorem isList_stays {g h : Heap} {a : Addr} {xs : Array Value} (x : g.IsList a xs) (S : g.StaysIn h) : h.IsList a xs := x.at fun o e => S a o e
theorem StoreAt.stays {P : Params} {g h : Heap} {st : Nat} (x : StoreAt P g st) (S : g.StaysIn h) : StoreAt P h st := by
  refine StoreAt.elim (x) ?_; intro ds n k tb dt n' k1 k2 rw bt y0 y1 t0 t1 u0 u1 a b c d e
  exact ⟨ds, n, k, tb, dt, n', k1, k2, rw, bt, y0, y1, t0, t1, u0, u1, instAt_stays a S, instAt_stays b S, isList_stays c S, d.stays S, e.stays S⟩

/-- new objects, by their list -/
noncomputable def Fresh (h h' : Heap) (o : Led) : Prop := o.length ≤ 2 ∧ ∀ p ∈ o, h.get? p.1 = none ∧ h'.get? p.1 = some p.2
noncomputable def Has (h : Heap) (o : Led) : Prop := ∀ p ∈ o, h.get? p.1 = some p.2
theorem Fresh.has {h h' : Heap} {o : Led} (f : Fresh h h' o) : Has h' o := fun p hp => (f.2 p hp).2
noncomputable def VaN (P : Params) (vs : List Value) (base h h' : Heap) (v : Value) (t : Pl) : Prop := ∃ o, Fresh h h' o ∧ ∀ H, base.StaysIn H → Has H o → Va P vs H v t
theorem VaN.va {P : Params} {vs : List Value} {base h h' : Heap} {v : Value} {t : Pl} (x : VaN P vs base h h' v t) (S : base.StaysIn h') : Va P vs h' v t := let ⟨_, f, k⟩ := x; k _ S f.has
theorem vaN_old {P : Params} {vs : List Value} {base h h' : Heap} {v : Value} {t : Pl} (k : ∀ H, base.StaysIn H → Va P vs H v t) : VaN P vs base h h' v t := ⟨[], ⟨by simp, fun _ q => nomatch q⟩, fun H S _ => k H S⟩
theorem vaN_new {P : Params} {vs : List Value} {base h h' h₀ : Heap} {L : Addr} {news : Led} {v : Value} {t : Pl} {a b : Nat} {oa ob : Obj} (N : News h L h' news) (m1 : (a, oa) ∈ news) (m2 : (b, ob) ∈ news)
    (k : ∀ H, H.get? a = some oa → H.get? b = some ob → Va P vs H v t) : VaN P vs base h h' v t :=
  ⟨[(a, oa), (b, ob)], ⟨by simp, fun p hp => by
    rcases List.mem_cons.mp hp with rfl | hp
    · exact ⟨(N _ m1).2.2, (N _ m1).1⟩
    · rcases List.mem_cons.mp hp with rfl | hp
      · exact ⟨(N _ m2).2.2, (N _ m2).1⟩
      · exact nomatch hp⟩, fun H _ f => k H (f _ (.head _)) (f _ (.tail _ (.head _)))⟩
theorem inst_get {h : Heap} {x C dx : Nat} {od : Obj} (h1 : h.get? x = some (instObj C dx)) (h2 : h.get? dx = some od) : InstAt h x (instObj C dx) C (some od) := ⟨h1, rfl, rfl, h2⟩
section
variable {w : World} {A : Around} {E : Value → Shared → Prop} {s : Shared} {Q : Value → Shared → Prop} {t : Pl} {g : Heap} {vs : List Value}
theorem t_of {x y : PySem.Str} (c : Nat) (hc : c < 13) (hx : wd[t.code]? = some x) (hy : wd[c]? = some y) (e : (x == y) = true) : t = dec c t.arg := by
  have e := beq_iff_eq.mp e
  have : t.code = c := wd_inj _ (code_lt t) _ hc (by rw [hx, hy, e])
  rw [← this]; exact code_inv t
theorem item_blk {value slice : PySem.Expr} {vl : Nat} {k : Tok} {x : PySem.Str} (hl : g.IsList vl vs.toArray) (S : g.StaysIn s.heap) (hx : wd[t.code]? = some x) (e : (x == ofString "block") = true) (hok : OkT vs.length t) (hsz : vs.length ≤ 64)
    (hs : subscripted slice false (.ref vl) (.int t.arg k) = operate [.ref vl, .int t.arg k] (getItem (.ref vl) (.int t.arg k)))
    (h : ∀ v i, vs[i]? = some v → t = .block i → Q v s) : wpAny (model P0 w) A (subscriptTail value slice (.ref vl) (.int t.arg k)) Q E s := by
  have ht := t_of 12 (by decide) hx (by rfl) e
  have hlt : t.arg.toNat < vs.length := by rw [ht] at hok; exact hok
  obtain ⟨i, hi⟩ : ∃ i : Nat, t.arg = i := by cases t <;> first | exact ⟨_, rfl⟩ | (exact absurd (congrArg Pl.code ht) (by simp [Pl.code, dec]))
  have hv : vs[t.arg.toNat]? = some vs[t.arg.toNat] := List.getElem?_eq_getElem hlt
  refine tail_any (isList_stays hl S).typeIs slot_list_getitem.lookup (wpAny_getItem_list (isList_stays hl S) (by omega) (by omega) (by rw [List.getElem?_toArray]; exact hv) (h _ i ?_ ?_)) hs
  · rw [← hv, hi]; rfl
  · rw [hi] at ht; exact ht
theorem item_sym {value slice : PySem.Expr} {rw' y0 y1 : Nat} {t0 t1 : Tok} {u0 u1 : Value} {k : Tok} {x : PySem.Str} {b : Heap} (Sb : b.StaysIn g) (I3 : b.IsList rw' #[.ref y0, .ref y1]) (I4 : Inst2 w.params b y0 71 (ofString "number") (.int 0 t0) (ofString "text") u0)
    (I5 : Inst2 w.params b y1 71 (ofString "number") (.int 1 t1) (ofString "text") u1) (S : g.StaysIn s.heap) (hx : wd[t.code]? = some x) (e : (x == ofString "symbol") = true) {n : Nat} (hok : OkT n t)
    (hs : subscripted slice false (.ref rw') (.int t.arg k) = operate [.ref rw', .int t.arg k] (getItem (.ref rw') (.int t.arg k)))
    (h : ∀ y, (∀ h', b.StaysIn h' → Va w.params vs h' (.ref y) t) → Q (.ref y) s) : wpAny (model P0 w) A (subscriptTail value slice (.ref rw') (.int t.arg k)) Q E s := by
  have ht := t_of 5 (by decide) hx (by rfl) e
  have ho : t.arg = 0 ∨ t.arg = 1 := by rw [ht] at hok; exact hok
  rcases ho with ho | ho
  · rw [ho] at hs ht ⊢
    refine tail_any (isList_stays (isList_stays I3 Sb) S).typeIs slot_list_getitem.lookup (wpAny_getItem_list (isList_stays (isList_stays I3 Sb) S) (by decide) (by decide) (by rfl) (h _ fun h' S' => ?_)) hs
    rw [ht]; exact .symbol (I4.stays S')
  · rw [ho] at hs ht ⊢
    refine tail_any (isList_stays (isList_stays I3 Sb) S).typeIs slot_list_getitem.lookup (wpAny_getItem_list (isList_stays (isList_stays I3 Sb) S) (by decide) (by decide) (by rfl) (h _ fun h' S' => ?_)) hs
    rw [ht]; exact .symbol (I5.stays S')
theorem num_absurd {x : PySem.Str} (hx : wd[t.code]? = some x) (e : (x == ofString "number") = true) : False := by
  have : ∀ c < 13, wd[c]? ≠ some (ofString "number") := by decide +kernel
  exact this _ (code_lt t) (beq_iff_eq.mp e ▸ hx)
section
variable {P : Params} {h h₀ : Heap} {L : Addr} {news : Led} {x : PySem.Str} {y d : Nat} {n : Nat} {k k' : Tok}
theorem va_boolean (hx : wd[t.code]? = some x) (e : (x == ofString "boolean") = true) {n : Nat} (hok : OkT n t) : Va P vs h (.bool (t.arg == 1)) t := by
  have ht := t_of 0 (by decide) hx (by rfl) e
  generalize t.arg = i at ht ⊢
  subst ht
  rw [show (i == 1) = decide (i = 1) from rfl]
  exact .boolean i hok
theorem inst1_news {a : PySem.Str} {C : Nat} {v : Value} (N : News h₀ L h news) (m1 : (y, instObj C d) ∈ news) (m2 : (d, dictOf [en P a k v] n) ∈ news) : Inst1 P h y C a v := ⟨d, n, k, InstAt.of_news N m1 m2⟩
theorem inst2_news {a b : PySem.Str} {C : Nat} {v u : Value} (N : News h₀ L h news) (m1 : (y, instObj C d) ∈ news) (m2 : (d, dictOf [en P a k v, en P b k' u] n) ∈ news) : Inst2 P h y C a v b u := ⟨d, n, k, k', InstAt.of_news N m1 m2⟩
theorem va_char (hx : wd[t.code]? = some x) (e : (x == ofString "char") = true) (I : Inst1 P h y 176 (ofString "code") (.int (97 + t.arg) k)) : Va P vs h (.ref y) t := by
  have ht := t_of 4 (by decide) hx (by rfl) e
  rw [ht]; exact .char I
theorem va_port (hx : wd[t.code]? = some x) (e : (x == ofString "port") = true) (I : Inst1 P h y 281 (ofString "number") (.int t.arg k)) : Va P vs h (.ref y) t := by
  have ht := t_of 6 (by decide) hx (by rfl) e
  rw [ht]; exact .port I
theorem va_procedure {u : Value} (hx : wd[t.code]? = some x) (e : (x == ofString "procedure") = true) (I : Inst2 P h y 323 (ofString "title") u (ofString "op") (.int t.arg k)) : Va P vs h (.ref y) t := by
  have ht := t_of 7 (by decide) hx (by rfl) e
  rw [ht]; exact .procedure I
theorem va_empty (hx : wd[t.code]? = some x) (e : (x == ofString "empty") = true) : Va P vs h (.ref 44) t := by
  rw [t_of 8 (by decide) hx (by rfl) e]; exact .empty
theorem va_unspecified (hx : wd[t.code]? = some x) (e : (x == ofString "unspecified") = true) : Va P vs h (.ref 47) t := by
  rw [t_of 9 (by decide) hx (by rfl) e]; exact .unspecified
theorem va_eof (hx : wd[t.code]? = some x) (e : (x == ofString "eof") = true) : Va P vs h (.ref 53) t := by
  rw [t_of 11 (by decide) hx (by rfl) e]; exact .eof
theorem c10 (c : Nat) (l : c < 13) (hn : c ∉ [1, 2, 3]) (n0 : c ≠ 0) (n4 : c ≠ 4) (n5 : c ≠ 5) (n6 : c ≠ 6) (n7 : c ≠ 7) (n8 : c ≠ 8) (n9 : c ≠ 9) (n11 : c ≠ 11) (n12 : c ≠ 12) : c = 10 := by
  rcases (by decide : ∀ c < 13, c = 10 ∨ c ∈ [1, 2, 3] ∨ c = 0 ∨ c = 4 ∨ c = 5 ∨ c = 6 ∨ c = 7 ∨ c = 8 ∨ c = 9 ∨ c = 11 ∨ c = 12) c l with h | h | h | h | h | h | h | h | h | h | h
  · exact h
  · exact absurd h hn
  all_goals exact absurd h (by assumption)
theorem va_unassigned (hx : wd[t.code]? = some x) (hn : t.code ∉ [1, 2, 3]) (e0 : (x == ofString "boolean") = false) (e4 : (x == ofString "char") = false) (e5 : (x == ofString "symbol") = false) (e6 : (x == ofString "port") = false) (e7 : (x == ofString "procedure") = false) (e8 : (x == ofString "empty") = false)
    (e9 : (x == ofString "unspecified") = false) (e11 : (x == ofString "eof") = false) (e12 : (x == ofString "block") = false) : Va P vs h (.ref 50) t := by
  have hc : t.code = 10 := by
    have l := code_lt t
    have ne : ∀ c y, wd[c]? = some y → (x == y) = false → t.code ≠ c := fun c y hy hne e => beq_eq_false_iff_ne.mp hne (Option.some.inj (hx.symm.trans (e ▸ hy)))
    exact c10 _ l hn (ne 0 _ (by rfl) e0) (ne 4 _ (by rfl) e4) (ne 5 _ (by rfl) e5) (ne 6 _ (by rfl) e6) (ne 7 _ (by rfl) e7) (ne 8 _ (by rfl) e8) (ne 9 _ (by rfl) e9) (ne 11 _ (by rfl) e11) (ne 12 _ (by rfl) e12)
  have : t = .unassigned := pl_ext hc (arg_zero t (by rw [hc]; decide) (by rw [hc]; decide))
  rw [this]; exact .unassigned
end
end

theorem value_one {w : World} {mean : ExcName → Option Value} {mg mb : PySem.Str → Option Value} {base : Heap} {s : Shared} {st vl a : Nat} {x : PySem.Str} {k kk : Tok} {t : Pl} {vs : List Value}
    (X : (K w.params).In base) (T : Top q (looseW q loose) mean mg mb base) (keep : base.StaysIn s.heap) (hS : StoreAt w.params base st) (hl : s.heap.IsList vl vs.toArray) (hT : IsTup s.heap a #[.str x k, .int t.arg kk])
    (hn : t.code ∉ [1, 2, 3]) (hx : wd[t.code]? = some x) (hok : OkT vs.length t) (hsz : vs.length ≤ 64) :
    codeAny (model P0 w) (ad 850 8500) (.call (.ref 869) ⟨[.ref st, .ref vl, .ref a], []⟩) (Ret s [] fun r h => VaN w.params vs base s.heap h r t) s := by
  refine StoreAt.elim (hS) ?_; intro ds n k0 tb dt n' k1 k2 rw' bt y0 y1 t0 t1 u0 u1 I1 I2 I3 I4 I5
  refine enterN (binds := [(ofString "store", .ref st), (ofString "values", .ref vl), (ofString "thing", .ref a)]) X T keep (by rfl) (by rfl) (by decide) (BindsTo.of_eq rfl) (locs rfl) (by decide) rfl rfl rfl ?_
  intro L' h₁ tk' hL F' N' X' T'
  k_fold
  repeat' (first
    | ((with_reducible show wpAny _ _ (subscriptTail _ _ (Value.ref vl) _) _ _ _); k_dflt (refine' item_blk (vl := vl) (vs := vs) ?hl ?S ?hx ?e hok hsz ?hs ?_; (case hl => assumption); (case S => (repeat (first | exact stays_refl | with_reducible assumption | refine stays_step (by with_reducible assumption) ?_))); (case hx => assumption); (case e => assumption); (case hs => with_unfolding_all rfl)); intro v' i' hvi hti)
    | ((with_reducible show wpAny _ _ (subscriptTail _ _ (Value.ref rw') _) _ _ _); k_dflt (refine' item_sym (vs := vs) keep I3 I4 I5 ?S ?hx ?e hok ?hs ?_; (case S => (repeat (first | exact stays_refl | with_reducible assumption | refine stays_step (by with_reducible assumption) ?_))); (case hx => assumption); (case e => assumption); (case hs => with_unfolding_all rfl)); intro y' hy')
    | ((with_reducible show wpAny _ _ (subscriptTail _ _ (Value.int _ _) _) _ _ _); exact (num_absurd hx (by assumption)).elim)
    | (k_extra "attr")
    | (k_extra "meth")
    | (k_extra "def")
    | (k_extra "cls")
    | (k_extra "combo")
    | (k_unfold; (try dsimp only))
    | (k_end; wrow_close)
    | walk1
    | (dsimp only; walk1)
    | (leave1; (try dsimp only))
    | fail "no step")
  all_goals (try k_unfold)
  all_goals (try dsimp only)
  all_goals refine ret_mk (by repeat (first | exact stays_refl | with_reducible assumption | refine stays_step (by with_reducible assumption) ?_)) ?_
  all_goals first
    | exact vaN_old fun H S => (by rw [hti]; exact .block hvi)
    | exact vaN_old hy'
    | exact vaN_old fun H S => va_boolean hx (by assumption) hok
    | exact vaN_new (h₀ := base) (by assumption) (by k_mem) (by k_mem) (fun H h1 h2 => va_char hx (by assumption) ⟨_, _, _, inst_get h1 h2⟩)
    | exact vaN_new (h₀ := base) (by assumption) (by k_mem) (by k_mem) (fun H h1 h2 => va_port hx (by assumption) ⟨_, _, _, inst_get h1 h2⟩)
    | exact vaN_new (h₀ := base) (by assumption) (by k_mem) (by k_mem) (fun H h1 h2 => va_procedure hx (by assumption) ⟨_, _, _, _, inst_get h1 h2⟩)
    | exact vaN_old fun H S => va_empty hx (by assumption)
    | exact vaN_old fun H S => va_unspecified hx (by assumption)
    | exact vaN_old fun H S => va_eof hx (by assumption)
    | exact vaN_old fun H S => va_unassigned hx hn (by assumption) (by assumption) (by assumption) (by assumption) (by assumption) (by assumption) (by assumption) (by assumption) (by assumption)
theorem gcd_spec1 {w : World} {mean : ExcName → Option Value} {mg mb : PySem.Str → Option Value} {base : Heap} {s : Shared} {k1 k2 : Tok}
    (X : (K w.params).In base) (T : Top q (looseW q loose) mean mg mb base) (keep : base.StaysIn s.heap) :
    codeAny (model P0 w) (ad 900 9000) (.call (.ref 409) ⟨[.int (1) k1, .int 2 k2], []⟩) (Ret s [] fun r h => ∃ t, r = .int 1 t) s := by
  refine enterN (binds := [(ofString "one", .int (1) k1), (ofString "other", .int 2 k2)]) X T keep (by rfl) (by rfl) (by decide) (BindsTo.of_eq rfl) (locs rfl) (by decide) rfl rfl rfl ?_
  intro L' h₁ tk' hL F' N' X' T'
  k_fold
  repeat' (first
    | (k_extra "attr")
    | (k_extra "meth")
    | (k_extra "def")
    | (k_extra "cls")
    | (k_extra "combo")
    | (k_unfold; (try dsimp only))
    | (k_end; wrow_close)
    | walk1
    | (dsimp only; walk1)
    | (leave1; (try dsimp only))
    | fail "no step")
  all_goals (try k_unfold)
  all_goals (try dsimp only)
  all_goals exact ret_mk (by repeat (first | exact stays_refl | with_reducible assumption | refine stays_step (by with_reducible assumption) ?_)) ⟨_, rfl⟩

theorem gcd_specm1 {w : World} {mean : ExcName → Option Value} {mg mb : PySem.Str → Option Value} {base : Heap} {s : Shared} {k1 k2 : Tok}
    (X : (K w.params).In base) (T : Top q (looseW q loose) mean mg mb base) (keep : base.StaysIn s.heap) :
    codeAny (model P0 w) (ad 900 9000) (.call (.ref 409) ⟨[.int (-1) k1, .int 2 k2], []⟩) (Ret s [] fun r h => ∃ t, r = .int 1 t) s := by
  refine enterN (binds := [(ofString "one", .int (-1) k1), (ofString "other", .int 2 k2)]) X T keep (by rfl) (by rfl) (by decide) (BindsTo.of_eq rfl) (locs rfl) (by decide) rfl rfl rfl ?_
  intro L' h₁ tk' hL F' N' X' T'
  k_fold
  repeat' (first
    | (k_extra "attr")
    | (k_extra "meth")
    | (k_extra "def")
    | (k_extra "cls")
    | (k_extra "combo")
    | (k_unfold; (try dsimp only))
    | (k_end; wrow_close)
    | walk1
    | (dsimp only; walk1)
    | (leave1; (try dsimp only))
    | fail "no step")
  all_goals (try k_unfold)
  all_goals (try dsimp only)
  all_goals exact ret_mk (by repeat (first | exact stays_refl | with_reducible assumption | refine stays_step (by with_reducible assumption) ?_)) ⟨_, rfl⟩

theorem gcd_spec3 {w : World} {mean : ExcName → Option Value} {mg mb : PySem.Str → Option Value} {base : Heap} {s : Shared} {k1 k2 : Tok}
    (X : (K w.params).In base) (T : Top q (looseW q loose) mean mg mb base) (keep : base.StaysIn s.heap) :
    codeAny (model P0 w) (ad 900 9000) (.call (.ref 409) ⟨[.int (3) k1, .int 2 k2], []⟩) (Ret s [] fun r h => ∃ t, r = .int 1 t) s := by
  refine enterN (binds := [(ofString "one", .int (3) k1), (ofString "other", .int 2 k2)]) X T keep (by rfl) (by rfl) (by decide) (BindsTo.of_eq rfl) (locs rfl) (by decide) rfl rfl rfl ?_
  intro L' h₁ tk' hL F' N' X' T'
  k_fold
  repeat' (first
    | (k_extra "attr")
    | (k_extra "meth")
    | (k_extra "def")
    | (k_extra "cls")
    | (k_extra "combo")
    | (k_unfold; (try dsimp only))
    | (k_end; wrow_close)
    | walk1
    | (dsimp only; walk1)
    | (leave1; (try dsimp only))
    | fail "no step")
  all_goals (try k_unfold)
  all_goals (try dsimp only)
  all_goals exact ret_mk (by repeat (first | exact stays_refl | with_reducible assumption | refine stays_step (by with_reducible assumption) ?_)) ⟨_, rfl⟩

theorem gcd_spec {w : World} {mean : ExcName → Option Value} {mg mb : PySem.Str → Option Value} {base : Heap} {s : Shared} {i : Int} {k1 k2 : Tok}
    (X : (K w.params).In base) (T : Top q (looseW q loose) mean mg mb base) (keep : base.StaysIn s.heap) (hi : i = 1 ∨ i = -1 ∨ i = 3) :
    codeAny (model P0 w) (ad 900 9000) (.call (.ref 409) ⟨[.int i k1, .int 2 k2], []⟩) (Ret s [] fun r h => ∃ t, r = .int 1 t) s := by
  rcases hi with rfl | rfl | rfl
  · exact gcd_spec1 X T keep
  · exact gcd_specm1 X T keep
  · exact gcd_spec3 X T keep
theorem fdiv_one (i : Int) : Int.fdiv i 1 = i := by rw [Int.fdiv_eq_ediv_of_nonneg _ (by decide), Int.ediv_one]
theorem ratio_new {P : Params} {h₀ h : Heap} {L : Addr} {news : Led} {y d n : Nat} {i : Int} {k k' t t' : Tok} (N : News h₀ L h news) (m1 : (y, instObj 370 d) ∈ news) (m2 : (d, dictOf [en P (ofString "top") k (.int (Int.fdiv i 1) t), en P (ofString "bottom") k' (.int (Int.fdiv 2 1) t')] n) ∈ news) :
    ∃ (y' : Nat) (t t' : Tok) (o : Led), Value.ref y = .ref y' ∧ Fresh h₀ h o ∧ ∀ H, Has H o → Inst2 P H y' 370 (ofString "top") (.int i t) (ofString "bottom") (.int 2 t') := by
  rw [fdiv_one] at m2
  refine ⟨y, t, t', [(y, instObj 370 d), (d, dictOf [en P (ofString "top") k (.int i t), en P (ofString "bottom") k' (.int 2 t')] n)], rfl, ⟨by simp, fun p hp => ?_⟩, fun H f => ⟨_, _, _, _, inst_get (f _ (.head _)) (f _ (.tail _ (.head _)))⟩⟩
  rcases List.mem_cons.mp hp with rfl | hp
  · exact ⟨(N _ m1).2.2, (N _ m1).1⟩
  · rcases List.mem_cons.mp hp with rfl | hp
    · exact ⟨(N _ m2).2.2, (N _ m2).1⟩
    · exact nomatch hp

theorem ratio_spec {w : World} {mean : ExcName → Option Value} {mg mb : PySem.Str → Option Value} {base : Heap} {s : Shared} {i : Int} {k1 k2 : Tok}
    (X : (K w.params).In base) (T : Top q (looseW q loose) mean mg mb base) (keep : base.StaysIn s.heap) (hi : i = 1 ∨ i = -1 ∨ i = 3) :
    codeAny (model P0 w) (ad 880 8800) (.call (.ref 423) ⟨[.int i k1, .int 2 k2], []⟩) (Ret s [] fun r h => ∃ (y : Nat) (t t' : Tok) (o : Led), r = .ref y ∧ Fresh s.heap h o ∧ ∀ H, Has H o → Inst2 w.params H y 370 (ofString "top") (.int i t) (ofString "bottom") (.int 2 t')) s := by
  refine enterN (binds := [(ofString "top", .int i k1), (ofString "bottom", .int 2 k2)]) X T keep (by rfl) (by rfl) (by decide) (BindsTo.of_eq rfl) (locs rfl) (by decide) rfl rfl rfl ?_
  intro L' h₁ tk' hL F' N' X' T'
  k_fold
  repeat' (first
    | ((with_reducible show wpAny _ _ (call (Value.ref 409) _) _ _ _); k_dflt (refine' call_spec (gcd_spec ?X ?T ?S ?hi) rfl ?zd ?zu ?F ?N ?_; (case F => k_asm); (case N => k_asm); (case S => exact stays_fr (by k_asm)); (case X => k_asm); (case T => k_asm); (case hi => assumption); (case zd => exact Nat.le_of_ble_eq_true rfl); (case zu => exact Nat.le_of_ble_eq_true rfl)); intro r' h' tk' F' N' S' p'; (obtain ⟨t', e'⟩ := p'); subst e'; (try k_sweep))
    | (k_extra "attr")
    | (k_extra "meth")
    | (k_extra "def")
    | (k_extra "cls")
    | (k_extra "combo")
    | (k_unfold; (try dsimp only))
    | (k_end; wrow_close)
    | walk1
    | (dsimp only; walk1)
    | (leave1; (try dsimp only))
    | fail "no step")
  all_goals (try k_unfold)
  all_goals (try dsimp only)
  all_goals exact ret_mk (by repeat (first | exact stays_refl | with_reducible assumption | refine stays_step (by with_reducible assumption) ?_)) (ratio_new (h₀ := s.heap) (by assumption) (by k_mem) (by k_mem))

theorem number_spec {w : World} {mean : ExcName → Option Value} {mg mb : PySem.Str → Option Value} {base : Heap} {s : Shared} {st : Nat} {v : Value}
    (X : (K w.params).In base) (T : Top q (looseW q loose) mean mg mb base) (keep : base.StaysIn s.heap) :
    codeAny (model P0 w) (ad 900 9000) (.call (.ref 696) ⟨[.ref st, v], []⟩) (Ret s [] fun r h => r = v) s := by
  refine enterN (binds := [(ofString "self", .ref st), (ofString "number", v)]) X T keep (by rfl) (by rfl) (by decide) (BindsTo.of_eq rfl) (locs rfl) (by decide) rfl rfl rfl ?_
  intro L' h₁ tk' hL F' N' X' T'
  k_fold
  repeat' (first
    | (k_extra "attr")
    | (k_extra "meth")
    | (k_extra "def")
    | (k_extra "cls")
    | (k_extra "combo")
    | (k_unfold; (try dsimp only))
    | (k_end; wrow_close)
    | walk1
    | (dsimp only; walk1)
    | (leave1; (try dsimp only))
    | fail "no step")
  all_goals (try k_unfold)
  all_goals (try dsimp only)
  all_goals exact ret_mk (by repeat (first | exact stays_refl | with_reducible assumption | refine stays_step (by with_reducible assumption) ?_)) rfl
theorem fresh_up {g h₁ h₂ : Heap} {o : Led} (f : Fresh h₁ h₂ o) (S : g.StaysIn h₁) : Fresh g h₂ o := ⟨f.1, fun p hp => ⟨by cases e : g.get? p.1 with | none => rfl | some q => exact absurd ((f.2 p hp).1.symm.trans (S _ _ e)) (by simp), (f.2 p hp).2⟩⟩

theorem value_whole {w : World} {mean : ExcName → Option Value} {mg mb : PySem.Str → Option Value} {base : Heap} {s : Shared} {st vl a b0 : Nat} {i : Int} {k k0 k1 k2 : Tok} {vs : List Value}
    (X : (K w.params).In base) (T : Top q (looseW q loose) mean mg mb base) (keep : base.StaysIn s.heap) (hS : StoreAt w.params base st) (hT : IsTup s.heap a #[.str (ofString "number") k, .ref b0]) (hT2 : IsTup s.heap b0 #[.str (ofString "whole") k0, .int i k1, .int 1 k2])  :
    codeAny (model P0 w) (ad 850 8500) (.call (.ref 869) ⟨[.ref st, .ref vl, .ref a], []⟩) (Ret s [] fun r h => VaN w.params vs base s.heap h r (.whole i)) s := by
  refine StoreAt.elim (hS) ?_; intro ds n k9 tb dt n' k8 k7 rw' bt y0 y1 t0 t1 u0 u1 I1 I2 I3 I4 I5
  refine enterN (binds := [(ofString "store", .ref st), (ofString "values", .ref vl), (ofString "thing", .ref a)]) X T keep (by rfl) (by rfl) (by decide) (BindsTo.of_eq rfl) (locs rfl) (by decide) rfl rfl rfl ?_
  intro L' h₁ tk' hL F' N' X' T'
  k_fold
  repeat' (first
    | ((with_reducible show wpAny _ _ (call (Value.ref 696) _) _ _ _); k_dflt (refine' call_spec (number_spec ?X ?T ?S ) rfl ?zd ?zu ?F ?N ?_; (case F => k_asm); (case N => k_asm); (case S => exact stays_fr (by k_asm)); (case X => k_asm); (case T => k_asm); (case zd => exact Nat.le_of_ble_eq_true rfl); (case zu => exact Nat.le_of_ble_eq_true rfl)); intro r' h' tk' F' N' S' p'; subst p'; (try k_sweep))
    | ((with_reducible show wpAny _ _ (call (Value.ref 423) _) _ _ _); k_dflt (refine' call_spec (ratio_spec ?X ?T ?S ?hi) rfl ?zd ?zu ?F ?N ?_; (case F => k_asm); (case N => k_asm); (case S => exact stays_fr (by k_asm)); (case X => k_asm); (case T => k_asm); (case hi => assumption); (case zd => exact Nat.le_of_ble_eq_true rfl); (case zu => exact Nat.le_of_ble_eq_true rfl)); intro r' h' tk' F' N' S' p'; (obtain ⟨y', t', t'', o', e', fr', I'⟩ := p'); subst e'; replace fr' := fresh_up (g := s.heap) fr' (by repeat (first | exact stays_refl | with_reducible assumption | refine stays_step (by with_reducible assumption) ?_)); (try k_sweep))
    | ((with_reducible show wpAny _ _ (subscriptTail _ _ (Value.ref _) (Value.int _ _)) _ _ _); k_dflt (refine' item_tupleT ?t ?a ?b ?c ?d ?_; (case t => exact IsTup.keeps (by with_reducible assumption) (by repeat (first | exact stays_refl | with_reducible assumption | refine stays_step (by with_reducible assumption) ?_))); (case a => decide); (case b => decide); (case c => rfl); (case d => rfl); k_whole))
    | (k_extra "attr")
    | (k_extra "meth")
    | (k_extra "def")
    | (k_extra "cls")
    | (k_extra "combo")
    | (k_unfold; (try dsimp only))
    | (k_end; wrow_close)
    | walk1
    | (dsimp only; walk1)
    | (leave1; (try dsimp only))
    | fail "no step")
  all_goals (try k_unfold)
  all_goals (try dsimp only)
  all_goals exact ret_mk (by repeat (first | exact stays_refl | with_reducible assumption | refine stays_step (by with_reducible assumption) ?_)) (vaN_old fun H S => .whole _ _)

theorem value_real {w : World} {mean : ExcName → Option Value} {mg mb : PySem.Str → Option Value} {base : Heap} {s : Shared} {st vl a b0 : Nat} {i : Int} {k k0 k1 k2 : Tok} {vs : List Value}
    (X : (K w.params).In base) (T : Top q (looseW q loose) mean mg mb base) (keep : base.StaysIn s.heap) (hS : StoreAt w.params base st) (hT : IsTup s.heap a #[.str (ofString "number") k, .ref b0]) (hT2 : IsTup s.heap b0 #[.str (ofString "real") k0, .int i k1, .int 0 k2])  :
    codeAny (model P0 w) (ad 850 8500) (.call (.ref 869) ⟨[.ref st, .ref vl, .ref a], []⟩) (Ret s [] fun r h => VaN w.params vs base s.heap h r (.real i)) s := by
  refine StoreAt.elim (hS) ?_; intro ds n k9 tb dt n' k8 k7 rw' bt y0 y1 t0 t1 u0 u1 I1 I2 I3 I4 I5
  refine enterN (binds := [(ofString "store", .ref st), (ofString "values", .ref vl), (ofString "thing", .ref a)]) X T keep (by rfl) (by rfl) (by decide) (BindsTo.of_eq rfl) (locs rfl) (by decide) rfl rfl rfl ?_
  intro L' h₁ tk' hL F' N' X' T'
  k_fold
  repeat' (first
    | ((with_reducible show wpAny _ _ (call (Value.ref 696) _) _ _ _); k_dflt (refine' call_spec (number_spec ?X ?T ?S ) rfl ?zd ?zu ?F ?N ?_; (case F => k_asm); (case N => k_asm); (case S => exact stays_fr (by k_asm)); (case X => k_asm); (case T => k_asm); (case zd => exact Nat.le_of_ble_eq_true rfl); (case zu => exact Nat.le_of_ble_eq_true rfl)); intro r' h' tk' F' N' S' p'; subst p'; (try k_sweep))
    | ((with_reducible show wpAny _ _ (call (Value.ref 423) _) _ _ _); k_dflt (refine' call_spec (ratio_spec ?X ?T ?S ?hi) rfl ?zd ?zu ?F ?N ?_; (case F => k_asm); (case N => k_asm); (case S => exact stays_fr (by k_asm)); (case X => k_asm); (case T => k_asm); (case hi => assumption); (case zd => exact Nat.le_of_ble_eq_true rfl); (case zu => exact Nat.le_of_ble_eq_true rfl)); intro r' h' tk' F' N' S' p'; (obtain ⟨y', t', t'', o', e', fr', I'⟩ := p'); subst e'; replace fr' := fresh_up (g := s.heap) fr' (by repeat (first | exact stays_refl | with_reducible assumption | refine stays_step (by with_reducible assumption) ?_)); (try k_sweep))
    | ((with_reducible show wpAny _ _ (subscriptTail _ _ (Value.ref _) (Value.int _ _)) _ _ _); k_dflt (refine' item_tupleT ?t ?a ?b ?c ?d ?_; (case t => exact IsTup.keeps (by with_reducible assumption) (by repeat (first | exact stays_refl | with_reducible assumption | refine stays_step (by with_reducible assumption) ?_))); (case a => decide); (case b => decide); (case c => rfl); (case d => rfl); k_whole))
    | (k_extra "attr")
    | (k_extra "meth")
    | (k_extra "def")
    | (k_extra "cls")
    | (k_extra "combo")
    | (k_unfold; (try dsimp only))
    | (k_end; wrow_close)
    | walk1
    | (dsimp only; walk1)
    | (leave1; (try dsimp only))
    | fail "no step")
  all_goals (try k_unfold)
  all_goals (try dsimp only)
  all_goals exact ret_mk (by repeat (first | exact stays_refl | with_reducible assumption | refine stays_step (by with_reducible assumption) ?_)) (vaN_new (h₀ := base) (by assumption) (by k_mem) (by k_mem) (fun H h1 h2 => .real ⟨_, _, _, _, inst_get h1 h2⟩))

theorem vaN_ratio {P : Params} {vs : List Value} {base h h₂ : Heap} {o : Led} {y : Nat} {i : Int} {t t' : Tok} (f : Fresh h h₂ o) {h₃ : Heap} (S' : h₂.StaysIn h₃) (I : ∀ H, Has H o → Inst2 P H y 370 (ofString "top") (.int i t) (ofString "bottom") (.int 2 t')) : VaN P vs base h h₃ (.ref y) (.ratio i) :=
  ⟨o, ⟨f.1, fun p hp => ⟨(f.2 p hp).1, S' _ _ (f.2 p hp).2⟩⟩, fun H _ k => .ratio (I H k)⟩

theorem value_ratio {w : World} {mean : ExcName → Option Value} {mg mb : PySem.Str → Option Value} {base : Heap} {s : Shared} {st vl a b0 : Nat} {i : Int} {k k0 k1 k2 : Tok} {vs : List Value}
    (X : (K w.params).In base) (T : Top q (looseW q loose) mean mg mb base) (keep : base.StaysIn s.heap) (hS : StoreAt w.params base st) (hT : IsTup s.heap a #[.str (ofString "number") k, .ref b0]) (hT2 : IsTup s.heap b0 #[.str (ofString "ratio") k0, .int i k1, .int 2 k2]) (hi : i = 1 ∨ i = -1 ∨ i = 3) :
    codeAny (model P0 w) (ad 850 8500) (.call (.ref 869) ⟨[.ref st, .ref vl, .ref a], []⟩) (Ret s [] fun r h => VaN w.params vs base s.heap h r (.ratio i)) s := by
  refine StoreAt.elim (hS) ?_; intro ds n k9 tb dt n' k8 k7 rw' bt y0 y1 t0 t1 u0 u1 I1 I2 I3 I4 I5
  refine enterN (binds := [(ofString "store", .ref st), (ofString "values", .ref vl), (ofString "thing", .ref a)]) X T keep (by rfl) (by rfl) (by decide) (BindsTo.of_eq rfl) (locs rfl) (by decide) rfl rfl rfl ?_
  intro L' h₁ tk' hL F' N' X' T'
  k_fold
  repeat' (first
    | ((with_reducible show wpAny _ _ (call (Value.ref 696) _) _ _ _); k_dflt (refine' call_spec (number_spec ?X ?T ?S ) rfl ?zd ?zu ?F ?N ?_; (case F => k_asm); (case N => k_asm); (case S => exact stays_fr (by k_asm)); (case X => k_asm); (case T => k_asm); (case zd => exact Nat.le_of_ble_eq_true rfl); (case zu => exact Nat.le_of_ble_eq_true rfl)); intro r' h' tk' F' N' S' p'; subst p'; (try k_sweep))
    | ((with_reducible show wpAny _ _ (call (Value.ref 423) _) _ _ _); k_dflt (refine' call_spec (ratio_spec ?X ?T ?S ?hi) rfl ?zd ?zu ?F ?N ?_; (case F => k_asm); (case N => k_asm); (case S => exact stays_fr (by k_asm)); (case X => k_asm); (case T => k_asm); (case hi => assumption); (case zd => exact Nat.le_of_ble_eq_true rfl); (case zu => exact Nat.le_of_ble_eq_true rfl)); intro r' h' tk' F' N' S' p'; (obtain ⟨y', t', t'', o', e', fr', I'⟩ := p'); subst e'; replace fr' := fresh_up (g := s.heap) fr' (by repeat (first | exact stays_refl | with_reducible assumption | refine stays_step (by with_reducible assumption) ?_)); (try k_sweep))
    | ((with_reducible show wpAny _ _ (subscriptTail _ _ (Value.ref _) (Value.int _ _)) _ _ _); k_dflt (refine' item_tupleT ?t ?a ?b ?c ?d ?_; (case t => exact IsTup.keeps (by with_reducible assumption) (by repeat (first | exact stays_refl | with_reducible assumption | refine stays_step (by with_reducible assumption) ?_))); (case a => decide); (case b => decide); (case c => rfl); (case d => rfl); k_whole))
    | (k_extra "attr")
    | (k_extra "meth")
    | (k_extra "def")
    | (k_extra "cls")
    | (k_extra "combo")
    | (k_unfold; (try dsimp only))
    | (k_end; wrow_close)
    | walk1
    | (dsimp only; walk1)
    | (leave1; (try dsimp only))
    | fail "no step")
  all_goals (try k_unfold)
  all_goals (try dsimp only)
  all_goals exact ret_mk (by repeat (first | exact stays_refl | with_reducible assumption | refine stays_step (by with_reducible assumption) ?_)) (vaN_ratio fr' (by assumption) I')

theorem value_spec {w : World} {mean : ExcName → Option Value} {mg mb : PySem.Str → Option Value} {base : Heap} {s : Shared} {st vl : Nat} {t : Pl} {v : Value} {vs : List Value}
    (X : (K w.params).In base) (T : Top q (looseW q loose) mean mg mb base) (keep : base.StaysIn s.heap) (hS : StoreAt w.params base st) (hl : s.heap.IsList vl vs.toArray) (hT : ThAt s.heap t v) (hok : OkT vs.length t) (hsz : vs.length ≤ 64) :
    codeAny (model P0 w) (ad 850 8500) (.call (.ref 869) ⟨[.ref st, .ref vl, v], []⟩) (Ret s [] fun r h => VaN w.params vs base s.heap h r t) s := by
  obtain ⟨a, x, k, what, rfl, h1, h2⟩ := hT
  cases h2 with
  | one kk hn hx => exact value_one X T keep hS hl h1 hn hx hok hsz
  | num c hy hd ht =>
    cases t <;> first | (exact absurd c (by simp only [Pl.code]; decide)) | skip
    · cases hy; cases hd; exact value_whole X T keep hS h1 ht
    · cases hy; cases hd; exact value_real X T keep hS h1 ht
    · cases hy; cases hd; exact value_ratio X T keep hS h1 ht hok
theorem call_draw {w : World} {A : Around} {s : Shared} {h₀ : Heap} {L : Addr} {m mg mb : PySem.Str → Option Value} {news : Led} {upd : Obj → Obj → Led} {mean : ExcName → Option Value} {Q E : Value → Shared → Prop} {d c : Nat} {dO cO : Obj} {many : Int} {t3 : Tok}
    (X : (K w.params).In h₀) (T : Top q (looseW q loose) mean mg mb h₀) (F : Fr h₀ L s.heap m) (N : News h₀ L s.heap news) (dc : d ≠ c) (hD : Dk c dO cO) (U : UpD d c dO cO news upd) (hm : 0 < many) (hm2 : many ≤ 14)
    (hh : A.handled = none) (hd : A.depth ≤ 900) (hu : A.units ≤ 9000)
    (h : ∀ (r : Int) (t : Tok) (dO' cO' : Obj) (h' : Heap) (tk' : Nat), 0 ≤ r → r < many → Dk c dO' cO' → Fr h₀ L h' m → News h₀ L h' (upd dO' cO') → Q (.int r t) { s with heap := h', toks := tk' }) :
    wpAny (model P0 w) A (call (.ref 848) [.ref d, .int many t3]) Q E s := by
  obtain ⟨m1, m2, u⟩ := U.mem
  refine wpAny_call (codeAny_mono (code_weak (draw_spec X T F.keep dc hD (N.get m1) (N.get m2) (N.fresh m1) (N.fresh m2) hm hm2 (R := fun r s' => ∃ (z : Int) (t : Tok) (dO' cO' : Obj) (h' : Heap) (tk' : Nat), r = .ok (.ret (.int z t)) ∧ s' = { s with heap := h', toks := tk' } ∧ 0 ≤ z ∧ z < many ∧ Dk c dO' cO' ∧ Keep [d, c] s.heap h' ∧ h'.get? d = some dO' ∧ h'.get? c = some cO')
    (fun r t dO' cO' h' tk' a1 a2 a3 a4 a5 a6 => ⟨r, t, dO', cO', h', tk', rfl, rfl, a1, a2, a3, a4, a5, a6⟩)) hh hd hu) fun r s' hr => ?_)
  obtain ⟨z, t, dO', cO', h', tk', rfl, rfl, a1, a2, a3, a4, a5, a6⟩ := hr
  obtain ⟨F', N'⟩ := led_after (news' := upd dO' cO') F N (fun a ha => by
    simp only [List.mem_cons, List.not_mem_nil, or_false] at ha
    rcases ha with rfl | rfl
    · exact ⟨_, m1⟩
    · exact ⟨_, m2⟩) a4 (fun p hp => by
      rcases u _ _ p hp with ⟨x, y1, y2⟩ | rfl | rfl
      · exact .inl ⟨x, by simp [y1, y2]⟩
      · exact .inr (.inl ⟨by simp, a5⟩)
      · exact .inr (.inl ⟨by simp, a6⟩))
  exact h _ _ _ _ _ _ a1 a2 a3 F' N'

theorem dropN {P : Prop} {g h : Heap} {L : Addr} {x : Addr × Obj} {r : Led} (N : News g L h (x :: r)) (k : News g L h r → P) : P := k fun p hp => N p (.tail _ hp)
/-- a new thing: its objects are two entries at most -/
inductive ThN (h h' : Heap) (v : Value) (t : Pl) : Prop
  | mk (a b : Nat) (oa ob : Obj) (z0 : v = .ref a) (z1 : h.get? a = none) (z2 : h.get? b = none) (z3 : h'.get? a = some oa) (z4 : h'.get? b = some ob) (z5 : ∀ H, H.get? a = some oa → H.get? b = some ob → ThAt H t v) : ThN h h' v t
noncomputable def OkP (t : Pl) : Prop := t.code ≠ 12 ∧ OkT 0 t
theorem OkP.okT {t : Pl} (h : OkP t) (n : Nat) : OkT n t := by
  obtain ⟨a, b⟩ := h
  cases t <;> first | exact b | exact absurd rfl a
section
variable {w : World} {A : Around} {E : Value → Shared → Prop} {s : Shared} {Q : Value → Shared → Prop} {h₀ : Heap} {L : Addr} {news : Led} {m : PySem.Str → Option Value}
theorem item_words {value slice : PySem.Expr} {l n : Nat} {r : Int} {k : Tok} {its : Array Value} (N : News h₀ L s.heap news) (hm : (l, listOf its n) ∈ news) (xs : List PySem.Str) (e : its.toList.map (fun v => match v with | .str x _ => some x | _ => none) = xs.map some)
    (h0 : 0 ≤ r) (h1 : r < xs.length) (hx : xs.length ≤ 64)
    (hs : subscripted slice false (.ref l) (.int r k) = operate [.ref l, .int r k] (getItem (.ref l) (.int r k)))
    (h : ∀ x tk, xs[r.toNat]? = some x → Q (.str x tk) s) : wpAny (model P0 w) A (subscriptTail value slice (.ref l) (.int r k)) Q E s := by
  have hl : s.heap.IsList l its := N.isList hm
  have hlt : r.toNat < xs.length := by omega
  have hlen : its.size = xs.length := by have := congrArg List.length e; simpa using this
  have hi : its[r.toNat]? = some its[r.toNat] := Array.getElem?_eq_getElem (by omega)
  have hq := congrArg (fun l => l[r.toNat]?) e
  simp only [List.getElem?_map, Array.getElem?_toList, hi, List.getElem?_eq_getElem hlt, Option.map_some] at hq
  refine tail_any hl.typeIs slot_list_getitem.lookup (wpAny_getItem_list hl (by omega) (by omega) hi ?_) hs
  split at hq
  · rename_i x tk e2
    rw [e2]
    exact h x tk (by rw [List.getElem?_eq_getElem hlt]; exact Option.some.inj hq ▸ rfl)
  · cases Option.some.inj hq
end
section
variable {w : World} {A : Around} {E : Value → Shared → Prop} {s : Shared} {Q : Value → Shared → Prop} {h₀ : Heap} {L : Addr} {news : Led} {m : PySem.Str → Option Value}
theorem item_kind10 {value slice : PySem.Expr} {l n : Nat} {r : Int} {k : Tok} {its : Array Value} (N : News h₀ L s.heap news) (hm : (l, listOf its n) ∈ news)
    (e : its.toList.map (fun v => match v with | .str x _ => some x | _ => none) = ([ofString "boolean", ofString "boolean", ofString "number", ofString "number", ofString "number", ofString "char", ofString "symbol", ofString "port", ofString "procedure", ofString "single"] : List PySem.Str).map some)
    (h0 : 0 ≤ r) (h1 : r < 10) (hs : subscripted slice false (.ref l) (.int r k) = operate [.ref l, .int r k] (getItem (.ref l) (.int r k)))
    (h : (∀ tk, Q (.str (ofString "number") tk) s) ∧ (∀ tk, Q (.str (ofString "single") tk) s) ∧ ∀ x tk c, wd[c]? = some x → c ∈ [0, 4, 5, 6, 7] → (x == ofString "number") = false → (x == ofString "single") = false → Q (.str x tk) s) : wpAny (model P0 w) A (subscriptTail value slice (.ref l) (.int r k)) Q E s := by
  refine item_words N hm _ e h0 (by simpa using h1) (by simp) hs fun x tk hx => ?_
  have : ∀ j < 10, r.toNat = j → Q (.str x tk) s := by
    intro j hj e
    rw [e] at hx
    rcases lt10 hj with rfl | rfl | rfl | rfl | rfl | rfl | rfl | rfl | rfl | rfl <;> cases hx
    · exact h.2.2 _ _ 0 (by rfl) (by decide) (by decide) (by decide)
    · exact h.2.2 _ _ 0 (by rfl) (by decide) (by decide) (by decide)
    · exact h.1 _
    · exact h.1 _
    · exact h.1 _
    · exact h.2.2 _ _ 4 (by rfl) (by decide) (by decide) (by decide)
    · exact h.2.2 _ _ 5 (by rfl) (by decide) (by decide) (by decide)
    · exact h.2.2 _ _ 6 (by rfl) (by decide) (by decide) (by decide)
    · exact h.2.2 _ _ 7 (by rfl) (by decide) (by decide) (by decide)
    · exact h.2.1 _
  exact this r.toNat (nat_of h0 h1) rfl
theorem item_kind4 {value slice : PySem.Expr} {l n : Nat} {r : Int} {k : Tok} {its : Array Value} (N : News h₀ L s.heap news) (hm : (l, listOf its n) ∈ news)
    (e : its.toList.map (fun v => match v with | .str x _ => some x | _ => none) = ([ofString "empty", ofString "unspecified", ofString "unassigned", ofString "eof"] : List PySem.Str).map some)
    (h0 : 0 ≤ r) (h1 : r < 4) (hs : subscripted slice false (.ref l) (.int r k) = operate [.ref l, .int r k] (getItem (.ref l) (.int r k)))
    (h : ∀ x tk c, wd[c]? = some x → c ∈ [8, 9, 10, 11] → Q (.str x tk) s) : wpAny (model P0 w) A (subscriptTail value slice (.ref l) (.int r k)) Q E s := by
  refine item_words N hm _ e h0 (by simpa using h1) (by simp) hs fun x tk hx => ?_
  refine h x tk (8 + r.toNat) ?_ ?_
  · have : ∀ j < 4, wd[8 + j]? = ([ofString "empty", ofString "unspecified", ofString "unassigned", ofString "eof"] : List PySem.Str)[j]? := by decide
    rw [this _ (nat_of h0 h1)]; exact hx
  · exact (by decide : ∀ j < 4, 8 + j ∈ [8, 9, 10, 11]) _ (nat_of h0 h1)
theorem item_int3 {value slice : PySem.Expr} {l n : Nat} {r : Int} {k : Tok} {its : Array Value} (N : News h₀ L s.heap news) (hm : (l, listOf its n) ∈ news)
    (e : its.toList.map (fun v => match v with | .int x _ => some x | _ => none) = ([1, -1, 3] : List Int).map some)
    (h0 : 0 ≤ r) (h1 : r < 3) (hs : subscripted slice false (.ref l) (.int r k) = operate [.ref l, .int r k] (getItem (.ref l) (.int r k)))
    (h : ∀ i tk, (i = 1 ∨ i = -1 ∨ i = 3) → Q (.int i tk) s) : wpAny (model P0 w) A (subscriptTail value slice (.ref l) (.int r k)) Q E s := by
  have hl : s.heap.IsList l its := N.isList hm
  have hlen : its.size = 3 := by have := congrArg List.length e; simpa using this
  have hi : its[r.toNat]? = some its[r.toNat] := Array.getElem?_eq_getElem (by omega)
  have hq := congrArg (fun l => l[r.toNat]?) e
  simp only [List.getElem?_map, Array.getElem?_toList, hi, Option.map_some] at hq
  refine tail_any hl.typeIs slot_list_getitem.lookup (wpAny_getItem_list hl (by omega) (by omega) hi ?_) hs
  have : r.toNat = 0 ∨ r.toNat = 1 ∨ r.toNat = 2 := (by decide : ∀ j < 3, j = 0 ∨ j = 1 ∨ j = 2) _ (nat_of h0 h1)
  split at hq
  · rename_i x tk e2
    rw [e2]
    refine h x tk ?_
    rcases this with e3 | e3 | e3 <;> rw [e3] at hq <;> simp at hq <;> first | exact .inl hq | exact .inl hq.symm | exact .inr (.inl hq) | exact .inr (.inl hq.symm) | exact .inr (.inr hq) | exact .inr (.inr hq.symm)
  · rcases this with e3 | e3 | e3 <;> rw [e3] at hq <;> simp at hq
theorem thAt_one {H : Heap} {a n : Nat} {x : PySem.Str} {k k' : Tok} {r : Int} {c : Nat} (h : H.get? a = some (tupO [.str x k, .int r k'] n)) (hx : wd[c]? = some x) (hc : c ∈ [0, 4, 5, 6, 7, 8, 9, 10, 11]) (hr : 8 ≤ c → r = 0) : ThAt H (dec c r) (.ref a) := by
  have e : (dec c r).code = c ∧ (dec c r).arg = r := by
    simp only [List.mem_cons, List.not_mem_nil, or_false] at hc
    rcases hc with rfl | rfl | rfl | rfl | rfl | rfl | rfl | rfl | rfl <;> first | exact ⟨rfl, rfl⟩ | exact ⟨rfl, (hr (by decide)).symm⟩
  refine ⟨a, x, k, .int r k', rfl, ⟨_, h, rfl, n, rfl⟩, ?_⟩
  have := Wh.one (h := H) (t := dec c r) (x := x) k' (by rw [e.1]; exact of_decide_eq_true (all_mem (p := fun c => decide (c ∉ [1, 2, 3])) (by rfl) hc)) (by rw [e.1]; exact hx)
  rw [e.2] at this; exact this
theorem thN_one {h h' : Heap} {a n : Nat} {x : PySem.Str} {k k' : Tok} {r : Int} {c : Nat} (h1 : h.get? a = none) (h2 : h'.get? a = some (tupO [.str x k, .int r k'] n)) (hx : wd[c]? = some x) (hc : c ∈ [0, 4, 5, 6, 7, 8, 9, 10, 11]) (hr : 8 ≤ c → r = 0) : ThN h h' (.ref a) (dec c r) :=
  ⟨a, a, _, _, rfl, h1, h1, h2, h2, fun _ e _ => thAt_one e hx hc hr⟩
theorem okP_one {c : Nat} {r : Int} (hc : c ∈ [0, 4, 5, 6, 7, 8, 9, 10, 11]) (h0 : 0 ≤ r) (h1 : r < 2) : OkP (dec c r) := by
  simp only [List.mem_cons, List.not_mem_nil, or_false] at hc
  have : r = 0 ∨ r = 1 := by omega
  rcases hc with rfl | rfl | rfl | rfl | rfl | rfl | rfl | rfl | rfl <;> exact ⟨(fun e => nomatch e), by first | exact this | trivial⟩
theorem thN_num {h h' : Heap} {a b n n' : Nat} {y : PySem.Str} {k k1 k2 k3 : Tok} {i j : Int} {t : Pl} (h1 : h.get? a = none) (h2 : h.get? b = none) (h3 : h'.get? a = some (tupO [.str (ofString "number") k, .ref b] n)) (h4 : h'.get? b = some (tupO [.str y k1, .int i k2, .int j k3] n'))
    (hc : t.code ∈ [1, 2, 3]) (hy : wd[t.code]? = some y) (hi : t.arg = i) (hd : t.data = .tuple [.str (ofString "number"), .tuple [.str y, .int t.arg, .int j]]) : ThN h h' (.ref a) t := by
  subst hi
  exact ⟨a, b, _, _, rfl, h1, h2, h3, h4, fun H e1 e2 => ⟨a, _, k, _, rfl, ⟨_, e1, rfl, n, rfl⟩, .num hc hy hd ⟨_, e2, rfl, n', rfl⟩⟩⟩
end
/-- what the deck's callers hand on -/
noncomputable def RetD (s : Shared) (d c : Nat) (Post : Value → Heap → Prop) : Result → Shared → Prop :=
  fun r s' => ∃ v dO' cO' h' tk, r = .ok (.ret v) ∧ s' = { s with heap := h', toks := tk } ∧ Dk c dO' cO' ∧ Keep [d, c] s.heap h' ∧ h'.get? d = some dO' ∧ h'.get? c = some cO' ∧ Post v h'
theorem retD_mk {s : Shared} {Post : Value → Heap → Prop} {v : Value} {h' g : Heap} {tk : Nat} {L : Addr} {m : PySem.Str → Option Value} {news : Led} {d c : Nat} {dO' cO' : Obj} (hg : g = hideAll s.heap [d, c]) (F : Fr g L h' m) (N : News g L h' news) (m1 : (d, dO') ∈ news) (m2 : (c, cO') ∈ news) (D : Dk c dO' cO') (p : Post v h') :
    RetD s d c Post (.ok (.ret v)) { heap := h', gens := s.gens, drawn := s.drawn, toks := tk, os := s.os } := ⟨v, _, _, h', tk, rfl, rfl, D, keep_of hg F, N.get m1, N.get m2, p⟩
theorem new_of {h : Heap} {g h' : Heap} {L : Addr} {news : Led} {d c a : Nat} {o : Obj} (hg : g = hideAll h [d, c]) (N : News g L h' news) (hm : (a, o) ∈ news) (n1 : a ≠ d) (n2 : a ≠ c) : h.get? a = none := by
  have := N.fresh hm
  rw [hg] at this
  cases e : h.get? a with
  | none => rfl
  | some o' => rw [hideAll_get _ e (by simp [n1, n2])] at this; exact this

theorem thN_num' {h g h' : Heap} {L : Addr} {news : Led} {d c a b n n' : Nat} {y : PySem.Str} {k k1 k2 k3 : Tok} {i j : Int} {t : Pl} (hg : g = hideAll h [d, c]) (N : News g L h' news) (m1 : (a, tupO [.str (ofString "number") k, .ref b] n) ∈ news) (m2 : (b, tupO [.str y k1, .int i k2, .int j k3] n') ∈ news)
    (n1 : a ≠ d ∧ a ≠ c ∧ b ≠ d ∧ b ≠ c) (hc : t.code ∈ [1, 2, 3]) (hy : wd[t.code]? = some y) (hi : t.arg = i) (hd : t.data = .tuple [.str (ofString "number"), .tuple [.str y, .int t.arg, .int j]]) : ThN h h' (.ref a) t :=
  thN_num (new_of hg N m1 n1.1 n1.2.1) (new_of hg N m2 n1.2.2.1 n1.2.2.2) (N.get m1) (N.get m2) hc hy hi hd

theorem plain_spec {w : World} {mean : ExcName → Option Value} {mg mb : PySem.Str → Option Value} {base : Heap} {s : Shared} {d c : Nat} {dO cO : Obj}
    (X : (K w.params).In base) (T : Top q (looseW q loose) mean mg mb base) (keep : base.StaysIn s.heap) (dc : d ≠ c) (hD : Dk c dO cO)
    (hd : s.heap.get? d = some dO) (hc : s.heap.get? c = some cO) (hd0 : base.get? d = none) (hc0 : base.get? c = none) :
    codeAny (model P0 w) (ad 850 8500) (.call (.ref 855) ⟨[.ref d], []⟩) (RetD s d c fun v h' => ∃ t, OkP t ∧ ThN s.heap h' v t) s := by
  refine enter (news := [(d, dO), (c, cO)]) (binds := [(ofString "deck", .ref d)]) X T keep (by simp [*]) (by rfl) (by rfl) (by decide) (BindsTo.of_eq rfl) (locs rfl) (by decide) rfl rfl rfl ?_
  intro g L' h₁ hg hL F' N' hlt X' T'
  k_fold
  repeat' (first
    | ((with_reducible show wpAny _ _ (call (Value.ref 848) [_, Value.int _ _]) _ _ _); k_dflt (refine' call_draw ?X ?T ?F ?N ?dc ?D ?U ?hm ?hm2 rfl ?zd ?zu ?_; (case F => k_asm); (case N => k_asm); (case X => k_asm); (case T => k_asm); (case D => assumption); (case dc => assumption); (case U => (repeat' (first | (refine' UpD.head ?_ ?_ <;> k_all) | (refine' UpD.tail ?uu1 ?uu2 ?_; (case uu1 => k_ne); (case uu2 => k_ne))))); (case hm => decide); (case hm2 => decide); (case zd => exact Nat.le_of_ble_eq_true rfl); (case zu => exact Nat.le_of_ble_eq_true rfl)); intro r' t' dO' cO' h' tk' r0 r1 D' F' N'; (try dsimp only at N'); (try k_sweep))
    | ((with_reducible show wpAny _ _ (subscriptTail _ _ (Value.ref _) (Value.int _ _)) _ _ _); k_dflt (refine' item_kind10 ?N ?m ?e ?h0 ?h1 ?hs ?_; (case N => k_asm); (case m => k_mem); (case e => rfl); (case h0 => assumption); (case h1 => assumption); (case hs => with_unfolding_all rfl)); refine dropN (by with_reducible assumption) ?_; intro N'; (with_reducible show _ ∧ _ ∧ _); refine ⟨fun tk' => ?_, fun tk' => ?_, fun x' tk' c' hx' hc' e1' e2' => ?_⟩)
    | ((with_reducible show wpAny _ _ (subscriptTail _ _ (Value.ref _) (Value.int _ _)) _ _ _); k_dflt (refine' item_kind4 ?N ?m ?e ?h0 ?h1 ?hs ?_; (case N => k_asm); (case m => k_mem); (case e => rfl); (case h0 => assumption); (case h1 => assumption); (case hs => with_unfolding_all rfl)); intro x' tk' c' hx' hc'; refine dropN (by with_reducible assumption) ?_; intro N')
    | ((with_reducible show wpAny _ _ (subscriptTail _ _ (Value.ref _) (Value.int _ _)) _ _ _); k_dflt (refine' item_int3 ?N ?m ?e ?h0 ?h1 ?hs ?_; (case N => k_asm); (case m => k_mem); (case e => rfl); (case h0 => assumption); (case h1 => assumption); (case hs => with_unfolding_all rfl)); intro i' tk' hi'; refine dropN (by with_reducible assumption) ?_; intro N')
    | (k_extra "attr")
    | (k_extra "meth")
    | (k_extra "def")
    | (k_extra "combo")
    | (k_unfold; (try dsimp only))
    | (k_end; wrow_close)
    | walk1
    | (dsimp only; walk1)
    | (leave1; (try dsimp only))
    | fail "no step")
  all_goals (try k_unfold)
  all_goals (try dsimp only)
  all_goals refine retD_mk hg (by assumption) (by assumption) (by k_mem) (by k_mem) (by assumption) ?_
  all_goals first
    | exact ⟨_, okP_one (c := c') (r := 0) (mem_sub (by rfl) hc') (by decide) (by decide), thN_one (new_of hg (by assumption) (by k_mem) (by k_ne) (by k_ne)) (News.get (by assumption) (by k_mem)) hx' (mem_sub (by rfl) hc') (fun _ => rfl)⟩
    | exact ⟨_, okP_one (c := c') (mem_sub (by rfl) hc') (by assumption) (by assumption), thN_one (new_of hg (by assumption) (by k_mem) (by k_ne) (by k_ne)) (News.get (by assumption) (by k_mem)) hx' (mem_sub (by rfl) hc') (fun h8 => absurd h8 (Nat.not_le.mpr (mem_lt (n := 8) (by rfl) hc')))⟩
    | exact ⟨.ratio _, ⟨(fun e => nomatch e), hi'⟩, thN_num' hg (by assumption) (by k_mem) (by k_mem) (by refine ⟨?_, ?_, ?_, ?_⟩ <;> k_ne) (by simp only [Pl.code]; decide) (by rfl) (by rfl) (by rfl)⟩
    | exact ⟨.real _, ⟨(fun e => nomatch e), trivial⟩, thN_num' hg (by assumption) (by k_mem) (by k_mem) (by refine ⟨?_, ?_, ?_, ?_⟩ <;> k_ne) (by simp only [Pl.code]; decide) (by rfl) (by rfl) (by rfl)⟩
    | exact ⟨.whole _, ⟨(fun e => nomatch e), trivial⟩, thN_num' hg (by assumption) (by k_mem) (by k_mem) (by refine ⟨?_, ?_, ?_, ?_⟩ <;> k_ne) (by simp only [Pl.code]; decide) (by rfl) (by rfl) (by rfl)⟩
theorem neF {l : Led} {a D : Nat} {o : Obj} (f : ∀ p ∈ l, p.1 ≠ a) (m : (D, o) ∈ l) : D ≠ a := f _ m
theorem neF' {l : Led} {a D : Nat} {o : Obj} (f : ∀ p ∈ l, p.1 ≠ a) (m : (D, o) ∈ l) : a ≠ D := (f _ m).symm

section
variable {w : World} {A : Around} {E : Value → Shared → Prop} {s : Shared} {Q : Value → Shared → Prop} {h₀ g : Heap} {L : Addr} {news : Led} {m : PySem.Str → Option Value}
theorem call_thing {dd u : Nat} {f : Addr} {vs : List Value} {d c : Nat} {dO cO : Obj} {upd : Obj → Obj → Led} {Ok : Pl → Prop}
    (C : codeAny (model P0 w) (ad dd u) (.call (.ref f) ⟨vs, []⟩) (RetD s d c fun v h' => ∃ t, Ok t ∧ ThN s.heap h' v t) s) (U : UpD d c dO cO news upd) (hh : A.handled = none) (hd : A.depth ≤ dd) (hu : A.units ≤ u)
    (F : Fr h₀ L s.heap m) (N : News h₀ L s.heap news)
    (h : ∀ (a b : Nat) (oa ob : Obj) (t : Pl) (dO' cO' : Obj) (h' : Heap) (tk' : Nat), Dk c dO' cO' → Ok t → Fr h₀ L h' m → News h₀ L h' ((a, oa) :: (b, ob) :: upd dO' cO') → (∀ p ∈ news, p.1 ≠ a) → (∀ p ∈ news, p.1 ≠ b) → (∀ H, H.get? a = some oa → H.get? b = some ob → ThAt H t (.ref a)) → Q (.ref a) { s with heap := h', toks := tk' }) :
    wpAny (model P0 w) A (call (.ref f) vs) Q E s := by
  obtain ⟨m1, m2, u⟩ := U.mem
  refine wpAny_call (codeAny_mono (code_weak C hh hd hu) fun r s' hr => ?_)
  obtain ⟨v, dO', cO', h', tk', rfl, rfl, D', k, a5, a6, t, ot, a, b, oa, ob, rfl, e1, e2, e3, e4, kt⟩ := hr
  obtain ⟨oL, es, ep, hL, _⟩ := F.ns
  have ne : ∀ x, s.heap.get? x = none → ∀ p ∈ news, p.1 ≠ x := fun x e p hp q => by rw [← q, (N p hp).1] at e; cases e
  have nn : ∀ x o, s.heap.get? x = none → h'.get? x = some o → x ≠ L ∧ h₀.get? x = none := fun x o e e' => ⟨(fun q => by rw [q, hL] at e; cases e), by
    cases q : h₀.get? x with
    | none => rfl
    | some o' => rw [F.keep _ _ q] at e; cases e⟩
  obtain ⟨F', N'⟩ := led_after (news' := upd dO' cO') F N (fun a ha => by
    simp only [List.mem_cons, List.not_mem_nil, or_false] at ha
    rcases ha with rfl | rfl
    · exact ⟨_, m1⟩
    · exact ⟨_, m2⟩) k (fun p hp => by
      rcases u _ _ p hp with ⟨x, y1, y2⟩ | rfl | rfl
      · exact .inl ⟨x, by simp [y1, y2]⟩
      · exact .inr (.inl ⟨by simp, a5⟩)
      · exact .inr (.inl ⟨by simp, a6⟩))
  refine h _ _ _ _ _ _ _ _ _ D' ot F' (fun p hp => ?_) (ne _ e1) (ne _ e2) kt
  rcases List.mem_cons.mp hp with rfl | hp
  · exact ⟨e3, nn _ _ e1 e3⟩
  rcases List.mem_cons.mp hp with rfl | hp
  · exact ⟨e4, nn _ _ e2 e4⟩
  exact N' p hp
theorem cmp_ne_nil {bl e n : Nat} {es : List Value} (hl : g.IsList bl es.toArray) (S : g.StaysIn s.heap) (N : News h₀ L s.heap news) (hm : (e, listOf #[] n) ∈ news) (hu : A.units < cLine) (h : Q (.bool (decide (es.length ≠ 0))) s) :
    wpAny (model P0 w) A (compareOp .NotEq (.ref bl) (.ref e)) Q E s := by
  have hb : s.heap.IsList e #[] := N.isList hm
  have hl' := isList_stays hl S
  cases es with
  | nil => exact PySem.SeqAt.RcNeAt.lists (e := fun _ => true) hl' hb rfl hu (fun j h1 => absurd h1 (by simp)) P0 w E Q h
  | cons x r => exact PySem.SeqAt.RcNeAt.lists_lengths hl' hb (by simp) hu P0 w E Q (by simpa using h)
theorem len_any {bl : Nat} {es : List Value} (hl : g.IsList bl es.toArray) (S : g.StaysIn s.heap) (hz : es.length ≤ 64) (h : ∀ tk tk', Q (.int es.length tk) { s with toks := tk' }) : wpAny (model P0 w) A (call (.builtin "len") [.ref bl]) Q E s := by
  exact PyProof.Rows.len_list (isList_stays hl S) (by simp; omega) (by simpa using h _ _)
theorem thN_block {h g h' : Heap} {L : Addr} {news : Led} {d c a n k : Nat} {z : Int} {t1 t2 : Tok} (hg : g = hideAll h [d, c]) (N : News g L h' news) (m1 : (a, tupO [.str (ofString "block") t1, .int z t2] n) ∈ news) (n1 : a ≠ d ∧ a ≠ c) (h0 : 0 ≤ z) (hk : z < (k : Int)) : ∃ t, OkT k t ∧ ThN h h' (.ref a) t := by
  have h1 := new_of hg N m1 n1.1 n1.2
  refine ⟨.block z.toNat, (show z.toNat < k by omega), a, a, _, _, rfl, h1, h1, N.get m1, N.get m1, fun H e _ => ⟨a, _, t1, _, rfl, ⟨_, e, rfl, n, rfl⟩, ?_⟩⟩
  have := Wh.one (h := H) (t := .block z.toNat) (x := ofString "block") t2 (by simp only [Pl.code]; decide) (by rfl)
  rw [show (Pl.block z.toNat).arg = z from by show ((z.toNat : Nat) : Int) = z; omega] at this
  exact this
theorem thN_pass {h g h' : Heap} {L : Addr} {news : Led} {d c a b k : Nat} {oa ob : Obj} {t : Pl} (hg : g = hideAll h [d, c]) (N : News g L h' news) (m1 : (a, oa) ∈ news) (m2 : (b, ob) ∈ news) (n1 : a ≠ d ∧ a ≠ c ∧ b ≠ d ∧ b ≠ c) (o : OkT k t) (x : ∀ H, H.get? a = some oa → H.get? b = some ob → ThAt H t (.ref a)) : ∃ t, OkT k t ∧ ThN h h' (.ref a) t :=
  ⟨t, o, a, b, oa, ob, rfl, new_of hg N m1 n1.1 n1.2.1, new_of hg N m2 n1.2.2.1 n1.2.2.2, N.get m1, N.get m2, x⟩
end
local macro_rules | `(tactic| k_ne) => `(tactic| k_extra "ne9")

theorem thing_spec {w : World} {mean : ExcName → Option Value} {mg mb : PySem.Str → Option Value} {base : Heap} {s : Shared} {d c bl : Nat} {dO cO : Obj} {es : List Value}
    (X : (K w.params).In base) (T : Top q (looseW q loose) mean mg mb base) (keep : base.StaysIn s.heap) (dc : d ≠ c) (hD : Dk c dO cO)
    (hd : s.heap.get? d = some dO) (hc : s.heap.get? c = some cO) (hd0 : base.get? d = none) (hc0 : base.get? c = none) (hbl : s.heap.IsList bl es.toArray) (hsz : es.length ≤ 64) (nd : bl ≠ d) (nc : bl ≠ c) :
    codeAny (model P0 w) (ad 800 8000) (.call (.ref 862) ⟨[.ref d, .ref bl], []⟩) (RetD s d c fun v h' => ∃ t, OkT es.length t ∧ ThN s.heap h' v t) s := by
  refine enter (news := [(d, dO), (c, cO)]) (binds := [(ofString "deck", .ref d), (ofString "blocks", .ref bl)]) X T keep (by simp [*]) (by rfl) (by rfl) (by decide) (BindsTo.of_eq rfl) (locs rfl) (by decide) rfl rfl rfl ?_
  intro g L' h₁ hg hL F' N' hlt X' T'
  k_fold
  have hbg : g.IsList bl es.toArray := by
    obtain ⟨o, ho, r⟩ := hbl
    exact ⟨o, hg ▸ hideAll_get _ ho (by simp [nd, nc]), r⟩
  repeat' (first
    | ((with_reducible show wpAny _ _ (call (Value.ref 848) [_, Value.int _ _]) _ _ _); k_dflt (refine' call_draw ?X ?T ?F ?N ?dc ?D ?U ?hm ?hm2 rfl ?zd ?zu ?_; (case F => k_asm); (case N => k_asm); (case X => k_asm); (case T => k_asm); (case D => assumption); (case dc => assumption); (case U => (repeat' (first | (refine' UpD.head ?_ ?_ <;> k_all) | (refine' UpD.tail ?uu1 ?uu2 ?_; (case uu1 => k_ne); (case uu2 => k_ne))))); (case hm => first | decide | omega); (case hm2 => first | decide | omega); (case zd => exact Nat.le_of_ble_eq_true rfl); (case zu => exact Nat.le_of_ble_eq_true rfl)); intro r' t' dO' cO' h' tk' r0 r1 D' F' N'; (try dsimp only at N'); (try k_sweep))
    | ((with_reducible show wpAny _ _ (call (Value.ref 855) _) _ _ _); k_dflt (refine' call_thing (dO := _) (cO := _) (plain_spec ?X ?T ?S ?dc ?D (News.get ?N ?m1) (News.get ?N ?m2) (News.fresh ?N ?m1) (News.fresh ?N ?m2)) ?U rfl ?zd ?zu ?F ?N ?_; (case F => k_asm); (case N => k_asm); (case S => exact stays_fr (by k_asm)); (case X => k_asm); (case T => k_asm); (case D => assumption); (case dc => assumption); (case m1 => k_mem); (case m2 => k_mem); (case U => (repeat' (first | (refine' UpD.head ?_ ?_ <;> k_all) | (refine' UpD.tail ?uu1 ?uu2 ?_; (case uu1 => k_ne); (case uu2 => k_ne))))); (case zd => exact Nat.le_of_ble_eq_true rfl); (case zu => exact Nat.le_of_ble_eq_true rfl)); intro a' b' oa' ob' t' dO' cO' h' tk' D' O' F' N' na' nb' k'; (try dsimp only at N'); (try k_sweep))
    | ((with_reducible show wpAny _ _ (compareOp CmpOp.NotEq (Value.ref bl) (Value.ref _)) _ _ _); k_dflt (refine' cmp_ne_nil ?hl ?S ?N ?m ?u ?_; (case hl => assumption); (case S => (repeat (first | exact stays_refl | with_reducible assumption | refine stays_step (by with_reducible assumption) ?_))); (case N => k_asm); (case m => k_mem); (case u => ke_room)))
    | ((with_reducible show wpAny _ _ (call (Value.builtin "len") [Value.ref bl]) _ _ _); k_dflt (refine' len_any ?hl ?S ?z ?_; (case hl => assumption); (case S => (repeat (first | exact stays_refl | with_reducible assumption | refine stays_step (by with_reducible assumption) ?_))); (case z => assumption)); intro tk' tk'')
    | (k_extra "attr")
    | (k_extra "meth")
    | (k_extra "def")
    | (k_extra "combo")
    | (k_unfold; (try dsimp only))
    | (k_end; wrow_close)
    | walk1
    | (dsimp only; walk1)
    | (leave1; (try dsimp only))
    | fail "no step")
  all_goals (try k_unfold)
  all_goals (try dsimp only)
  all_goals refine retD_mk hg (by assumption) (by assumption) (by k_mem) (by k_mem) (by assumption) ?_
  all_goals first
    | exact thN_pass hg N' (.head _) (.tail _ (.head _)) (by refine ⟨?_, ?_, ?_, ?_⟩ <;> k_ne) (OkP.okT O' _) k'
    | exact thN_block hg (by assumption) (by k_mem) (by refine ⟨?_, ?_⟩ <;> k_ne) (by first | omega | (split at r1 <;> omega)) (by omega)
open PyProof.Rows in
theorem enterC {w : World} {A : Around} {s : Shared} {base : Heap} {news : List (Addr × Obj)} {R : Result → Shared → Prop} {name qual : PySem.Str} {st : Stmt} {doc pm : Value} {c f : Addr} {args : Args} {binds : List (PySem.Str × Value)}
    {mean : ExcName → Option Value} {mg mb : PySem.Str → Option Value}
    (X : (K w.params).In base) (T : Top q (looseW q loose) mean mg mb base) (keep : ∀ b o, base.get? b = some o → s.heap.get? b = some o)
    (hN : ∀ p ∈ news, s.heap.get? p.1 = some p.2 ∧ base.get? p.1 = none)
    (ho : (K w.params).lookup f = some (fn name qual st doc pm c)) (hcd : codeIn (K w.params) (.ref c) qual = true) (hroom : A.depth < recursionLimit)
    (hbind : BindsTo s (fnOf name qual (sPar st) (sBody st) (sScope st) .none .none doc pm none (.ref c) .none) args binds)
    (hkind : (binds.all fun y => (sScope st).names.lookup y.1 == some .local || (sScope st).names.lookup y.1 == some .cell) = true)
    (hnd : ((cellsFrom 0 (sScope st).names []).map (·.1)).Nodup) (hco : (sScope st).isCoroutine = false) (hgen : (sScope st).isGenerator = false) (hk : (sScope st).kind = .function)
    (h : ∀ g L' h₁ tk cells, g = hideAll s.heap (news.map (·.1)) → L' = s.heap.objs.size → Fr g L' h₁ (bindL (envOfC qual (sScope st) L' f (.ref c)).kindOf binds fun _ => none) → News g L' h₁ (cells ++ news) →
      CellsAre (bindC (envOfC qual (sScope st) L' f (.ref c)).kindOf binds fun _ => none) (cellsFrom (L' + 1) (sScope st).names []) cells → (∀ p ∈ news, p.1 < L') → (K w.params).In g → Top q (looseW q loose) mean mg mb g →
      wpAny (model P0 w) (A.deeper (envOfC qual (sScope st) L' f (.ref c))) (execs (sBody st) (envOfC qual (sScope st) L' f (.ref c)))
        (fun fl s' => R (.ok (.ret (match fl with | .ret v => v | _ => .none))) s') (fun _ _ => False)
        { s with heap := h₁, toks := tk }) :
    codeAny (model P0 w) A (.call (.ref f) args) R s := by
  have nm : ∀ b o, base.get? b = some o → b ∉ news.map (·.1) := fun b o e q => by
    obtain ⟨p, hp, rfl⟩ := List.mem_map.mp q
    rw [(hN p hp).2] at e; cases e
  have st' : ∀ b o, base.get? b = some o → (hideAll s.heap (news.map (·.1))).get? b = some o := fun b o e => hideAll_get _ (keep b o e) (nm b o e)
  refine codeAny_call_function hroom (keep _ _ (X _ _ ho)) rfl hco hgen rfl (codeRec_of (X.keeps keep) hcd) (hbind _ _ _ _ ?_)
  refine wpAny_newFunctionEnv_cells hk (kindsX hkind _) fun env' he s' x => ?_
  subst he
  refine ⟨(T.nolimit.keeps keep).keeps x.toInCall.keep, codeAny_func ?_⟩
  obtain ⟨h₁, tk, rfl, _⟩ := x.done
  have hk₁ := x.toInCall.keep
  obtain ⟨cells, NC, Y⟩ := Cl.news (h₀ := s.heap) (Nat.le_refl _) fun n c hm => ⟨x.cell n c (lookup_of_mem_nodup (cellsFrom_names (sScope st).names 0 (s.heap.objs.size + 1) [] [] rfl ▸ hnd) hm), x.above n c hm⟩
  refine wpAny_mono (h _ s.heap.objs.size h₁ tk cells rfl rfl ⟨x.toInCall.ns, fun b o e => hk₁ b o (of_hideAll _ e), Nat.le_of_eq (hideAll_size _ _)⟩ (fun p hp => ?_) Y (fun p hp => Heap.lt_size (hN p hp).1) (X.keeps st') (T.keeps st')) (fun _ _ x => x) (fun _ _ x => x.elim)
  rcases List.mem_append.mp hp with hp | hp
  · refine ⟨(NC p hp).1, (NC p hp).2.1, ?_⟩
    cases q : (hideAll s.heap (news.map (·.1))).get? p.1 with
    | none => rfl
    | some o => have := of_hideAll _ q; rw [(NC p hp).2.2] at this; cases this
  · exact ⟨hk₁ _ _ (hN p hp).1, Nat.ne_of_lt (Heap.lt_size (hN p hp).1), hideAll_none _ (List.mem_map_of_mem hp)⟩
theorem enterCN {w : World} {A : Around} {s : Shared} {base : Heap} {R : Result → Shared → Prop} {name qual : PySem.Str} {st : Stmt} {doc pm : Value} {c f : Addr} {args : Args} {binds : List (PySem.Str × Value)}
    {mean : ExcName → Option Value} {mg mb : PySem.Str → Option Value}
    (X : (K w.params).In base) (T : Top q (looseW q loose) mean mg mb base) (keep : ∀ b o, base.get? b = some o → s.heap.get? b = some o)
    (ho : (K w.params).lookup f = some (fn name qual st doc pm c)) (hcd : codeIn (K w.params) (.ref c) qual = true) (hroom : A.depth < recursionLimit)
    (hbind : BindsTo s (fnOf name qual (sPar st) (sBody st) (sScope st) .none .none doc pm none (.ref c) .none) args binds)
    (hkind : (binds.all fun y => (sScope st).names.lookup y.1 == some .local || (sScope st).names.lookup y.1 == some .cell) = true)
    (hnd : ((cellsFrom 0 (sScope st).names []).map (·.1)).Nodup) (hco : (sScope st).isCoroutine = false) (hgen : (sScope st).isGenerator = false) (hk : (sScope st).kind = .function)
    (h : ∀ L' h₁ tk cells, L' = s.heap.objs.size → Fr s.heap L' h₁ (bindL (envOfC qual (sScope st) L' f (.ref c)).kindOf binds fun _ => none) → News s.heap L' h₁ (cells ++ []) →
      CellsAre (bindC (envOfC qual (sScope st) L' f (.ref c)).kindOf binds fun _ => none) (cellsFrom (L' + 1) (sScope st).names []) cells → (K w.params).In s.heap → Top q (looseW q loose) mean mg mb s.heap →
      wpAny (model P0 w) (A.deeper (envOfC qual (sScope st) L' f (.ref c))) (execs (sBody st) (envOfC qual (sScope st) L' f (.ref c)))
        (fun fl s' => R (.ok (.ret (match fl with | .ret v => v | _ => .none))) s') (fun _ _ => False)
        { s with heap := h₁, toks := tk }) :
    codeAny (model P0 w) A (.call (.ref f) args) R s :=
  enterC (news := []) X T keep (fun _ q => nomatch q) ho hcd hroom hbind hkind hnd hco hgen hk fun g L' h₁ tk cells hg hL F N Y _ X' T' => by
    obtain rfl : g = s.heap := hg
    exact h L' h₁ tk cells hL F N Y X' T'
theorem allN {q : Addr × Obj} {l : Led} {a : Nat} (h1 : q.1 ≠ a) (h2 : ∀ p ∈ l, p.1 ≠ a) : ∀ p ∈ q :: l, p.1 ≠ a := List.forall_mem_cons.mpr ⟨h1, h2⟩
theorem neL {l : Led} {a D : Nat} {o : Obj} (f : ∀ p ∈ l, p.1 < a) (m : (D, o) ∈ l) : D ≠ a := fun e => Nat.lt_irrefl _ (show (D : Nat) < D by have := f _ m; rw [← e] at this; exact this)
theorem neL' {l : Led} {a D : Nat} {o : Obj} (f : ∀ p ∈ l, p.1 < a) (m : (D, o) ∈ l) : a ≠ D := (neL f m).symm
theorem lt_two {l : Led} {d x : Nat} {o : Obj} (f : ∀ p ∈ l, p.1 < d) (h : d < x) : ∀ p ∈ (d, o) :: l, p.1 < x := fun p hp => by
  rcases List.mem_cons.mp hp with rfl | hp
  · exact h
  · exact Nat.lt_trans (f p hp) h
theorem lt_up {l : Led} {d x : Nat} (f : ∀ p ∈ l, p.1 < d) (h : d ≤ x) : ∀ p ∈ l, p.1 < x := fun p hp => Nat.lt_of_lt_of_le (f p hp) h
theorem off_all {I C D : Addr} {oC oD : Obj} {l : Led} (x : LCg.Off3 I C D l) (n : ((@Ne Nat I C) ∧ (@Ne Nat I D) ∧ (@Ne Nat C D))) : (∀ p ∈ (C, oC) :: (D, oD) :: l, p.1 ≠ I) ∧ (∀ p ∈ (D, oD) :: l, p.1 ≠ C) ∧ (∀ p ∈ l, p.1 ≠ D) := by
  have k := x.mem
  refine ⟨fun p hp => ?_, fun p hp => ?_, fun p hp => (k p hp).2.2⟩
  · rcases List.mem_cons.mp hp with rfl | hp
    · exact n.1.symm
    rcases List.mem_cons.mp hp with rfl | hp
    · exact n.2.1.symm
    exact (k p hp).1
  · rcases List.mem_cons.mp hp with rfl | hp
    · exact n.2.2.symm
    exact (k p hp).2.1
theorem off_one {D : Addr} : ∀ {l : Led}, LCg.Off1 D l → ∀ p ∈ l, p.1 ≠ D
  | [], _ => fun _ h => nomatch h
  | _ :: _, x => fun p hp => by
    rcases List.mem_cons.mp hp with rfl | hp
    · exact x.1
    · exact off_one x.2 p hp
theorem neG {l : Led} {a z D : Nat} {o : Obj} (f : ∀ p ∈ l, p.1 ≠ z → p.1 ≠ a) (m : (D, o) ∈ l) (n : D ≠ z) : D ≠ a := f _ m n
theorem neG' {l : Led} {a z D : Nat} {o : Obj} (f : ∀ p ∈ l, p.1 ≠ z → p.1 ≠ a) (m : (D, o) ∈ l) (n : D ≠ z) : a ≠ D := (f _ m n).symm
section
variable {w : World} {A : Around} {E : Value → Shared → Prop} {s : Shared} {Q : Value → Shared → Prop} {h₀ g : Heap} {L : Addr} {news news' : Led} {m : PySem.Str → Option Value}
theorem call_value {dd u : Nat} {f : Addr} {vs : List Value} {st vl z : Nat} {base : Heap} {oz : Obj} {t : Pl}
    (hz : (z, oz) ∈ news) (C : codeAny (model P0 w) (ad dd u) (.call (.ref f) ⟨[.ref st, .ref vl, .ref z], []⟩) (Ret s [] fun r h => VaN w.params vs base s.heap h r t) s) (hh : A.handled = none) (hd : A.depth ≤ dd) (hu : A.units ≤ u)
    (F : Fr h₀ L s.heap m) (N : News h₀ L s.heap news)
    (h : ∀ (v : Value) (a b : Nat) (oa ob : Obj) (h' : Heap) (tk' : Nat), Fr h₀ L h' m → News h₀ L h' ((a, oa) :: (b, ob) :: news) → (∀ p ∈ news, p.1 ≠ z → p.1 ≠ a) → (∀ p ∈ news, p.1 ≠ z → p.1 ≠ b) → (∀ H, base.StaysIn H → H.get? a = some oa → H.get? b = some ob → Va w.params vs H v t) → Q v { s with heap := h', toks := tk' }) :
    wpAny (model P0 w) A (call (.ref f) [.ref st, .ref vl, .ref z]) Q E s := by
  refine call_spec C hh hd hu F N fun v h' tk F' N' S p => ?_
  obtain ⟨o, ⟨l, fo⟩, k⟩ := p
  obtain ⟨oL, es, ep, hL, _⟩ := F.ns
  have ne : ∀ x, s.heap.get? x = none → ∀ p ∈ news, p.1 ≠ z → p.1 ≠ x := fun x e p hp _ q => by rw [← q, (N p hp).1] at e; cases e
  have nn : ∀ x, s.heap.get? x = none → x ≠ L ∧ h₀.get? x = none := fun x e => ⟨(fun q => by rw [q, hL] at e; cases e), by
    cases q : h₀.get? x with
    | none => rfl
    | some o' => rw [F.keep _ _ q] at e; cases e⟩
  cases o with
  | nil => exact h v z z oz oz h' tk F' (fun p hp => by
      rcases List.mem_cons.mp hp with rfl | hp
      · exact N' _ hz
      rcases List.mem_cons.mp hp with rfl | hp
      · exact N' _ hz
      exact N' p hp) (fun p _ n => n) (fun p _ n => n) (fun H B _ _ => k H B (fun _ q => nomatch q))
  | cons p r =>
    cases r with
    | nil =>
      have f1 := fo p (.head _)
      exact h v p.1 p.1 p.2 p.2 h' tk F' (fun q hq => by
        rcases List.mem_cons.mp hq with rfl | hq
        · exact ⟨f1.2, nn _ f1.1⟩
        rcases List.mem_cons.mp hq with rfl | hq
        · exact ⟨f1.2, nn _ f1.1⟩
        exact N' q hq) (ne _ f1.1) (ne _ f1.1) (fun H B e _ => k H B (fun q hq => by
          rcases List.mem_cons.mp hq with rfl | hq
          · exact e
          · exact nomatch hq))
    | cons p' r' =>
      cases r' with
      | cons _ _ => simp at l
      | nil =>
        have f1 := fo p (.head _)
        have f2 := fo p' (.tail _ (.head _))
        exact h v p.1 p'.1 p.2 p'.2 h' tk F' (fun q hq => by
          rcases List.mem_cons.mp hq with rfl | hq
          · exact ⟨f1.2, nn _ f1.1⟩
          rcases List.mem_cons.mp hq with rfl | hq
          · exact ⟨f2.2, nn _ f2.1⟩
          exact N' q hq) (ne _ f1.1) (ne _ f2.1) (fun H B e e' => k H B (fun q hq => by
            rcases List.mem_cons.mp hq with rfl | hq
            · exact e
            rcases List.mem_cons.mp hq with rfl | hq
            · exact e'
            · exact nomatch hq))
theorem append_any {D : Addr} {es : List Value} {n : Nat} {x : Value} (F : Fr h₀ L s.heap m) (N : News h₀ L s.heap news) (U : Upd D (listOf es.toArray n) (listOf (es ++ [x]).toArray (n + 1)) news news') (hz : es.length ≤ 64)
    (h : ∀ h', Fr h₀ L h' m → News h₀ L h' news' → Q .none { s with heap := h' }) : wpAny (model P0 w) A (call (.builtin "list.append") [.ref D, x]) Q E s := by
  refine append_K F N (by rw [List.push_toArray]; exact U) h ?_
  rw [List.size_toArray]; exact Nat.le_trans hz (by decide)
end
/-- a block of the law: what it was made of, or changed to -/
inductive Bl where
  | string (cs : List Int) | pair (a b : Pl) | vector (a b : Pl) | box (a : Pl) | promise (d : Bool) (a : Pl)
noncomputable def Bl.word : Bl → PySem.Str
  | .string _ => ofString "string" | .pair _ _ => ofString "pair" | .vector _ _ => ofString "vector" | .box _ => ofString "box" | .promise _ _ => ofString "promise"
noncomputable def Bl.cls : Bl → Nat
  | .string _ => 197 | .pair _ _ => 155 | .vector _ _ => 218 | .box _ => 239 | .promise _ _ => 260
noncomputable def Bl.Ok (n : Nat) : Bl → Prop
  | .string cs => cs.length ≤ 2
  | .pair a b => OkT n a ∧ OkT n b | .vector a b => OkT n a ∧ OkT n b | .box a => OkT n a | .promise _ a => OkT n a
/-- the list of a block's parts -/
inductive Po (H : Heap) : Obj → Bl → Prop
  | string {cs : List Int} {pv : List Value} {n : Nat} : IntsAre pv cs → Po H (listOf pv.toArray n) (.string cs)
  | pair {a b : Pl} {v u : Value} {n : Nat} : ThAt H a v → ThAt H b u → Po H (listOf #[v, u] n) (.pair a b)
  | vector {a b : Pl} {v u : Value} {n : Nat} : ThAt H a v → ThAt H b u → Po H (listOf #[v, u] n) (.vector a b)
  | box {a : Pl} {v : Value} {n : Nat} : ThAt H a v → Po H (listOf #[v] n) (.box a)
  | promise {d : Bool} {a : Pl} {v : Value} {n : Nat} : ThAt H a v → Po H (listOf #[.bool d, v] n) (.promise d a)
/-- what a block's object x holds, at its address m -/
inductive Mo (P : Params) (vs : List Value) (H : Heap) (x m : Nat) : Obj → Bl → Prop
  | string {cs : List Int} {pv : List Value} {n : Nat} : Inst1 P H x 197 (ofString "codes") (.ref m) → IntsAre pv cs → Mo P vs H x m (listOf pv.toArray n) (.string cs)
  | pair {a b : Pl} {v u : Value} {t t' : Tok} : H.get? x = some (instObj 155 m) → Va P vs H v a → Va P vs H u b → Mo P vs H x m (dictOf [en P (ofString "car") t v, en P (ofString "cdr") t' u] 2) (.pair a b)
  | vector {a b : Pl} {v u : Value} {n : Nat} : Inst1 P H x 218 (ofString "things") (.ref m) → Va P vs H v a → Va P vs H u b → Mo P vs H x m (listOf #[v, u] n) (.vector a b)
  | box {a : Pl} {v : Value} {t : Tok} : H.get? x = some (instObj 239 m) → Va P vs H v a → Mo P vs H x m (dictOf [en P (ofString "content") t v] 1) (.box a)
  | promise {d : Bool} {a : Pl} {v : Value} {t t' : Tok} : H.get? x = some (instObj 260 m) → Va P vs H v a → Mo P vs H x m (dictOf [en P (ofString "is_done") t (.bool d), en P (ofString "content") t' v] 2) (.promise d a)
theorem th_of {h₀ h : Heap} {L : Addr} {news : Led} {a b : Nat} {oa ob : Obj} {t : Pl} (k : ∀ H, H.get? a = some oa → H.get? b = some ob → ThAt H t (.ref a)) (N : News h₀ L h news) (m1 : (a, oa) ∈ news) (m2 : (b, ob) ∈ news) : ThAt h t (.ref a) := k _ (N.get m1) (N.get m2)
theorem int3 {r : Int} (h : 0 ≤ r) (h' : r < 3) : r = 0 ∨ r = 1 ∨ r = 2 := by omega
theorem item_w5 {w : World} {A : Around} {E : Value → Shared → Prop} {s : Shared} {Q : Value → Shared → Prop} {h₀ : Heap} {L : Addr} {news : Led} {value slice : PySem.Expr} {l n : Nat} {r : Int} {k : Tok} {its : Array Value} (N : News h₀ L s.heap news) (hm : (l, listOf its n) ∈ news)
    (e : its.toList.map (fun v => match v with | .str x _ => some x | _ => none) = ([ofString "pair", ofString "string", ofString "vector", ofString "box", ofString "promise"] : List PySem.Str).map some)
    (h0 : 0 ≤ r) (h1 : r < 5) (hs : subscripted slice false (.ref l) (.int r k) = operate [.ref l, .int r k] (getItem (.ref l) (.int r k)))
    (h : (∀ tk, Q (.str (ofString "string") tk) s) ∧ ∀ x tk, x ∈ [ofString "pair", ofString "vector", ofString "box", ofString "promise"] → (x == ofString "string") = false → Q (.str x tk) s) : wpAny (model P0 w) A (subscriptTail value slice (.ref l) (.int r k)) Q E s := by
  refine item_words N hm _ e h0 (by simpa using h1) (by simp) hs fun x tk hx => ?_
  have : ∀ j < 5, r.toNat = j → Q (.str x tk) s := by
    intro j hj e
    rw [e] at hx
    have : j = 0 ∨ j = 1 ∨ j = 2 ∨ j = 3 ∨ j = 4 := by omega
    rcases this with rfl | rfl | rfl | rfl | rfl <;> cases hx
    · exact h.2 _ _ (by decide) (by decide)
    · exact h.1 _
    · exact h.2 _ _ (by decide) (by decide)
    · exact h.2 _ _ (by decide) (by decide)
    · exact h.2 _ _ (by decide) (by decide)
  exact this r.toNat (by omega) rfl
/-- a tail off an address -/
noncomputable def Off (l : Led) (y : Nat) : Prop := ∀ q ∈ l, q.1 ≠ y
theorem let4 {P : Prop} {g h : Heap} {L : Nat} {x : Addr × Obj} {o1 o2 o3 o4 : Obj} {r : Led} (N : News g L h (x :: (L + 1 + 1 + 1 + 1, o1) :: (L + 1 + 1 + 1, o2) :: (L + 1 + 1, o3) :: (L + 1, o4) :: r)) (k : let c1 : Nat := L + 1 + 1 + 1 + 1; let c2 : Nat := L + 1 + 1 + 1; let c3 : Nat := L + 1 + 1; let c4 : Nat := L + 1; News g L h (x :: (c1, o1) :: (c2, o2) :: (c3, o3) :: (c4, o4) :: r) → P) : P := k N
theorem let4n {P : Prop} {g h : Heap} {L : Nat} {o1 o2 o3 o4 : Obj} {r : Led} (N : News g L h ((L + 1 + 1 + 1 + 1, o1) :: (L + 1 + 1 + 1, o2) :: (L + 1 + 1, o3) :: (L + 1, o4) :: r)) (k : let c1 : Nat := L + 1 + 1 + 1 + 1; let c2 : Nat := L + 1 + 1 + 1; let c3 : Nat := L + 1 + 1; let c4 : Nat := L + 1; News g L h ((c1, o1) :: (c2, o2) :: (c3, o3) :: (c4, o4) :: r) → P) : P := k N
theorem memE {α : Type} {a : α} {l : List α} (h : a ∈ l) : List.Mem a l := h
theorem offE {l : Led} {y : Nat} (h : Off l y) : ∀ q ∈ l, q.1 ≠ y := h
theorem tlL {tl l : Led} {a : Nat} (f : ∀ p ∈ l, p.1 < a) (s : ∀ p ∈ tl, p ∈ l) : ∀ p ∈ tl, p.1 ≠ a := fun p hp => Nat.ne_of_lt (f p (s p hp))
/-- what a making leaves -/
inductive MkOut (P : Params) (vs es : List Value) (base g : Heap) (d c bl vl n1 n2 : Nat) (h' : Heap) : Prop
  | mk (e x p m : Nat) (po mo : Obj) (imm : Led) (b : Bl) (dO' cO' : Obj) (k : Tok) (z0 : Dk c dO' cO') (z1 : h'.get? d = some dO') (z2 : h'.get? c = some cO') (z3 : h'.get? bl = some (listOf (es ++ [Value.ref e]).toArray (n1 + 1))) (z4 : h'.get? vl = some (listOf (vs ++ [Value.ref x]).toArray (n2 + 1))) (z5 : h'.get? p = some po) (z6 : h'.get? m = some mo) (z7 : g.get? p = none) (z8 : g.get? m = none) (z9 : g.get? x = none) (z10 : (∀ y ∈ [d, c, bl, vl], p ≠ y ∧ m ≠ y ∧ x ≠ y)) (z11 : p ≠ m) (z12 : (∀ q ∈ imm, h'.get? q.1 = some q.2 ∧ g.get? q.1 = none ∧ ∀ y ∈ [d, c, bl, vl, p, m], q.1 ≠ y)) (z13 : b.Ok vs.length) (z14 : (∀ H, base.StaysIn H → Has H imm → H.IsList e #[.str b.word k, .ref p] ∧ Po H po b ∧ Mo P vs H x m mo b)) (z15 : g.StaysIn h') : MkOut P vs es base g d c bl vl n1 n2 h'
theorem MkOut.elim {P : Params} {vs es : List Value} {base g : Heap} {d c bl vl n1 n2 : Nat} {h' : Heap} {motive : Prop} (M : MkOut P vs es base g d c bl vl n1 n2 h') (k9 : ∀ (e x p m : Nat) (po mo : Obj) (imm : Led) (b : Bl) (dO' cO' : Obj) (k : Tok), Dk c dO' cO' → h'.get? d = some dO' → h'.get? c = some cO' → h'.get? bl = some (listOf (es ++ [Value.ref e]).toArray (n1 + 1)) → h'.get? vl = some (listOf (vs ++ [Value.ref x]).toArray (n2 + 1)) →
    h'.get? p = some po → h'.get? m = some mo → g.get? p = none → g.get? m = none → g.get? x = none → (∀ y ∈ [d, c, bl, vl], p ≠ y ∧ m ≠ y ∧ x ≠ y) → p ≠ m → (∀ q ∈ imm, h'.get? q.1 = some q.2 ∧ g.get? q.1 = none ∧ ∀ y ∈ [d, c, bl, vl, p, m], q.1 ≠ y) →
    b.Ok vs.length → (∀ H, base.StaysIn H → Has H imm → H.IsList e #[.str b.word k, .ref p] ∧ Po H po b ∧ Mo P vs H x m mo b) → g.StaysIn h' → motive) : motive := by
  obtain ⟨_, _, _, _, _, _, _, _, _, _, _, a1, a2, a3, a4, a5, a6, a7, a8, a9, b1, b2, b3, b4, b5, b6, b7⟩ := M; exact k9 _ _ _ _ _ _ _ _ _ _ _ a1 a2 a3 a4 a5 a6 a7 a8 a9 b1 b2 b3 b4 b5 b6 b7
theorem mkOut {P : Params} {vs es : List Value} {base g h' : Heap} {d c bl vl n1 n2 L : Nat} {mm : PySem.Str → Option Value} {news imm : Led} {e x p m k0 : Nat} {po mo dO' cO' ox : Obj} {b : Bl} {k : Tok} {w : PySem.Str} (F : Fr g L h' mm) (N : News g L h' news) (D : Dk c dO' cO')
    (m1 : (d, dO') ∈ news) (m2 : (c, cO') ∈ news) (m3 : (bl, listOf (es ++ [Value.ref e]).toArray (n1 + 1)) ∈ news) (m4 : (vl, listOf (vs ++ [Value.ref x]).toArray (n2 + 1)) ∈ news) (m7 : (e, listOf #[.str w k, .ref p] k0) ∈ news) (m5 : (p, po) ∈ news) (m8 : (x, ox) ∈ news) (m6 : (m, mo) ∈ news)
    (np : ∀ y ∈ [d, c, bl, vl], p ≠ y) (nm : ∀ y ∈ [d, c, bl, vl], m ≠ y) (nx : ∀ y ∈ [d, c, bl, vl], x ≠ y) (npm : p ≠ m) (hw : w = b.word)
    (hi : ∀ q ∈ imm, q ∈ news ∧ ∀ y ∈ [d, c, bl, vl, p, m], q.1 ≠ y) (he : (e, listOf #[.str w k, .ref p] k0) ∈ imm) (ok : b.Ok vs.length) (f : ∀ H, base.StaysIn H → Has H imm → Po H po b ∧ Mo P vs H x m mo b) : MkOut P vs es base g d c bl vl n1 n2 h' :=
  ⟨e, x, p, m, po, mo, imm, b, dO', cO', k, D, N.get m1, N.get m2, N.get m3, N.get m4, N.get m5, N.get m6, N.fresh m5, N.fresh m6, N.fresh m8, fun y hy => ⟨np y hy, nm y hy, nx y hy⟩, npm, fun q hq => ⟨N.get (hi q hq).1, N.fresh (hi q hq).1, (hi q hq).2⟩, ok,
    fun H B hh => ⟨⟨_, hh _ he, rfl, _, by rw [hw]⟩, f H B hh⟩, F.keep⟩
theorem all4 {a d c bl vl : Nat} (h : a ≠ d ∧ a ≠ c ∧ a ≠ bl ∧ a ≠ vl) : ∀ y ∈ [d, c, bl, vl], a ≠ y := by
  intro y hy
  simp only [List.mem_cons, List.not_mem_nil, or_false] at hy
  rcases hy with rfl | rfl | rfl | rfl
  · exact h.1
  · exact h.2.1
  · exact h.2.2.1
  · exact h.2.2.2
theorem all6 {a d c bl vl p m : Nat} (h : a ≠ d ∧ a ≠ c ∧ a ≠ bl ∧ a ≠ vl ∧ a ≠ p ∧ a ≠ m) : ∀ y ∈ [d, c, bl, vl, p, m], a ≠ y := by
  intro y hy
  simp only [List.mem_cons, List.not_mem_nil, or_false] at hy
  rcases hy with rfl | rfl | rfl | rfl | rfl | rfl
  · exact h.1
  · exact h.2.1
  · exact h.2.2.1
  · exact h.2.2.2.1
  · exact h.2.2.2.2.1
  · exact h.2.2.2.2.2
theorem imm_tl {tl news : Led} {d c bl vl p m : Nat} (s : ∀ q ∈ tl, q ∈ news) (h : (∀ q ∈ tl, q.1 ≠ d) ∧ (∀ q ∈ tl, q.1 ≠ c) ∧ (∀ q ∈ tl, q.1 ≠ bl) ∧ (∀ q ∈ tl, q.1 ≠ vl) ∧ (∀ q ∈ tl, q.1 ≠ p) ∧ (∀ q ∈ tl, q.1 ≠ m)) :
    ∀ q ∈ tl, q ∈ news ∧ ∀ y ∈ [d, c, bl, vl, p, m], q.1 ≠ y := fun q hq => ⟨s q hq, all6 ⟨h.1 q hq, h.2.1 q hq, h.2.2.1 q hq, h.2.2.2.1 q hq, h.2.2.2.2.1 q hq, h.2.2.2.2.2 q hq⟩⟩
theorem imm_cons {a : Nat} {o : Obj} {imm news : Led} {d c bl vl p m : Nat} (s : (a, o) ∈ news) (h : a ≠ d ∧ a ≠ c ∧ a ≠ bl ∧ a ≠ vl ∧ a ≠ p ∧ a ≠ m) (r : ∀ q ∈ imm, q ∈ news ∧ ∀ y ∈ [d, c, bl, vl, p, m], q.1 ≠ y) :
    ∀ q ∈ (a, o) :: imm, q ∈ news ∧ ∀ y ∈ [d, c, bl, vl, p, m], q.1 ≠ y := fun q hq => by
  rcases List.mem_cons.mp hq with rfl | hq
  · exact ⟨s, all6 h⟩
  · exact r q hq
theorem mkOut_pair {P : Params} {vs es : List Value} {base g h' : Heap} {d c bl vl n1 n2 L k0 kp e x p m : Nat} {mm : PySem.Str → Option Value} {news tl : Led} {dO' cO' : Obj} {k t t' : Tok} {w : PySem.Str} {ta tb va vb : Value} {A1 B1 : Pl} (F : Fr g L h' mm) (N : News g L h' news) (D : Dk c dO' cO')
    (m1 : (d, dO') ∈ news) (m2 : (c, cO') ∈ news) (m3 : (bl, listOf (es ++ [Value.ref e]).toArray (n1 + 1)) ∈ news) (m4 : (vl, listOf (vs ++ [Value.ref x]).toArray (n2 + 1)) ∈ news) (m7 : (e, listOf #[.str w k, .ref p] k0) ∈ news) (m5 : (p, listOf #[ta, tb] kp) ∈ news) (m8 : (x, instObj 155 m) ∈ news) (m6 : (m, dictOf [en P (ofString "car") t va, en P (ofString "cdr") t' vb] 2) ∈ news)
    (hw : w = ofString "pair") (np : p ≠ d ∧ p ≠ c ∧ p ≠ bl ∧ p ≠ vl) (nm : m ≠ d ∧ m ≠ c ∧ m ≠ bl ∧ m ≠ vl) (npm : p ≠ m) (ne6 : e ≠ d ∧ e ≠ c ∧ e ≠ bl ∧ e ≠ vl ∧ e ≠ p ∧ e ≠ m) (nx6 : x ≠ d ∧ x ≠ c ∧ x ≠ bl ∧ x ≠ vl ∧ x ≠ p ∧ x ≠ m)
    (sub : ∀ q ∈ tl, q ∈ news) (off : (∀ q ∈ tl, q.1 ≠ d) ∧ (∀ q ∈ tl, q.1 ≠ c) ∧ (∀ q ∈ tl, q.1 ≠ bl) ∧ (∀ q ∈ tl, q.1 ≠ vl) ∧ (∀ q ∈ tl, q.1 ≠ p) ∧ (∀ q ∈ tl, q.1 ≠ m))
    (ot : OkT vs.length A1 ∧ OkT vs.length B1) (kt : ∀ H, Has H tl → ThAt H A1 ta ∧ ThAt H B1 tb) (kv : ∀ H, base.StaysIn H → Has H tl → Va P vs H va A1 ∧ Va P vs H vb B1) : MkOut P vs es base g d c bl vl n1 n2 h' :=
  mkOut (imm := (e, _) :: (x, _) :: tl) (b := .pair A1 B1) F N D m1 m2 m3 m4 m7 m5 m8 m6 (all4 np) (all4 nm) (all4 ⟨nx6.1, nx6.2.1, nx6.2.2.1, nx6.2.2.2.1⟩) npm hw (imm_cons m7 ne6 (imm_cons m8 nx6 (imm_tl sub off))) (.head _) ot (fun H B hh => ⟨.pair (kt H fun q hq => hh q (.tail _ (.tail _ hq))).1 (kt H fun q hq => hh q (.tail _ (.tail _ hq))).2, .pair (hh _ (.tail _ (.head _))) (kv H B fun q hq => hh q (.tail _ (.tail _ hq))).1 (kv H B fun q hq => hh q (.tail _ (.tail _ hq))).2⟩)
theorem mkOut_vector {P : Params} {vs es : List Value} {base g h' : Heap} {d c bl vl n1 n2 L k0 kp km kd dx e x p m : Nat} {mm : PySem.Str → Option Value} {news tl : Led} {dO' cO' : Obj} {k t : Tok} {w : PySem.Str} {ta tb va vb : Value} {A1 B1 : Pl} (F : Fr g L h' mm) (N : News g L h' news) (D : Dk c dO' cO')
    (m1 : (d, dO') ∈ news) (m2 : (c, cO') ∈ news) (m3 : (bl, listOf (es ++ [Value.ref e]).toArray (n1 + 1)) ∈ news) (m4 : (vl, listOf (vs ++ [Value.ref x]).toArray (n2 + 1)) ∈ news) (m7 : (e, listOf #[.str w k, .ref p] k0) ∈ news) (m5 : (p, listOf #[ta, tb] kp) ∈ news) (m8 : (x, instObj 218 dx) ∈ news) (m9 : (dx, dictOf [en P (ofString "things") t (.ref m)] kd) ∈ news) (m6 : (m, listOf #[va, vb] km) ∈ news)
    (hw : w = ofString "vector") (np : p ≠ d ∧ p ≠ c ∧ p ≠ bl ∧ p ≠ vl) (nm : m ≠ d ∧ m ≠ c ∧ m ≠ bl ∧ m ≠ vl) (npm : p ≠ m) (ne6 : e ≠ d ∧ e ≠ c ∧ e ≠ bl ∧ e ≠ vl ∧ e ≠ p ∧ e ≠ m) (nx6 : x ≠ d ∧ x ≠ c ∧ x ≠ bl ∧ x ≠ vl ∧ x ≠ p ∧ x ≠ m) (nd6 : dx ≠ d ∧ dx ≠ c ∧ dx ≠ bl ∧ dx ≠ vl ∧ dx ≠ p ∧ dx ≠ m)
    (sub : ∀ q ∈ tl, q ∈ news) (off : (∀ q ∈ tl, q.1 ≠ d) ∧ (∀ q ∈ tl, q.1 ≠ c) ∧ (∀ q ∈ tl, q.1 ≠ bl) ∧ (∀ q ∈ tl, q.1 ≠ vl) ∧ (∀ q ∈ tl, q.1 ≠ p) ∧ (∀ q ∈ tl, q.1 ≠ m))
    (ot : OkT vs.length A1 ∧ OkT vs.length B1) (kt : ∀ H, Has H tl → ThAt H A1 ta ∧ ThAt H B1 tb) (kv : ∀ H, base.StaysIn H → Has H tl → Va P vs H va A1 ∧ Va P vs H vb B1) : MkOut P vs es base g d c bl vl n1 n2 h' :=
  mkOut (imm := (e, _) :: (x, _) :: (dx, _) :: tl) (b := .vector A1 B1) F N D m1 m2 m3 m4 m7 m5 m8 m6 (all4 np) (all4 nm) (all4 ⟨nx6.1, nx6.2.1, nx6.2.2.1, nx6.2.2.2.1⟩) npm hw (imm_cons m7 ne6 (imm_cons m8 nx6 (imm_cons m9 nd6 (imm_tl sub off)))) (.head _) ot (fun H B hh => ⟨.vector (kt H fun q hq => hh q (.tail _ (.tail _ (.tail _ hq)))).1 (kt H fun q hq => hh q (.tail _ (.tail _ (.tail _ hq)))).2, .vector ⟨_, _, _, inst_get (hh _ (.tail _ (.head _))) (hh _ (.tail _ (.tail _ (.head _))))⟩ (kv H B fun q hq => hh q (.tail _ (.tail _ (.tail _ hq)))).1 (kv H B fun q hq => hh q (.tail _ (.tail _ (.tail _ hq)))).2⟩)
theorem mkOut_box {P : Params} {vs es : List Value} {base g h' : Heap} {d c bl vl n1 n2 L k0 kp e x p m : Nat} {mm : PySem.Str → Option Value} {news tl : Led} {dO' cO' : Obj} {k t : Tok} {w : PySem.Str} {ta tb va vb : Value} {A1 B1 : Pl} (F : Fr g L h' mm) (N : News g L h' news) (D : Dk c dO' cO')
    (m1 : (d, dO') ∈ news) (m2 : (c, cO') ∈ news) (m3 : (bl, listOf (es ++ [Value.ref e]).toArray (n1 + 1)) ∈ news) (m4 : (vl, listOf (vs ++ [Value.ref x]).toArray (n2 + 1)) ∈ news) (m7 : (e, listOf #[.str w k, .ref p] k0) ∈ news) (m5 : (p, listOf #[ta] kp) ∈ news) (m8 : (x, instObj 239 m) ∈ news) (m6 : (m, dictOf [en P (ofString "content") t va] 1) ∈ news)
    (hw : w = ofString "box") (np : p ≠ d ∧ p ≠ c ∧ p ≠ bl ∧ p ≠ vl) (nm : m ≠ d ∧ m ≠ c ∧ m ≠ bl ∧ m ≠ vl) (npm : p ≠ m) (ne6 : e ≠ d ∧ e ≠ c ∧ e ≠ bl ∧ e ≠ vl ∧ e ≠ p ∧ e ≠ m) (nx6 : x ≠ d ∧ x ≠ c ∧ x ≠ bl ∧ x ≠ vl ∧ x ≠ p ∧ x ≠ m)
    (sub : ∀ q ∈ tl, q ∈ news) (off : (∀ q ∈ tl, q.1 ≠ d) ∧ (∀ q ∈ tl, q.1 ≠ c) ∧ (∀ q ∈ tl, q.1 ≠ bl) ∧ (∀ q ∈ tl, q.1 ≠ vl) ∧ (∀ q ∈ tl, q.1 ≠ p) ∧ (∀ q ∈ tl, q.1 ≠ m))
    (ot : OkT vs.length A1 ∧ OkT vs.length B1) (kt : ∀ H, Has H tl → ThAt H A1 ta ∧ ThAt H B1 tb) (kv : ∀ H, base.StaysIn H → Has H tl → Va P vs H va A1 ∧ Va P vs H vb B1) : MkOut P vs es base g d c bl vl n1 n2 h' :=
  mkOut (imm := (e, _) :: (x, _) :: tl) (b := .box A1) F N D m1 m2 m3 m4 m7 m5 m8 m6 (all4 np) (all4 nm) (all4 ⟨nx6.1, nx6.2.1, nx6.2.2.1, nx6.2.2.2.1⟩) npm hw (imm_cons m7 ne6 (imm_cons m8 nx6 (imm_tl sub off))) (.head _) ot.1 (fun H B hh => ⟨.box (kt H fun q hq => hh q (.tail _ (.tail _ hq))).1, .box (hh _ (.tail _ (.head _))) (kv H B fun q hq => hh q (.tail _ (.tail _ hq))).1⟩)
theorem mkOut_promise {P : Params} {vs es : List Value} {base g h' : Heap} {d c bl vl n1 n2 L k0 kp e x p m : Nat} {mm : PySem.Str → Option Value} {news tl : Led} {dO' cO' : Obj} {k t t' : Tok} {w : PySem.Str} {ta tb va vb : Value} {A1 B1 : Pl} {dn : Bool} (F : Fr g L h' mm) (N : News g L h' news) (D : Dk c dO' cO')
    (m1 : (d, dO') ∈ news) (m2 : (c, cO') ∈ news) (m3 : (bl, listOf (es ++ [Value.ref e]).toArray (n1 + 1)) ∈ news) (m4 : (vl, listOf (vs ++ [Value.ref x]).toArray (n2 + 1)) ∈ news) (m7 : (e, listOf #[.str w k, .ref p] k0) ∈ news) (m5 : (p, listOf #[.bool dn, ta] kp) ∈ news) (m8 : (x, instObj 260 m) ∈ news) (m6 : (m, dictOf [en P (ofString "is_done") t (.bool dn), en P (ofString "content") t' va] 2) ∈ news)
    (hw : w = ofString "promise") (np : p ≠ d ∧ p ≠ c ∧ p ≠ bl ∧ p ≠ vl) (nm : m ≠ d ∧ m ≠ c ∧ m ≠ bl ∧ m ≠ vl) (npm : p ≠ m) (ne6 : e ≠ d ∧ e ≠ c ∧ e ≠ bl ∧ e ≠ vl ∧ e ≠ p ∧ e ≠ m) (nx6 : x ≠ d ∧ x ≠ c ∧ x ≠ bl ∧ x ≠ vl ∧ x ≠ p ∧ x ≠ m)
    (sub : ∀ q ∈ tl, q ∈ news) (off : (∀ q ∈ tl, q.1 ≠ d) ∧ (∀ q ∈ tl, q.1 ≠ c) ∧ (∀ q ∈ tl, q.1 ≠ bl) ∧ (∀ q ∈ tl, q.1 ≠ vl) ∧ (∀ q ∈ tl, q.1 ≠ p) ∧ (∀ q ∈ tl, q.1 ≠ m))
    (ot : OkT vs.length A1 ∧ OkT vs.length B1) (kt : ∀ H, Has H tl → ThAt H A1 ta ∧ ThAt H B1 tb) (kv : ∀ H, base.StaysIn H → Has H tl → Va P vs H va A1 ∧ Va P vs H vb B1) : MkOut P vs es base g d c bl vl n1 n2 h' :=
  mkOut (imm := (e, _) :: (x, _) :: tl) (b := .promise dn A1) F N D m1 m2 m3 m4 m7 m5 m8 m6 (all4 np) (all4 nm) (all4 ⟨nx6.1, nx6.2.1, nx6.2.2.1, nx6.2.2.2.1⟩) npm hw (imm_cons m7 ne6 (imm_cons m8 nx6 (imm_tl sub off))) (.head _) ot.1 (fun H B hh => ⟨.promise (kt H fun q hq => hh q (.tail _ (.tail _ hq))).1, .promise (hh _ (.tail _ (.head _))) (kv H B fun q hq => hh q (.tail _ (.tail _ hq))).1⟩)
theorem w_promise {x : PySem.Str} (h : x ∈ [ofString "pair", ofString "vector", ofString "box", ofString "promise"]) (e1 : (x == ofString "pair") = false) (e2 : (x == ofString "vector") = false) (e3 : (x == ofString "box") = false) : x = ofString "promise" := by
  simp only [List.mem_cons, List.not_mem_nil, or_false] at h
  rcases h with rfl | rfl | rfl | rfl
  · simp at e1
  · simp at e2
  · simp at e3
  · rfl
local macro_rules | `(tactic| k_lt $_:ident) => `(tactic| skip)
local macro_rules | `(tactic| k_ne) => `(tactic| k_extra "ne")
local macro_rules | `(tactic| k_all) => `(tactic| k_extra "all")
local macro_rules | `(tactic| k_mem) => `(tactic| k_extra "mem")

theorem make_tail {w : World} {mean : ExcName → Option Value} {mg mb : PySem.Str → Option Value} {base g : Heap} {s : Shared} {E : Value → Shared → Prop} {Q : Flow → Shared → Prop} {d c bl vl st n1 n2 nT L T0 : Nat} {dO cO o1 o2 o3 o4 : Obj} {es vs : List Value} {tl : Led} {m₀ : PySem.Str → Option Value}
    {xw : PySem.Str} {tkw : Tok} {ta tb va vb : Value} {A1 B1 : Pl}
    (X : (K w.params).In g) (T : Top q (looseW q loose) mean mg mb g) (hS : StoreAt w.params g st) (Sb : base.StaysIn g)
    (F : Fr g L s.heap (fun y => if y = ofString "other" then some vb else if y = ofString "one" then some va else if y = ofString "things" then some (.ref T0) else if y = ofString "word" then some (.str xw tkw) else m₀ y))
    (N : News g L s.heap ((T0, listOf #[ta, tb] nT) :: (L + 1 + 1 + 1 + 1, o1) :: (L + 1 + 1 + 1, o2) :: (L + 1 + 1, o3) :: (L + 1, o4) :: (d, dO) :: (c, cO) :: (bl, listOf es.toArray n1) :: (vl, listOf vs.toArray n2) :: tl))
    (hc1 : o1.data = .cell (some (.ref vl))) (hc2 : o2.data = .cell (some (.ref bl))) (hc3 : o3.data = .cell (some (.ref st))) (hc4 : o4.data = .cell (some (.ref d)))
    (dc : d ≠ c) (hD : Dk c dO cO) (hxw : xw ∈ [ofString "pair", ofString "vector", ofString "box", ofString "promise"]) (hse : es.length ≤ 64) (hsz : vs.length ≤ 64)
    (nd : ∀ p ∈ ([(L + 1 + 1 + 1 + 1, dO), (L + 1 + 1 + 1, dO), (L + 1 + 1, dO), (L + 1, dO), (T0, dO)] : Led), p.1 ≠ d) (nc : ∀ p ∈ ([(L + 1 + 1 + 1 + 1, dO), (L + 1 + 1 + 1, dO), (L + 1 + 1, dO), (L + 1, dO), (T0, dO)] : Led), p.1 ≠ c)
    (nbl : ∀ p ∈ ([(L + 1 + 1 + 1 + 1, dO), (L + 1 + 1 + 1, dO), (L + 1 + 1, dO), (L + 1, dO), (d, dO), (c, dO), (T0, dO)] : Led), p.1 ≠ bl) (nvl : ∀ p ∈ ([(L + 1 + 1 + 1 + 1, dO), (L + 1 + 1 + 1, dO), (L + 1 + 1, dO), (L + 1, dO), (d, dO), (c, dO), (bl, dO), (T0, dO)] : Led), p.1 ≠ vl)
    (ht1 : Off tl d) (ht2 : Off tl c) (ht3 : Off tl bl) (ht4 : Off tl vl) (ht5 : Off tl T0)
    (ot : OkT vs.length A1 ∧ OkT vs.length B1) (kt : ∀ H, Has H tl → ThAt H A1 ta ∧ ThAt H B1 tb) (kv : ∀ H, base.StaysIn H → Has H tl → Va w.params vs H va A1 ∧ Va w.params vs H vb B1)
    (hQ : ∀ h' tk, MkOut w.params vs es base g d c bl vl n1 n2 h' → Q .next { s with heap := h', toks := tk }) :
    wpAny (model P0 w) ((ad 700 7000).deeper (envOfC (ofString "_law_make") (sScope (stm 47)) L 874 (.ref 873))) (execs ((sBody (stm 47)).drop 4) (envOfC (ofString "_law_make") (sScope (stm 47)) L 874 (.ref 873))) Q E s := by
  refine StoreAt.elim (hS) ?_; intro ds n k0 tb' dt n' k1 k2 rw' bt y0 y1 t0 t1 u0 u1 I1 I2 I3 I4 I5
  refine let4 N ?_
  clear N
  intro c1 c2 c3 c4 N
  (try k_fold)
  repeat' (first
    | ((with_reducible show wpAny _ _ (call (Value.ref 848) [_, Value.int _ _]) _ _ _); k_dflt (refine' call_draw ?X ?T ?F ?N ?dc ?D ?U ?hm ?hm2 rfl ?zd ?zu ?_; (case F => k_asm); (case N => k_asm); (case X => k_asm); (case T => k_asm); (case D => assumption); (case dc => assumption); (case U => (repeat' (first | (refine' UpD.head ?_ ?_ <;> k_all) | (refine' UpD.tail ?uu1 ?uu2 ?_; (case uu1 => k_ne); (case uu2 => k_ne))))); (case hm => first | decide | omega); (case hm2 => first | decide | omega); (case zd => exact Nat.le_of_ble_eq_true rfl); (case zu => exact Nat.le_of_ble_eq_true rfl)); intro r' t' dO' cO' h' tk' r0 r1 D' F' N'; (try dsimp only at N'); (try k_sweep))
    | ((with_reducible show wpAny _ _ (call (Value.builtin "list.append") [Value.ref _, _]) _ _ _); k_dflt (refine' append_any ?F ?N ?U ?z ?_; (case F => k_asm); (case N => k_asm); (case U => k_upd); (case z => assumption)); intro h' F' N'; (try k_sweep))
    | (k_extra "attr")
    | (k_extra "meth")
    | (k_extra "def")
    | (k_extra "cls2")
    | (k_extra "combo")
    | (k_unfold; (try dsimp only))
    | (k_end; wrow_close)
    | walk1
    | (dsimp only; walk1)
    | (leave1; (try dsimp only))
    | fail "no step")
  all_goals (try k_unfold)
  all_goals (try dsimp only)
  all_goals refine hQ _ _ ?_
  all_goals first
    | exact mkOut_pair (by assumption) (by assumption) (by assumption) (by k_mem) (by k_mem) (by k_mem) (by k_mem) (by k_mem) (by k_mem) (by k_mem) (by k_mem) (beq_iff_eq.mp (by assumption)) (by refine ⟨?_, ?_, ?_, ?_⟩ <;> k_ne) (by refine ⟨?_, ?_, ?_, ?_⟩ <;> k_ne) (by k_ne) (by refine ⟨?_, ?_, ?_, ?_, ?_, ?_⟩ <;> k_ne) (by refine ⟨?_, ?_, ?_, ?_, ?_, ?_⟩ <;> k_ne) (by first | exact fun _ h => h | (intro p' hp'; repeat (first | exact hp' | apply List.Mem.tail))) (by refine ⟨?_, ?_, ?_, ?_, ?_, ?_⟩ <;> k_all) ot kt kv
    | exact mkOut_vector (by assumption) (by assumption) (by assumption) (by k_mem) (by k_mem) (by k_mem) (by k_mem) (by k_mem) (by k_mem) (by k_mem) (by k_mem) (by k_mem) (beq_iff_eq.mp (by assumption)) (by refine ⟨?_, ?_, ?_, ?_⟩ <;> k_ne) (by refine ⟨?_, ?_, ?_, ?_⟩ <;> k_ne) (by k_ne) (by refine ⟨?_, ?_, ?_, ?_, ?_, ?_⟩ <;> k_ne) (by refine ⟨?_, ?_, ?_, ?_, ?_, ?_⟩ <;> k_ne) (by refine ⟨?_, ?_, ?_, ?_, ?_, ?_⟩ <;> k_ne) (by first | exact fun _ h => h | (intro p' hp'; repeat (first | exact hp' | apply List.Mem.tail))) (by refine ⟨?_, ?_, ?_, ?_, ?_, ?_⟩ <;> k_all) ot kt kv
    | exact mkOut_box (by assumption) (by assumption) (by assumption) (by k_mem) (by k_mem) (by k_mem) (by k_mem) (by k_mem) (by k_mem) (by k_mem) (by k_mem) (beq_iff_eq.mp (by assumption)) (by refine ⟨?_, ?_, ?_, ?_⟩ <;> k_ne) (by refine ⟨?_, ?_, ?_, ?_⟩ <;> k_ne) (by k_ne) (by refine ⟨?_, ?_, ?_, ?_, ?_, ?_⟩ <;> k_ne) (by refine ⟨?_, ?_, ?_, ?_, ?_, ?_⟩ <;> k_ne) (by first | exact fun _ h => h | (intro p' hp'; repeat (first | exact hp' | apply List.Mem.tail))) (by refine ⟨?_, ?_, ?_, ?_, ?_, ?_⟩ <;> k_all) ot kt kv
    | exact mkOut_promise (by assumption) (by assumption) (by assumption) (by k_mem) (by k_mem) (by k_mem) (by k_mem) (by k_mem) (by k_mem) (by k_mem) (by k_mem) (w_promise hxw (by assumption) (by assumption) (by assumption)) (by refine ⟨?_, ?_, ?_, ?_⟩ <;> k_ne) (by refine ⟨?_, ?_, ?_, ?_⟩ <;> k_ne) (by k_ne) (by refine ⟨?_, ?_, ?_, ?_, ?_, ?_⟩ <;> k_ne) (by refine ⟨?_, ?_, ?_, ?_, ?_, ?_⟩ <;> k_ne) (by first | exact fun _ h => h | (intro p' hp'; repeat (first | exact hp' | apply List.Mem.tail))) (by refine ⟨?_, ?_, ?_, ?_, ?_, ?_⟩ <;> k_all) ot kt kv
section
variable {h₀ : Heap} {L I C D : Addr} {m : PySem.Str → Option Value} {s₁ : Shared} {oI oC oD : Obj} {S : Led → Prop} {rest : Value → Led → Prop} {y : Value} {h' : Heap} {tk : Nat} {r r0 : Led}
theorem offr2 {x z : Addr × Obj} {I : Addr} (f : ∀ p ∈ x :: z :: r0, p.1 ≠ I) (e : r.map (·.1) = r0.map (·.1)) : ∀ p ∈ r, p.1 ≠ I := fun p hp => by
  have h : p.1 ∈ r.map (·.1) := List.mem_map_of_mem hp
  rw [e] at h
  obtain ⟨p', h1, h2⟩ := List.mem_map.mp h
  rw [← h2]; exact f p' (.tail _ (.tail _ h1))
theorem offr1 {x : Addr × Obj} {I : Addr} (f : ∀ p ∈ x :: r0, p.1 ≠ I) (e : r.map (·.1) = r0.map (·.1)) : ∀ p ∈ r, p.1 ≠ I := offr2 (x := x) (z := x) (fun p hp => by
  rcases List.mem_cons.mp hp with rfl | hp
  · exact f _ (.head _)
  · exact f p hp) e
theorem offr0 {I : Addr} (f : ∀ p ∈ r0, p.1 ≠ I) (e : r.map (·.1) = r0.map (·.1)) : ∀ p ∈ r, p.1 ≠ I := fun p hp => by
  have h : p.1 ∈ r.map (·.1) := List.mem_map_of_mem hp
  rw [e] at h
  obtain ⟨p', h1, h2⟩ := List.mem_map.mp h
  rw [← h2]; exact f p' h1
theorem comp_end0 (F : Fr h₀ L h' m) (N : News h₀ L h' ((I, oI) :: (C, oC) :: (D, oD) :: r)) (f1 : ∀ p ∈ r, p.1 ≠ I) (f2 : ∀ p ∈ r, p.1 ≠ C) (f3 : ∀ p ∈ r, p.1 ≠ D) (hS : S r) (k : rest y r) :
    LCg.CompEnd h₀ L m s₁ I oI C oC D oD S rest y { s₁ with heap := h', toks := tk } := .intro F N r (fun _ h => h) (.of fun p hp => ⟨f1 p hp, f2 p hp, f3 p hp⟩) hS k
theorem comp_end2 {a b : Nat} {oa ob : Obj} (F : Fr h₀ L h' m) (N : News h₀ L h' ((a, oa) :: (b, ob) :: (I, oI) :: (C, oC) :: (D, oD) :: r)) (n1 : I ≠ a ∧ I ≠ b) (n2 : C ≠ a ∧ C ≠ b) (n3 : D ≠ a ∧ D ≠ b) (f1 : ∀ p ∈ r, p.1 ≠ I) (f2 : ∀ p ∈ r, p.1 ≠ C) (f3 : ∀ p ∈ r, p.1 ≠ D)
    (hS : S ((a, oa) :: (b, ob) :: r)) (k : rest y ((a, oa) :: (b, ob) :: r)) : LCg.CompEnd h₀ L m s₁ I oI C oC D oD S rest y { s₁ with heap := h', toks := tk } := by
  refine .intro F N _ (fun p hp => ?_) (.of fun p hp => ?_) hS k
  · simp only [List.mem_cons] at hp ⊢
    rcases hp with h | h | h | h | h | h <;> simp [h]
  · rcases List.mem_cons.mp hp with rfl | hp
    · exact ⟨n1.1.symm, n2.1.symm, n3.1.symm⟩
    rcases List.mem_cons.mp hp with rfl | hp
    · exact ⟨n1.2.symm, n2.2.symm, n3.2.symm⟩
    exact ⟨f1 p hp, f2 p hp, f3 p hp⟩
end
theorem nzs {tl : Led} {d c bl vl T0 a : Nat} {o x : Obj} (h1 : Off tl d) (h2 : Off tl c) (h3 : Off tl bl) (h4 : Off tl vl) (h5 : Off tl T0) (m : (a, o) ∈ tl) : ∀ p ∈ ([(d, x), (c, x), (bl, x), (vl, x), (T0, x)] : Led), p.1 ≠ a := fun p hp => by
  simp only [List.mem_cons, List.not_mem_nil, or_false] at hp
  rcases hp with rfl | rfl | rfl | rfl | rfl
  · exact (h1 _ m).symm
  · exact (h2 _ m).symm
  · exact (h3 _ m).symm
  · exact (h4 _ m).symm
  · exact (h5 _ m).symm
theorem sub4 {g h : Heap} {L : Addr} {x0 e1 e2 e3 e4 q1 q2 q3 q4 q5 q6 q7 q8 q9 : Addr × Obj} {tl : Led} (N : News g L h (x0 :: e1 :: e2 :: e3 :: e4 :: q1 :: q2 :: q3 :: q4 :: q5 :: q6 :: q7 :: q8 :: q9 :: tl)) : News g L h (q1 :: q2 :: q3 :: q4 :: q5 :: q6 :: q7 :: q8 :: q9 :: e1 :: e2 :: e3 :: e4 :: tl) := fun p hp => N p (by
  simp only [List.mem_cons] at hp ⊢
  rcases hp with h | h | h | h | h | h | h | h | h | h | h | h | h | h <;> simp [h])
theorem off4 {e1 e2 e3 e4 y : Nat} {f1 f2 f3 f4 : Obj} {tl : Led} (n : e1 ≠ y ∧ e2 ≠ y ∧ e3 ≠ y ∧ e4 ≠ y) (o : Off tl y) : Off ((e1, f1) :: (e2, f2) :: (e3, f3) :: (e4, f4) :: tl) y := fun p hp => by
  rcases List.mem_cons.mp hp with rfl | hp
  · exact n.1
  rcases List.mem_cons.mp hp with rfl | hp
  · exact n.2.1
  rcases List.mem_cons.mp hp with rfl | hp
  · exact n.2.2.1
  rcases List.mem_cons.mp hp with rfl | hp
  · exact n.2.2.2
  exact o p hp
theorem kvs {P : Params} {vs : List Value} {base : Heap} {a b c d : Nat} {oa ob oc od : Obj} {v u : Value} {t t' : Pl} {tl : Led} (f1 : ∀ H, base.StaysIn H → H.get? a = some oa → H.get? b = some ob → Va P vs H v t) (f2 : ∀ H, base.StaysIn H → H.get? c = some oc → H.get? d = some od → Va P vs H u t') :
    ∀ H, base.StaysIn H → Has H ((c, oc) :: (d, od) :: (a, oa) :: (b, ob) :: tl) → Va P vs H v t ∧ Va P vs H u t' := fun H B hh => ⟨f1 H B (hh _ (.tail _ (.tail _ (.head _)))) (hh _ (.tail _ (.tail _ (.tail _ (.head _))))), f2 H B (hh _ (.head _)) (hh _ (.tail _ (.head _)))⟩
theorem kts {a b c d : Nat} {oa ob oc od : Obj} {v u : Value} {t t' : Pl} {e1 e2 e3 e4 : Addr × Obj} {tl : Led} (f1 : ∀ H, H.get? a = some oa → H.get? b = some ob → ThAt H t v) (f2 : ∀ H, H.get? c = some oc → H.get? d = some od → ThAt H t' u) (t1 : (a, oa) ∈ tl) (t2 : (b, ob) ∈ tl) (t3 : (c, oc) ∈ tl) (t4 : (d, od) ∈ tl) :
    ∀ H, Has H (e1 :: e2 :: e3 :: e4 :: tl) → ThAt H t v ∧ ThAt H t' u := fun H hh => ⟨f1 H (hh _ (.tail _ (.tail _ (.tail _ (.tail _ t1))))) (hh _ (.tail _ (.tail _ (.tail _ (.tail _ t2))))), f2 H (hh _ (.tail _ (.tail _ (.tail _ (.tail _ t3))))) (hh _ (.tail _ (.tail _ (.tail _ (.tail _ t4)))))⟩

theorem make_vals {w : World} {mean : ExcName → Option Value} {mg mb : PySem.Str → Option Value} {base g : Heap} {s : Shared} {E : Value → Shared → Prop} {Q : Flow → Shared → Prop} {d c bl vl st n1 n2 nT L T0 a1 b1 a2 b2 : Nat} {dO cO o1 o2 o3 o4 p1 q1 p2 q2 : Obj} {es vs : List Value} {tl : Led} {m₀ : PySem.Str → Option Value}
    {xw : PySem.Str} {tkw : Tok} {A1 B1 : Pl}
    (X : (K w.params).In base) (T : Top q (looseW q loose) mean mg mb base) (Xg : (K w.params).In g) (Tg : Top q (looseW q loose) mean mg mb g) (hS : StoreAt w.params base st) (Sb : base.StaysIn g)
    (F : Fr g L s.heap (fun y => if y = ofString "things" then some (.ref T0) else if y = ofString "word" then some (.str xw tkw) else m₀ y))
    (N : News g L s.heap ((T0, listOf #[.ref a1, .ref a2] nT) :: (L + 1 + 1 + 1 + 1, o1) :: (L + 1 + 1 + 1, o2) :: (L + 1 + 1, o3) :: (L + 1, o4) :: (d, dO) :: (c, cO) :: (bl, listOf es.toArray n1) :: (vl, listOf vs.toArray n2) :: tl))
    (hc1 : o1.data = .cell (some (.ref vl))) (hc2 : o2.data = .cell (some (.ref bl))) (hc3 : o3.data = .cell (some (.ref st))) (hc4 : o4.data = .cell (some (.ref d)))
    (dc : d ≠ c) (hD : Dk c dO cO) (hxw : xw ∈ [ofString "pair", ofString "vector", ofString "box", ofString "promise"]) (hse : es.length ≤ 64) (hsz : vs.length ≤ 64) (hl : es.length = vs.length)
    (nd : ∀ p ∈ ([(L + 1 + 1 + 1 + 1, dO), (L + 1 + 1 + 1, dO), (L + 1 + 1, dO), (L + 1, dO), (T0, dO)] : Led), p.1 ≠ d) (nc : ∀ p ∈ ([(L + 1 + 1 + 1 + 1, dO), (L + 1 + 1 + 1, dO), (L + 1 + 1, dO), (L + 1, dO), (T0, dO)] : Led), p.1 ≠ c)
    (nbl : ∀ p ∈ ([(L + 1 + 1 + 1 + 1, dO), (L + 1 + 1 + 1, dO), (L + 1 + 1, dO), (L + 1, dO), (d, dO), (c, dO), (T0, dO)] : Led), p.1 ≠ bl) (nvl : ∀ p ∈ ([(L + 1 + 1 + 1 + 1, dO), (L + 1 + 1 + 1, dO), (L + 1 + 1, dO), (L + 1, dO), (d, dO), (c, dO), (bl, dO), (T0, dO)] : Led), p.1 ≠ vl)
    (ht1 : Off tl d) (ht2 : Off tl c) (ht3 : Off tl bl) (ht4 : Off tl vl) (ht5 : Off tl T0)
    (t1 : (a1, p1) ∈ tl) (t2 : (b1, q1) ∈ tl) (t3 : (a2, p2) ∈ tl) (t4 : (b2, q2) ∈ tl) (k1 : ∀ H, H.get? a1 = some p1 → H.get? b1 = some q1 → ThAt H A1 (.ref a1)) (k2 : ∀ H, H.get? a2 = some p2 → H.get? b2 = some q2 → ThAt H B1 (.ref a2)) (O1 : OkT es.length A1) (O2 : OkT es.length B1)
    (hQ : ∀ h' tk, MkOut w.params vs es base g d c bl vl n1 n2 h' → Q .next { s with heap := h', toks := tk }) :
    wpAny (model P0 w) ((ad 700 7000).deeper (envOfC (ofString "_law_make") (sScope (stm 47)) L 874 (.ref 873))) (execs ((sBody (stm 47)).drop 3) (envOfC (ofString "_law_make") (sScope (stm 47)) L 874 (.ref 873))) Q E s := by
  have nz1 := nzs (x := dO) ht1 ht2 ht3 ht4 ht5 t1
  have nz2 := nzs (x := dO) ht1 ht2 ht3 ht4 ht5 t3
  show wpAny _ _ _ _ _ _
  refine let4 N ?_
  clear N
  intro c1 c2 c3 c4 N
  (try k_fold)
  repeat' (first
    | ((with_reducible show wpAny _ _ (eval (Expr.ListComp _ _ _ _) _) _ _ _); k_dflt (refine LCg.ListComp_U (F₀ := by k_asm) (by with_unfolding_all rfl) (by decide) (by rfl) (by decide) (by rfl) ?_))
    | ((with_reducible show wpAny _ _ (exec (Stmt.Assign [Expr.Name _ _] (Expr.ListComp _ _ _ _) _) _) _ _ _); k_dflt (refine LCg.Assign_ListComp_U (F₀ := by k_asm) (by rfl) (by with_unfolding_all rfl) (by with_unfolding_all rfl) (by decide) (by rfl) (by decide) (by rfl) (by rfl) (by rfl) ?_))
    | ((with_reducible show LCg.CompSrc _ _ _ _ _ _ _ _ _ _ _ _ _ _); k_dflt (first | (refine LCg.CompSrc.ledger (by rfl) (by k_asm) (by k_asm) (by k_mem) (by first | size_fits | exact Nat.le_of_ble_eq_true rfl) ?_; intro g'; lcg_lit) | (refine LCg.CompSrc.range (by rfl) (by k_asm) (by k_asm) (by assumption) (by first | decide | rfl) (by first | rfl | decide) (by first | size_fits | exact Nat.le_of_ble_eq_true rfl) ?_; intro g'; lcg_lit)))
    | ((with_reducible show LCg.CompRest _ _ _ _ _ _ _ _ _ _ _ _ _ _ _ _ _ _ _); first | ((with_unfolding_all refine LCg.CompRest.succ ?_); intro v' I' oI' C' oC' D' m' h' tk' E' hv' hC' hx' F' N' off' ne'; (first | lcg_open hv' | (obtain ⟨t9', hv9'⟩ := hv'; subst hv9')); (obtain ⟨offI', offC', offD'⟩ := off_all (oC := oI') (oD := oI') off' ne'); clear off' ne'; (try dsimp only)) | ((with_unfolding_all refine LCg.CompRest.zero ?_); (try dsimp only)))
    | ((with_reducible show LCg.FinE _ _ _ _ _ _ _); (unfold LCg.FinE); intro D' h' tk' F' N' o1'; replace o1' := off_one o1'; (try simp only [List.nil_append, List.cons_append] at N'); (try dsimp only))
    | ((with_reducible show LCg.FinA _ _ _ _ _ _ _ _); (unfold LCg.FinA); intro D' h' tk' F' N' o1'; replace o1' := off_one o1'; (try simp only [List.nil_append, List.cons_append] at N'); (try dsimp only))
    | ((with_reducible show wpAny _ _ (execs [Stmt.If _ _ _ _, Stmt.Expr _ _] _) _ _ _); k_dflt (refine' make_tail (tl := (_, _) :: (_, _) :: (_, _) :: (_, _) :: tl) Xg Tg (hS.stays Sb) Sb ?F (sub4 ?N) hc1 hc2 hc3 hc4 dc hD hxw hse hsz nd nc nbl nvl (off4 ?q1 ht1) (off4 ?q2 ht2) (off4 ?q3 ht3) (off4 ?q4 ht4) (off4 ?q5 ht5) ?ok (kts k1 k2 t1 t2 t3 t4) (kvs ?v1 ?v2) hQ; (case F => k_asm); (case N => k_asm); (case v1 => with_reducible assumption); (case v2 => with_reducible assumption); (case ok => (rw [← hl]; exact ⟨O1, O2⟩)); (case q1 => refine ⟨?_, ?_, ?_, ?_⟩ <;> k_ne); (case q2 => refine ⟨?_, ?_, ?_, ?_⟩ <;> k_ne); (case q3 => refine ⟨?_, ?_, ?_, ?_⟩ <;> k_ne); (case q4 => refine ⟨?_, ?_, ?_, ?_⟩ <;> k_ne); (case q5 => refine ⟨?_, ?_, ?_, ?_⟩ <;> k_ne)))
    | ((with_reducible show LCg.CompEnd _ _ _ _ _ _ _ _ _ _ _ _ _ _); k_dflt (refine' comp_end2 F' N' ?n1 ?n2 ?n3 (offr2 offI' rfl) (offr1 offC' rfl) (offr0 offD' rfl) (by lcg_src) ?_; (case n1 => refine ⟨?_, ?_⟩ <;> k_ne); (case n2 => refine ⟨?_, ?_⟩ <;> k_ne); (case n3 => refine ⟨?_, ?_⟩ <;> k_ne)); clear offI' offC' offD')
    | ((with_reducible show wpAny _ _ (call (Value.ref 869) [_, _, Value.ref _]) _ _ _); k_dflt (refine' call_value (base := base) (vs := vs) ?hz (value_spec X T ?S hS (News.isList ?N ?m3) (th_of ?k ?N ?m1 ?m2) ?ok hsz) rfl ?zd ?zu ?F ?N ?_; (case F => k_asm); (case N => k_asm); (case k => with_reducible assumption); (case m1 => k_mem); (case m2 => k_mem); (case hz => k_mem); (case S => (repeat (first | exact stays_refl | with_reducible assumption | refine stays_step (by with_reducible assumption) ?_))); (case m3 => k_mem); (case ok => (rw [← hl]; assumption)); (case zd => exact Nat.le_of_ble_eq_true rfl); (case zu => exact Nat.le_of_ble_eq_true rfl)); intro v' a' b' oa' ob' h' tk' F' N' na' nb' k'; (try k_sweep))
    | (k_extra "attr")
    | (k_extra "meth")
    | (k_extra "def")
    | (k_extra "cls2")
    | (k_extra "combo")
    | (k_unfold; (try dsimp only))
    | (k_end; wrow_close)
    | walk1
    | (dsimp only; walk1)
    | (leave1; (try dsimp only))
    | fail "no step")
theorem ints_len {pv : List Value} {cs : List Int} (i : IntsAre pv cs) : pv.length = cs.length := by
  induction i with
  | nil => rfl
  | cons _ _ _ ih => simp [ih]
theorem ints_snoc {pv : List Value} {cs : List Int} {z : Int} {t : Tok} (i : IntsAre pv cs) : IntsAre (pv ++ [.int z t]) (cs ++ [z]) := by
  induction i with
  | nil => exact .cons _ _ .nil
  | cons a b _ ih => exact .cons a b ih
theorem rest_indJ {prog : Program} {w : World} {A : Around} {h₀ : Heap} {L : Addr} {m : PySem.Str → Option Value} {env : Env} {elt : PySem.Expr} {x : PySem.Str} {scope : Scope} {cl : List (PySem.Str × Addr)} {s : Shared} {S : Led → Prop} {P : Nat → Value → Prop} {Fin : List Value → Led → Prop} {news0 : Led} {n : Nat} {J : Nat → List Value → Led → Prop}
    (step : ∀ (i : Nat) (ys : List Value) (news : Led) (v : Value) (I : Nat) (oI : Obj) (C : Nat) (oC : Obj) (D : Nat) (m₂ : PySem.Str → Option Value) (h : Heap) (tk : Nat) (E' : Value → Shared → Prop), i < n → J i ys news → P i v → LCg.NsObj oC m₂ → m₂ x = some v → Fr h₀ L h m → News h₀ L h ((I, oI) :: (C, oC) :: (D, LCg.lst ys) :: news) → LCg.Off3 I C D news → ((@Ne Nat I C) ∧ (@Ne Nat I D) ∧ (@Ne Nat C D)) →
      wpAny (model prog w) A (eval elt (compEnvC scope cl C env)) (LCg.CompEnd h₀ L m { s with heap := h, toks := tk } I oI C oC D (LCg.lst ys) S (fun y news' => J (i + 1) (ys ++ [y]) news')) E' { s with heap := h, toks := tk })
    (h0 : J 0 [] news0) (fin : ∀ ys news', J n ys news' → Fin ys news') : LCg.CompRest prog w A h₀ L m env elt x scope cl s S P Fin n 0 [] news0 := by
  have key : ∀ k i ys news, i + k = n → J i ys news → LCg.CompRest prog w A h₀ L m env elt x scope cl s S P Fin k i ys news := by
    intro k
    induction k with
    | zero => intro i ys news e j; obtain rfl : i = n := by omega
              exact fin _ _ j
    | succ k ih =>
      intro i ys news e j
      refine LCg.CompRest.succ fun v I oI C oC D m₂ h tk E' hv hC hx F N off ne => ?_
      refine wpAny_mono (step i _ _ v I oI C oC D m₂ h tk E' (by omega) j hv hC hx F N off ne) (fun y s₂ q => ?_) fun _ _ e => e
      obtain ⟨h', tk', news', a, b, c, d, e1, e2⟩ := q
      exact ⟨h', tk', _, a, b, c, d, e1, ih (i + 1) _ _ (by omega) e2⟩
  exact key n 0 _ _ (by omega) h0
theorem range_n14 {n : Nat} (h : n ≤ 14) : Builtin.Range.small 0 n 1 = true ∧ Builtin.Range.rangeSize 0 n 1 = ((n : Nat) : Int) := by
  have := (by decide : ∀ n < 15, Builtin.Range.small 0 ((n : Nat) : Int) 1 = true ∧ Builtin.Range.rangeSize 0 ((n : Nat) : Int) 1 = ((n : Nat) : Int)) n (Nat.lt_succ_of_le h)
  exact this
theorem UpD.self {d c : Nat} {dO cO : Obj} {l : Led} {g : Obj → Obj → Led} (u : UpD d c dO cO l g) : l = g dO cO := by
  induction u with
  | head _ _ => rfl
  | tail _ _ _ ih => rw [ih]
theorem rest_indU {prog : Program} {w : World} {A : Around} {h₀ : Heap} {L : Addr} {m : PySem.Str → Option Value} {env : Env} {elt : PySem.Expr} {x : PySem.Str} {scope : Scope} {cl : List (PySem.Str × Addr)} {s : Shared} {P : Nat → Value → Prop} {Fin : List Value → Led → Prop} {news0 : Led} {n d c : Nat} {dO cO : Obj} {upd : Obj → Obj → Led}
    (U : UpD d c dO cO news0 upd) (D0 : Dk c dO cO)
    (step : ∀ (i : Nat) (ys : List Value) (dO cO : Obj) (v : Value) (I : Nat) (oI : Obj) (C : Nat) (oC : Obj) (D : Nat) (m₂ : PySem.Str → Option Value) (h : Heap) (tk : Nat) (E' : Value → Shared → Prop), Dk c dO cO → P i v → LCg.NsObj oC m₂ → m₂ x = some v → Fr h₀ L h m → News h₀ L h ((I, oI) :: (C, oC) :: (D, LCg.lst ys) :: upd dO cO) → LCg.Off3 I C D (upd dO cO) → ((@Ne Nat I C) ∧ (@Ne Nat I D) ∧ (@Ne Nat C D)) →
      wpAny (model prog w) A (eval elt (compEnvC scope cl C env)) (LCg.CompEnd h₀ L m { s with heap := h, toks := tk } I oI C oC D (LCg.lst ys) (fun _ => True) (fun y news' => ∃ (z : Int) (t : Tok) (dO' cO' : Obj), y = .int z t ∧ Dk c dO' cO' ∧ news' = upd dO' cO')) E' { s with heap := h, toks := tk })
    (fin : ∀ (ys : List Value) (cs : List Int) (dO' cO' : Obj), IntsAre ys cs → cs.length = n → Dk c dO' cO' → Fin ys (upd dO' cO')) : LCg.CompRest prog w A h₀ L m env elt x scope cl s (fun _ => True) P Fin n 0 [] news0 := by
  refine rest_indJ (J := fun i ys news => ∃ (cs : List Int) (dO' cO' : Obj), IntsAre ys cs ∧ cs.length = i ∧ Dk c dO' cO' ∧ news = upd dO' cO') (fun i ys news v I oI C oC D m₂ h tk E' hi hJ hv hC hx F N off ne => ?_) ⟨[], dO, cO, .nil, rfl, D0, U.self⟩ (fun ys news' hJ => ?_)
  · obtain ⟨cs, dO', cO', hy, hl, D', rfl⟩ := hJ
    refine wpAny_mono (step i ys dO' cO' v I oI C oC D m₂ h tk E' D' hv hC hx F N off ne) (fun y s₂ q => ?_) fun _ _ e => e
    obtain ⟨h', tk', news', a, b, c, d, e1, z, t, dO2, cO2, rfl, D2, rfl⟩ := q
    exact ⟨h', tk', _, a, b, c, d, e1, cs ++ [z], dO2, cO2, ints_snoc hy, by simp [hl], D2, rfl⟩
  · obtain ⟨cs, dO', cO', hy, hl, D', rfl⟩ := hJ
    exact fin ys cs dO' cO' hy hl D'
theorem mkOut_string {P : Params} {vs es : List Value} {base g h' : Heap} {d c bl vl n1 n2 L k0 kp km kd dx e x p m : Nat} {mm : PySem.Str → Option Value} {news : Led} {dO' cO' : Obj} {k t : Tok} {pv mv : List Value} {cs : List Int} (F : Fr g L h' mm) (N : News g L h' news) (D : Dk c dO' cO')
    (m1 : (d, dO') ∈ news) (m2 : (c, cO') ∈ news) (m3 : (bl, listOf (es ++ [Value.ref e]).toArray (n1 + 1)) ∈ news) (m4 : (vl, listOf (vs ++ [Value.ref x]).toArray (n2 + 1)) ∈ news) (m7 : (e, listOf #[.str (ofString "string") k, .ref p] k0) ∈ news) (m5 : (p, listOf pv.toArray kp) ∈ news) (m8 : (x, instObj 197 dx) ∈ news) (m9 : (dx, dictOf [en P (ofString "codes") t (.ref m)] kd) ∈ news) (m6 : (m, listOf mv.toArray km) ∈ news)
    (i1 : IntsAre pv cs) (i2 : IntsAre mv cs) (il : cs.length ≤ 2) (np : p ≠ d ∧ p ≠ c ∧ p ≠ bl ∧ p ≠ vl) (nm : m ≠ d ∧ m ≠ c ∧ m ≠ bl ∧ m ≠ vl) (npm : p ≠ m) (ne6 : e ≠ d ∧ e ≠ c ∧ e ≠ bl ∧ e ≠ vl ∧ e ≠ p ∧ e ≠ m) (nx6 : x ≠ d ∧ x ≠ c ∧ x ≠ bl ∧ x ≠ vl ∧ x ≠ p ∧ x ≠ m) (nd6 : dx ≠ d ∧ dx ≠ c ∧ dx ≠ bl ∧ dx ≠ vl ∧ dx ≠ p ∧ dx ≠ m) : MkOut P vs es base g d c bl vl n1 n2 h' :=
  mkOut (imm := (e, _) :: (x, _) :: (dx, _) :: []) (b := .string cs) F N D m1 m2 m3 m4 m7 m5 m8 m6 (all4 np) (all4 nm) (all4 ⟨nx6.1, nx6.2.1, nx6.2.2.1, nx6.2.2.2.1⟩) npm rfl (imm_cons m7 ne6 (imm_cons m8 nx6 (imm_cons m9 nd6 (fun _ h => nomatch h)))) (.head _) il (fun H B hh => ⟨.string i1, .string ⟨_, _, _, inst_get (hh _ (.tail _ (.head _))) (hh _ (.tail _ (.tail _ (.head _))))⟩ i2⟩)
theorem offnil {y : Nat} : Off [] y := fun _ h => nomatch h
theorem sub4b {g h : Heap} {L : Addr} {x0 e1 e2 e3 e4 q2 q3 q4 q5 q6 q7 q8 q9 : Addr × Obj} (N : News g L h [x0, e1, e2, e3, e4, q2, q3, q4, q5, q6, q7, q8, q9]) : News g L h (x0 :: q2 :: q3 :: q4 :: q5 :: q6 :: q7 :: q8 :: q9 :: e1 :: e2 :: e3 :: e4 :: []) := fun p hp => N p (by
  simp only [List.mem_cons, List.not_mem_nil, or_false] at hp ⊢
  rcases hp with h | h | h | h | h | h | h | h | h | h | h | h | h <;> simp [h])
/-- what a change of the state hands on -/
noncomputable def RetM (s : Shared) (Post : Heap → Prop) : Result → Shared → Prop := fun r s' => ∃ h' tk, r = .ok (.ret .none) ∧ s' = { s with heap := h', toks := tk } ∧ Post h'
theorem retM_mk {s : Shared} {Post : Heap → Prop} {h' : Heap} {tk : Nat} (p : Post h') : RetM s Post (.ok (.ret .none)) { heap := h', gens := s.gens, drawn := s.drawn, toks := tk, os := s.os } := ⟨h', tk, rfl, rfl, p⟩

theorem make_spec {w : World} {mean : ExcName → Option Value} {mg mb : PySem.Str → Option Value} {base : Heap} {s : Shared} {d c bl vl st n1 n2 : Nat} {dO cO : Obj} {es vs : List Value}
    (X : (K w.params).In base) (T : Top q (looseW q loose) mean mg mb base) (keep : base.StaysIn s.heap) (dc : d ≠ c) (hD : Dk c dO cO) (hS : StoreAt w.params base st)
    (hd : s.heap.get? d = some dO) (hc : s.heap.get? c = some cO) (hb : s.heap.get? bl = some (listOf es.toArray n1)) (hv : s.heap.get? vl = some (listOf vs.toArray n2))
    (hd0 : base.get? d = none) (hc0 : base.get? c = none) (hb0 : base.get? bl = none) (hv0 : base.get? vl = none) (ne1 : d ≠ bl) (ne2 : d ≠ vl) (ne3 : c ≠ bl) (ne4 : c ≠ vl) (ne5 : bl ≠ vl) (hsz : vs.length ≤ 64) (hse : es.length ≤ 64) (hl : es.length = vs.length) :
    codeAny (model P0 w) (ad 700 7000) (.call (.ref 874) ⟨[.ref d, .ref st, .ref bl, .ref vl], []⟩) (RetM s fun h' => MkOut w.params vs es base (hideAll s.heap [d, c, bl, vl]) d c bl vl n1 n2 h') s := by
  refine enterC (news := [(d, dO), (c, cO), (bl, listOf es.toArray n1), (vl, listOf vs.toArray n2)]) (binds := [(ofString "deck", .ref d), (ofString "store", .ref st), (ofString "blocks", .ref bl), (ofString "values", .ref vl)]) X T keep (by simp [*]) (by rfl) (by rfl) (by decide) (BindsTo.of_eq rfl) (by rfl) (by decide +kernel) rfl rfl rfl ?_
  intro g L' h₁ tk' cells' hg hL F' N' Y' hlt X' T'
  have l1 := hlt
  (try k_lt l1)
  k_cells Y'
  (try simp only [List.cons_append, List.nil_append] at N')
  with_reducible show wpAny _ _ _ _ _ _
  k_fold
  have nbl : ∀ p ∈ ([(d, dO), (c, dO)] : Led), p.1 ≠ bl := by simp [ne1, ne3]
  have nvl : ∀ p ∈ ([(d, dO), (c, dO), (bl, dO)] : Led), p.1 ≠ vl := by simp [ne2, ne4, ne5]
  have Sb : base.StaysIn g := fun x o e => hg ▸ hideAll_get _ (keep x o e) (by
    simp only [List.map_cons, List.map_nil, List.mem_cons, List.not_mem_nil, or_false, not_or]
    refine ⟨?_, ?_, ?_, ?_⟩ <;> rintro rfl <;> simp_all)
  clear ne1 ne2 ne3 ne4 ne5
  have hS' := hS
  refine StoreAt.elim (hS') ?_; intro ds' n' k0' tb' dt' n1' k1' k2' rw' bt' y0' y1' t0' t1' u0' u1' I1 I2 I3 I4 I5
  have lc1 := lt_up hlt (Nat.le_add_right L' 1)
  have lc2 := lt_up lc1 (Nat.le_add_right (L' + 1) 1)
  have lc3 := lt_up lc2 (Nat.le_add_right (L' + 1 + 1) 1)
  have lc4 := lt_up lc3 (Nat.le_add_right (L' + 1 + 1 + 1) 1)
  clear l1
  refine let4n N' ?_
  clear N'
  intro c1 c2 c3 c4 N'
  show wpAny _ _ _ _ _ _
  repeat' (first
    | ((with_reducible show wpAny _ _ (call (Value.type "range") [Value.int r' _]) _ _ _); k_dflt (refine' range1_rows ?F ?N ?_; (case F => k_asm); (case N => k_asm)); intro h' tk' t1' u1' v1' R9' F' N' S9'; clear S9'; (try k_sweep))
    | ((with_reducible show LCg.CompSrc _ _ _ _ _ _ _ (PySem.Expr.BinOp _ _ _ _) _ _ _ _ _ _); (obtain ⟨k9, hk9⟩ := Int.eq_ofNat_of_zero_le r0); subst hk9; (have hk2 : k9 ≤ 14 := by omega); k_dflt (refine' LCg.CompSrc.range ?y1 ?y2 ?y3 ?y4 ?y5 ?y6 ?y7 ?_; (case y1 => rfl); (case y2 => k_asm); (case y3 => k_asm); (case y4 => assumption); (case y5 => exact (range_n14 hk2).1); (case y6 => exact (range_n14 hk2).2); (case y7 => exact Nat.le_trans hk2 (by decide))); intro g'; refine' rest_indU (d := d) ?U9 ?D9 ?st9 ?fin9; (case D9 => assumption); (case U9 => (repeat' (first | (refine' UpD.head ?_ ?_ <;> k_all) | (refine' UpD.tail ?uu1 ?uu2 ?_; (case uu1 => k_ne); (case uu2 => k_ne))))); (case' st9 => (intro i' ys' dO' cO' v' I' oI' C' oC' D' m' h' tk' E' D9' hv' hC' hx' F' N' off' ne'; (obtain ⟨t9', hv9'⟩ := hv'); subst hv9'; (try dsimp only at N' off'); (obtain ⟨offI', offC', offD'⟩ := off_all (oC := oI') (oD := oI') off' ne'); clear off' ne'; (try dsimp only))); (case' fin9 => (intro ys9 cs9 dO' cO' hi9 hl9 D9'; (try dsimp only))))
    | ((with_reducible show LCg.CompEnd _ _ _ _ _ _ _ _ _ _ _ _ _ _); exact comp_end0 F' N' (offr2 offI' rfl) (offr1 offC' rfl) (offr0 offD' rfl) trivial ⟨_, _, _, _, rfl, by assumption, rfl⟩)
    | ((with_reducible show wpAny _ _ (call (Value.type "list") [Value.ref _]) _ _ _); k_dflt (refine' kup_listOf (its2 := ys9.toArray) (zs := ys9) ?F ?N ?b ?e ?_ ?z; (case F => k_asm); (case N => k_asm); (case b => k_mem); (case e => rfl); (case z => (show ys9.length ≤ _; rw [ints_len hi9, hl9]; exact Nat.le_trans hk2 (by decide)))); intro D' c' h' F' N' l1; (try k_lt l1); (try k_sweep))
    | ((with_reducible show wpAny _ _ (eval (Expr.ListComp _ _ _ _) _) _ _ _); k_dflt (refine LCg.ListComp_U (F₀ := by k_asm) (by with_unfolding_all rfl) (by decide) (by rfl) (by decide) (by rfl) ?_))
    | ((with_reducible show wpAny _ _ (exec (Stmt.Assign [Expr.Name _ _] (Expr.ListComp _ _ _ _) _) _) _ _ _); k_dflt (refine LCg.Assign_ListComp_U (F₀ := by k_asm) (by rfl) (by with_unfolding_all rfl) (by with_unfolding_all rfl) (by decide) (by rfl) (by decide) (by rfl) (by rfl) (by rfl) ?_))
    | ((with_reducible show LCg.CompSrc _ _ _ _ _ _ _ _ _ _ _ _ _ _); k_dflt (first | (refine LCg.CompSrc.ledger (by rfl) (by k_asm) (by k_asm) (by k_mem) (by first | size_fits | exact Nat.le_of_ble_eq_true rfl) ?_; intro g'; lcg_lit) | (refine LCg.CompSrc.range (by rfl) (by k_asm) (by k_asm) (by assumption) (by first | decide | rfl) (by first | rfl | decide) (by first | size_fits | exact Nat.le_of_ble_eq_true rfl) ?_; intro g'; lcg_lit)))
    | ((with_reducible show LCg.CompRest _ _ _ _ _ _ _ _ _ _ _ _ _ _ _ _ _ _ _); first | ((with_unfolding_all refine LCg.CompRest.succ ?_); intro v' I' oI' C' oC' D' m' h' tk' E' hv' hC' hx' F' N' off' ne'; (first | lcg_open hv' | (obtain ⟨t9', hv9'⟩ := hv'; subst hv9')); (obtain ⟨offI', offC', offD'⟩ := off_all (oC := oI') (oD := oI') off' ne'); clear off' ne'; (try dsimp only)) | ((with_unfolding_all refine LCg.CompRest.zero ?_); (try dsimp only)))
    | ((with_reducible show LCg.FinE _ _ _ _ _ _ _); (unfold LCg.FinE); intro D' h' tk' F' N' o1'; replace o1' := off_one o1'; (try simp only [List.nil_append, List.cons_append] at N'); (try dsimp only))
    | ((with_reducible show LCg.FinA _ _ _ _ _ _ _ _); (unfold LCg.FinA); intro D' h' tk' F' N' o1'; replace o1' := off_one o1'; (try simp only [List.nil_append, List.cons_append] at N'); (try dsimp only))
    | ((with_reducible show wpAny _ _ (execs [Stmt.Assign _ _ _, Stmt.If _ _ _ _, Stmt.Expr _ _] _) _ _ _); k_dflt (refine' make_vals X T ?X1 ?T1 hS Sb ?F (sub4b ?N) ?c1 ?c2 ?c3 ?c4 dc ?D hxw hse hsz hl ?nd ?nc ?nb ?nv (off4 ?q1 offnil) (off4 ?q2 offnil) (off4 ?q3 offnil) (off4 ?q4 offnil) (off4 ?q5 offnil) ?t1 ?t2 ?t3 ?t4 ?k1 ?k2 ?O1 ?O2 ?hQ; (case X1 => k_asm); (case T1 => k_asm); (case F => k_asm); (case N => k_asm); (case c1 => k_asm); (case c2 => k_asm); (case c3 => k_asm); (case c4 => k_asm); (case D => assumption); (case k1 => with_reducible assumption); (case k2 => with_reducible assumption); (case O1 => with_reducible assumption); (case O2 => with_reducible assumption); (case t1 => k_mem); (case t2 => k_mem); (case t3 => k_mem); (case t4 => k_mem); (case nd => k_all); (case nc => k_all); (case nb => k_all); (case nv => k_all); (case q1 => refine ⟨?_, ?_, ?_, ?_⟩ <;> k_ne); (case q2 => refine ⟨?_, ?_, ?_, ?_⟩ <;> k_ne); (case q3 => refine ⟨?_, ?_, ?_, ?_⟩ <;> k_ne); (case q4 => refine ⟨?_, ?_, ?_, ?_⟩ <;> k_ne); (case q5 => refine ⟨?_, ?_, ?_, ?_⟩ <;> k_ne)); exact fun h' tk k => (by have k2 := k; rw [hg] at k2; exact retM_mk k2))
    | ((with_reducible show LCg.CompEnd _ _ _ _ _ _ _ _ _ _ _ _ _ _); k_dflt (refine' comp_end2 F' N' ?n1 ?n2 ?n3 (offr2 offI' rfl) (offr1 offC' rfl) (offr0 offD' rfl) (by lcg_src) ?_; (case n1 => refine ⟨?_, ?_⟩ <;> k_ne); (case n2 => refine ⟨?_, ?_⟩ <;> k_ne); (case n3 => refine ⟨?_, ?_⟩ <;> k_ne)); clear offI' offC' offD')
    | ((with_reducible show LCg.CompEnd _ _ _ _ _ _ _ _ _ _ _ _ _ _); k_dflt (refine' comp_end0 F' N' (offr2 offI' rfl) (offr1 offC' rfl) (offr0 offD' rfl) (by lcg_src) ?_); clear offI' offC' offD')
    | ((with_reducible show wpAny _ _ (call (Value.ref 848) [_, Value.int _ _]) _ _ _); k_dflt (refine' call_draw ?X ?T ?F ?N ?dc ?D ?U ?hm ?hm2 rfl ?zd ?zu ?_; (case F => k_asm); (case N => k_asm); (case X => k_asm); (case T => k_asm); (case D => assumption); (case dc => assumption); (case U => (repeat' (first | (refine' UpD.head ?_ ?_ <;> k_all) | (refine' UpD.tail ?uu1 ?uu2 ?_; (case uu1 => k_ne); (case uu2 => k_ne))))); (case hm => first | decide | omega); (case hm2 => first | decide | omega); (case zd => exact Nat.le_of_ble_eq_true rfl); (case zu => exact Nat.le_of_ble_eq_true rfl)); intro r' t' dO' cO' h' tk' r0 r1 D' F' N'; (try dsimp only at N'); (try k_sweep))
    | ((with_reducible show wpAny _ _ (call (Value.ref 862) _) _ _ _); k_dflt (refine' call_thing (dO := _) (cO := _) (thing_spec ?X ?T ?S ?dc ?D (News.get ?N ?m1) (News.get ?N ?m2) (News.fresh ?N ?m1) (News.fresh ?N ?m2) (News.isList ?N ?m3) ?z ?n1 ?n2) ?U rfl ?zd ?zu ?F ?N ?_; (case F => k_asm); (case N => k_asm); (case S => exact stays_fr (by k_asm)); (case X => k_asm); (case T => k_asm); (case D => assumption); (case dc => assumption); (case m1 => k_mem); (case m2 => k_mem); (case m3 => k_mem); (case z => assumption); (case n1 => k_ne); (case n2 => k_ne); (case U => (repeat' (first | (refine' UpD.head ?_ ?_ <;> k_all) | (refine' UpD.tail ?uu1 ?uu2 ?_; (case uu1 => k_ne); (case uu2 => k_ne))))); (case zd => exact Nat.le_of_ble_eq_true rfl); (case zu => exact Nat.le_of_ble_eq_true rfl)); intro a' b' oa' ob' t' dO' cO' h' tk' D' O' F' N' na' nb' k'; (try dsimp only at N'); (try k_sweep))
    | ((with_reducible show wpAny _ _ (call (Value.builtin "list.append") [Value.ref _, _]) _ _ _); k_dflt (refine' append_any ?F ?N ?U ?z ?_; (case F => k_asm); (case N => k_asm); (case U => k_upd); (case z => assumption)); intro h' F' N'; (try k_sweep))
    | ((with_reducible show wpAny _ _ (subscriptTail _ _ (Value.ref _) (Value.int _ _)) _ _ _); k_dflt (refine' item_w5 ?N ?m ?e ?h0 ?h1 ?hs ?_; (case N => k_asm); (case m => k_mem); (case e => rfl); (case h0 => assumption); (case h1 => assumption); (case hs => with_unfolding_all rfl)); refine dropN (by with_reducible assumption) ?_; intro N'; (with_reducible show _ ∧ _); refine ⟨fun tkw => ?_, fun xw tkw hxw exw => ?_⟩)
    | (k_extra "attr")
    | (k_extra "meth")
    | (k_extra "def")
    | (k_extra "cls2")
    | (k_extra "combo")
    | (k_unfold; (try dsimp only))
    | (k_end; wrow_close)
    | walk1
    | (dsimp only; walk1)
    | (leave1; (try dsimp only))
    | fail "no step")
  all_goals (have k2 := mkOut_string (P := w.params) (vs := vs) (es := es) (base := base) (by k_asm) (by k_asm) (by k_asm) (by k_mem) (by k_mem) (by k_mem) (by k_mem) (by k_mem) (by k_mem) (by k_mem) (by k_mem) (by k_mem) hi9 hi9 (by omega) (by refine ⟨?_, ?_, ?_, ?_⟩ <;> k_ne) (by refine ⟨?_, ?_, ?_, ?_⟩ <;> k_ne) (by k_ne) (by refine ⟨?_, ?_, ?_, ?_, ?_, ?_⟩ <;> k_ne) (by refine ⟨?_, ?_, ?_, ?_, ?_, ?_⟩ <;> k_ne) (by refine ⟨?_, ?_, ?_, ?_, ?_, ?_⟩ <;> k_ne); rw [hg] at k2; exact retM_mk k2)
structure Rec where
  e : Nat
  x : Nat
  p : Nat
  m : Nat
  po : Obj
  mo : Obj
  b : Bl
noncomputable def xsOf (σ : List Rec) : List Value := σ.map fun r => .ref r.x
noncomputable def esOf (σ : List Rec) : List Value := σ.map fun r => .ref r.e
noncomputable def muts (d c bl vl : Nat) (σ : List Rec) : List Nat := [d, c, bl, vl] ++ σ.flatMap fun r => [r.p, r.m]
/-- one block, as it lies in a heap -/
noncomputable def Gd (P : Params) (vs : List Value) (z : Heap) (r : Rec) : Prop := r.b.Ok vs.length ∧ ∃ k : Tok, z.IsList r.e #[.str r.b.word k, .ref r.p] ∧ Po z r.po r.b ∧ Mo P vs z r.x r.m r.mo r.b
theorem va_more {P : Params} {vs ws : List Value} {h : Heap} {v : Value} {t : Pl} (x : Va P vs h v t) : Va P (vs ++ ws) h v t := by
  cases x with
  | boolean i hi => exact .boolean i hi
  | whole i t => exact .whole i t
  | real I => exact .real I
  | ratio I => exact .ratio I
  | char I => exact .char I
  | symbol I => exact .symbol I
  | port I => exact .port I
  | procedure I => exact .procedure I
  | empty => exact .empty
  | unspecified => exact .unspecified
  | unassigned => exact .unassigned
  | eof => exact .eof
  | block e => exact .block (by rw [List.getElem?_append_left (List.getElem?_eq_some_iff.mp e).1]; exact e)
theorem okT_more {n m : Nat} (l : n ≤ m) {t : Pl} (h : OkT n t) : OkT m t := by
  cases t <;> first | exact h | exact Nat.lt_of_lt_of_le h l
theorem ok_more {n m : Nat} (l : n ≤ m) {b : Bl} (h : b.Ok n) : b.Ok m := by
  cases b <;> first | exact h | exact okT_more l h | exact ⟨okT_more l h.1, okT_more l h.2⟩
theorem Po.stays {g h : Heap} {o : Obj} {b : Bl} (x : Po g o b) (S : g.StaysIn h) : Po h o b := by
  cases x with
  | string i => exact .string i
  | pair a b => exact .pair (a.stays S) (b.stays S)
  | vector a b => exact .vector (a.stays S) (b.stays S)
  | box a => exact .box (a.stays S)
  | promise a => exact .promise (a.stays S)
theorem Mo.more {P : Params} {vs ws : List Value} {g h : Heap} {x m : Nat} {o : Obj} {b : Bl} (y : Mo P vs g x m o b) (S : g.StaysIn h) : Mo P (vs ++ ws) h x m o b := by
  cases y with
  | string I i => exact .string (I.stays S) i
  | pair I a b => exact .pair (S _ _ I) (va_more (a.stays S)) (va_more (b.stays S))
  | vector I a b => exact .vector (I.stays S) (va_more (a.stays S)) (va_more (b.stays S))
  | box I a => exact .box (S _ _ I) (va_more (a.stays S))
  | promise I a => exact .promise (S _ _ I) (va_more (a.stays S))
theorem Mo.inst {P : Params} {vs : List Value} {g : Heap} {x m : Nat} {o : Obj} {b : Bl} (y : Mo P vs g x m o b) : ∃ dx, g.get? x = some (instObj b.cls dx) := by
  cases y with
  | string I i => obtain ⟨dx, _, _, I⟩ := I; exact ⟨_, I.at_⟩
  | pair I _ _ => exact ⟨_, I⟩
  | vector I _ _ => obtain ⟨dx, _, _, I⟩ := I; exact ⟨_, I.at_⟩
  | box I _ => exact ⟨_, I⟩
  | promise I _ => exact ⟨_, I⟩
theorem Gd.more {P : Params} {vs ws : List Value} {g h : Heap} {r : Rec} (y : Gd P vs g r) (S : g.StaysIn h) : Gd P (vs ++ ws) h r := by
  obtain ⟨a, k, b, c, d⟩ := y
  exact ⟨ok_more (by simp) a, k, isList_stays b S, c.stays S, d.more S⟩
/-- the law's state between its turns -/
structure St (P : Params) (base : Heap) (d c bl vl : Nat) (h : Heap) (σ : List Rec) : Prop where
  dk : ∃ dO cO, Dk c dO cO ∧ h.get? d = some dO ∧ h.get? c = some cO
  hb : ∃ n, h.get? bl = some (listOf (esOf σ).toArray n)
  hv : ∃ n, h.get? vl = some (listOf (xsOf σ).toArray n)
  hp : ∀ r ∈ σ, h.get? r.p = some r.po ∧ h.get? r.m = some r.mo
  nd : (muts d c bl vl σ).Nodup
  nb : ∀ a ∈ muts d c bl vl σ, base.get? a = none
  keep : base.StaysIn h
  gd : ∀ r ∈ σ, Gd P (xsOf σ) (hideAll h (muts d c bl vl σ)) r
  xs : (σ.map (·.x)).Nodup
theorem none_of_hide {h : Heap} {l : List Nat} {a : Nat} (e : (hideAll h l).get? a = none) (n : a ∉ l) : h.get? a = none := by
  cases q : h.get? a with
  | none => rfl
  | some o => rw [hideAll_get _ q n] at e; cases e
theorem not_mem_hide {h : Heap} {l : List Nat} {a : Nat} {o : Obj} (e : (hideAll h l).get? a = some o) : a ∉ l := fun q => by rw [hideAll_none _ q] at e; cases e
theorem St.base_z {P : Params} {base : Heap} {d c bl vl : Nat} {h : Heap} {σ : List Rec} (S : St P base d c bl vl h σ) : base.StaysIn (hideAll h (muts d c bl vl σ)) := fun a o e => hideAll_get _ (S.keep _ _ e) fun q => by rw [S.nb _ q] at e; cases e
theorem St.live {P : Params} {base : Heap} {d c bl vl : Nat} {h : Heap} {σ : List Rec} (S : St P base d c bl vl h σ) : ∀ a ∈ muts d c bl vl σ, ∃ o, h.get? a = some o := fun a ha => by
  obtain ⟨dO, cO, _, h1, h2⟩ := S.dk
  obtain ⟨_, h3⟩ := S.hb
  obtain ⟨_, h4⟩ := S.hv
  simp only [muts, List.mem_append, List.mem_cons, List.not_mem_nil, or_false, List.mem_flatMap] at ha
  rcases ha with (rfl | rfl | rfl | rfl) | ⟨r, hr, rfl | rfl⟩
  · exact ⟨_, h1⟩
  · exact ⟨_, h2⟩
  · exact ⟨_, h3⟩
  · exact ⟨_, h4⟩
  · exact ⟨_, (S.hp r hr).1⟩
  · exact ⟨_, (S.hp r hr).2⟩
theorem st_make {P : Params} {base : Heap} {d c bl vl n1 n2 : Nat} {h h' : Heap} {σ : List Rec} (S : St P base d c bl vl h σ) (M : MkOut P (xsOf σ) (esOf σ) base (hideAll h [d, c, bl, vl]) d c bl vl n1 n2 h') : ∃ r, St P base d c bl vl h' (σ ++ [r]) := by
  refine MkOut.elim M ?_; intro e x p m po mo imm b dO' cO' k D a1 a2 a3 a4 a5 a6 g1 g2 g3 ne npm im ok f kp
  have ne' := fun y hy => ne y hy
  have np : p ∉ ([d, c, bl, vl] : List Nat) := fun q => (ne _ q).1 rfl
  have nm : m ∉ ([d, c, bl, vl] : List Nat) := fun q => (ne _ q).2.1 rfl
  have nx : x ∉ ([d, c, bl, vl] : List Nat) := fun q => (ne _ q).2.2 rfl
  have hp0 := none_of_hide g1 np
  have hm0 := none_of_hide g2 nm
  have hx0 := none_of_hide g3 nx
  have old : ∀ a ∈ muts d c bl vl σ, a ≠ p ∧ a ≠ m := fun a ha => by
    obtain ⟨o, ho⟩ := S.live a ha
    exact ⟨fun q => (by rw [q, hp0] at ho; cases ho), fun q => (by rw [q, hm0] at ho; cases ho)⟩
  have sub4 : ∀ a ∈ ([d, c, bl, vl] : List Nat), a ∈ muts d c bl vl σ := fun a ha => List.mem_append.mpr (.inl ha)
  have M' : muts d c bl vl (σ ++ [⟨e, x, p, m, po, mo, b⟩]) = muts d c bl vl σ ++ [p, m] := by simp [muts]
  have up : (hideAll h (muts d c bl vl σ)).StaysIn (hideAll h' (muts d c bl vl (σ ++ [⟨e, x, p, m, po, mo, b⟩]))) := fun a o q => by
    have n := not_mem_hide q
    have q' := of_hideAll _ q
    refine hideAll_get _ (kp _ _ (hideAll_get _ q' fun w => n (sub4 _ w))) ?_
    rw [M']
    intro w
    rcases List.mem_append.mp w with w | w
    · exact n w
    · simp only [List.mem_cons, List.not_mem_nil, or_false] at w
      rcases w with rfl | rfl
      · rw [hp0] at q'; cases q'
      · rw [hm0] at q'; cases q'
  have bz : base.StaysIn (hideAll h' (muts d c bl vl (σ ++ [⟨e, x, p, m, po, mo, b⟩]))) := fun a o q => up _ _ (S.base_z _ _ q)
  have hi : Has (hideAll h' (muts d c bl vl (σ ++ [⟨e, x, p, m, po, mo, b⟩]))) imm := fun q hq => by
    obtain ⟨i1, i2, i3⟩ := im q hq
    refine hideAll_get _ i1 ?_
    have n4 : q.1 ∉ ([d, c, bl, vl] : List Nat) := fun w => i3 q.1 ((List.mem_append (s := [d, c, bl, vl]) (t := [p, m])).mpr (.inl w)) rfl
    have i0 := none_of_hide i2 n4
    rw [M']
    intro w
    rcases List.mem_append.mp w with w | w
    · obtain ⟨o, ho⟩ := S.live _ w
      rw [i0] at ho; cases ho
    · exact i3 q.1 ((List.mem_append (s := [d, c, bl, vl]) (t := [p, m])).mpr (.inr w)) rfl
  have kp4 : ∀ a o, h.get? a = some o → a ∉ ([d, c, bl, vl] : List Nat) → h'.get? a = some o := fun a o q n => kp _ _ (hideAll_get _ q n)
  have nd0 := S.nd
  have off4 : ∀ r ∈ σ, r.p ∉ ([d, c, bl, vl] : List Nat) ∧ r.m ∉ ([d, c, bl, vl] : List Nat) := fun r hr => by
    have := (List.nodup_append.mp nd0).2.2
    exact ⟨fun w => this _ w _ (List.mem_flatMap.mpr ⟨r, hr, .head _⟩) rfl, fun w => this _ w _ (List.mem_flatMap.mpr ⟨r, hr, .tail _ (.head _)⟩) rfl⟩
  obtain ⟨f1, f2, f3⟩ := f _ bz hi
  refine ⟨⟨e, x, p, m, po, mo, b⟩, ⟨⟨dO', cO', D, a1, a2⟩, ⟨n1 + 1, by simpa [esOf] using a3⟩, ⟨n2 + 1, by simpa [xsOf] using a4⟩, ?_, ?_, ?_, ?_, ?_, ?_⟩⟩
  · intro r hr
    rcases List.mem_append.mp hr with hr | hr
    · exact ⟨kp4 _ _ (S.hp r hr).1 (off4 r hr).1, kp4 _ _ (S.hp r hr).2 (off4 r hr).2⟩
    · rw [List.mem_singleton.mp hr]; exact ⟨a5, a6⟩
  · rw [M']
    refine List.nodup_append.mpr ⟨nd0, by simp [npm], fun a ha b hb => ?_⟩
    simp only [List.mem_cons, List.not_mem_nil, or_false] at hb
    rcases hb with rfl | rfl
    · exact (old a ha).1
    · exact (old a ha).2
  · rw [M']
    intro a ha
    rcases List.mem_append.mp ha with ha | ha
    · exact S.nb a ha
    · simp only [List.mem_cons, List.not_mem_nil, or_false] at ha
      cases q : base.get? a with
      | none => rfl
      | some o =>
        have := S.keep _ _ q
        rcases ha with rfl | rfl
        · rw [hp0] at this; cases this
        · rw [hm0] at this; cases this
  · exact fun a o q => of_hideAll _ (bz _ _ q)
  · have vx : xsOf (σ ++ [⟨e, x, p, m, po, mo, b⟩]) = xsOf σ ++ [Value.ref x] := by simp [xsOf]
    intro r hr
    rw [vx]
    rcases List.mem_append.mp hr with hr | hr
    · exact (S.gd r hr).more up
    · rw [List.mem_singleton.mp hr]
      exact ⟨ok_more (by simp) ok, k, f1, f2, f3.more fun _ _ q => q⟩
  · rw [List.map_append]
    refine List.nodup_append.mpr ⟨S.xs, by simp, fun a ha b hb => ?_⟩
    simp only [List.map_cons, List.map_nil, List.mem_cons, List.not_mem_nil, or_false] at hb
    obtain ⟨r, hr, rfl⟩ := List.mem_map.mp ha
    obtain ⟨_, _, _, _, mo'⟩ := S.gd r hr
    obtain ⟨dx, hdx⟩ := mo'.inst
    intro q
    have := of_hideAll _ hdx
    rw [q, hb, hx0] at this; cases this
/-- what a change leaves -/
inductive ChOut (P : Params) (d c bl vl : Nat) (σ : List Rec) (h h0 h' : Heap) : Prop
  | mk (pre post : List Rec) (r : Rec) (e' p' : Nat) (po' mo' : Obj) (b' : Bl) (imm : Led) (dO' cO' : Obj) (n n' : Nat) (k : Tok) (z0 : σ = pre ++ r :: post) (z1 : Dk c dO' cO') (z2 : h'.get? d = some dO') (z3 : h'.get? c = some cO') (z4 : h'.get? bl = some (listOf (esOf (pre ++ ⟨e', r.x, p', r.m, po', mo', b'⟩ :: post)).toArray n)) (z5 : h'.get? vl = some (listOf (xsOf σ).toArray n')) (z6 : h'.get? p' = some po') (z7 : h'.get? r.m = some mo') (z8 : (p' = r.p ∨ h0.get? p' = none)) (z9 : (∀ q ∈ imm, h'.get? q.1 = some q.2 ∧ h0.get? q.1 = none ∧ q.1 ≠ p')) (z10 : b'.Ok σ.length) (z11 : Keep [d, c, bl, vl, r.p, r.m] h0 h') (z12 : (∀ H, (hideAll h (muts d c bl vl σ)).StaysIn H → Has H imm → H.IsList e' #[.str b'.word k, .ref p'] ∧ Po H po' b' ∧ Mo P (xsOf σ) H r.x r.m mo' b')) : ChOut P d c bl vl σ h h0 h'
theorem ChOut.elim {P : Params} {d c bl vl : Nat} {σ : List Rec} {h h0 h' : Heap} {motive : Prop} (M : ChOut P d c bl vl σ h h0 h') (k9 : ∀ (pre post : List Rec) (r : Rec) (e' p' : Nat) (po' mo' : Obj) (b' : Bl) (imm : Led) (dO' cO' : Obj) (n n' : Nat) (k : Tok), σ = pre ++ r :: post → Dk c dO' cO' → h'.get? d = some dO' → h'.get? c = some cO' →
    h'.get? bl = some (listOf (esOf (pre ++ ⟨e', r.x, p', r.m, po', mo', b'⟩ :: post)).toArray n) → h'.get? vl = some (listOf (xsOf σ).toArray n') → h'.get? p' = some po' → h'.get? r.m = some mo' → (p' = r.p ∨ h0.get? p' = none) →
    (∀ q ∈ imm, h'.get? q.1 = some q.2 ∧ h0.get? q.1 = none ∧ q.1 ≠ p') → b'.Ok σ.length → Keep [d, c, bl, vl, r.p, r.m] h0 h' →
    (∀ H, (hideAll h (muts d c bl vl σ)).StaysIn H → Has H imm → H.IsList e' #[.str b'.word k, .ref p'] ∧ Po H po' b' ∧ Mo P (xsOf σ) H r.x r.m mo' b') → motive) : motive := by
  obtain ⟨_, _, _, _, _, _, _, _, _, _, _, _, _, _, a1, a2, a3, a4, a5, a6, a7, a8, a9, b1, b2, b3, b4⟩ := M; exact k9 _ _ _ _ _ _ _ _ _ _ _ _ _ _ a1 a2 a3 a4 a5 a6 a7 a8 a9 b1 b2 b3 b4
theorem Mo.stays {P : Params} {vs : List Value} {g h : Heap} {x m : Nat} {o : Obj} {b : Bl} (y : Mo P vs g x m o b) (S : g.StaysIn h) : Mo P vs h x m o b := by
  have := y.more (ws := []) S
  rwa [List.append_nil] at this
theorem Gd.stays {P : Params} {vs : List Value} {g h : Heap} {r : Rec} (y : Gd P vs g r) (S : g.StaysIn h) : Gd P vs h r := by
  have := y.more (ws := []) S
  rwa [List.append_nil] at this
theorem muts_at (d c bl vl : Nat) (pre post : List Rec) (r : Rec) : muts d c bl vl (pre ++ r :: post) = ([d, c, bl, vl] ++ pre.flatMap fun r => [r.p, r.m]) ++ r.p :: r.m :: post.flatMap fun r => [r.p, r.m] := by
  simp [muts]
theorem nodup_put {α : Type} {A B : List α} {x y : α} (h : (A ++ x :: B).Nodup) (n : y ∉ A ++ x :: B) : (A ++ y :: B).Nodup := by
  rw [List.nodup_append] at h ⊢
  obtain ⟨h1, h2, h3⟩ := h
  rw [List.nodup_cons] at h2
  refine ⟨h1, List.nodup_cons.mpr ⟨fun q => n (List.mem_append.mpr (.inr (.tail _ q))), h2.2⟩, fun a ha b hb => ?_⟩
  rcases List.mem_cons.mp hb with rfl | hb
  · exact fun q => n (List.mem_append.mpr (.inl (q ▸ ha)))
  · exact h3 a ha b (.tail _ hb)
theorem st_change {P : Params} {base : Heap} {d c bl vl : Nat} {h h' : Heap} {σ : List Rec} (S : St P base d c bl vl h σ) (M : ChOut P d c bl vl σ h h h') : ∃ σ', St P base d c bl vl h' σ' ∧ σ'.length = σ.length := by
  refine ChOut.elim M ?_; rintro pre post r e' p' po' mo' b' imm dO' cO' n n' k rfl D a1 a2 a3 a4 a5 a6 hp' im ok kp f
  have nd0 := S.nd
  have pm : r.p ∈ muts d c bl vl (pre ++ r :: post) := by rw [muts_at]; simp
  have fresh : p' ≠ r.p → p' ∉ muts d c bl vl (pre ++ r :: post) := fun q w => by
    obtain ⟨o, ho⟩ := S.live _ w
    rcases hp' with e | e
    · exact q e
    · rw [e] at ho; cases ho
  have sub : ∀ a, a ∈ muts d c bl vl (pre ++ ⟨e', r.x, p', r.m, po', mo', b'⟩ :: post) → a ∈ muts d c bl vl (pre ++ r :: post) ∨ a = p' := fun a ha => by
    rw [muts_at] at ha ⊢
    simp only [List.mem_append, List.mem_cons] at ha ⊢
    rcases ha with ha | ha | ha
    · exact .inl (.inl ha)
    · exact .inr ha
    · exact .inl (.inr (.inr ha))
  have five : ∀ a ∈ ([d, c, bl, vl, r.p, r.m] : List Nat), a ∈ muts d c bl vl (pre ++ r :: post) := fun a ha => by
    rw [muts_at]
    simp only [List.mem_append, List.mem_cons, List.not_mem_nil, or_false] at ha ⊢
    rcases ha with rfl | rfl | rfl | rfl | rfl | rfl
    · exact .inl (.inl (.inl rfl))
    · exact .inl (.inl (.inr (.inl rfl)))
    · exact .inl (.inl (.inr (.inr (.inl rfl))))
    · exact .inl (.inl (.inr (.inr (.inr rfl))))
    · exact .inr (.inl rfl)
    · exact .inr (.inr (.inl rfl))
  have up : (hideAll h (muts d c bl vl (pre ++ r :: post))).StaysIn (hideAll h' (muts d c bl vl (pre ++ ⟨e', r.x, p', r.m, po', mo', b'⟩ :: post))) := fun a o q => by
    have nn := not_mem_hide q
    have q' := of_hideAll _ q
    refine hideAll_get _ (kp _ _ q' fun w => nn (five _ w)) fun w => ?_
    rcases sub a w with w | rfl
    · exact nn w
    · rcases hp' with e | e
      · exact nn (e ▸ pm)
      · rw [e] at q'; cases q'
  have hi : Has (hideAll h' (muts d c bl vl (pre ++ ⟨e', r.x, p', r.m, po', mo', b'⟩ :: post))) imm := fun q hq => by
    obtain ⟨i1, i2, i3⟩ := im q hq
    refine hideAll_get _ i1 fun w => ?_
    rcases sub _ w with w | w
    · obtain ⟨o, ho⟩ := S.live _ w
      rw [i2] at ho; cases ho
    · exact i3 w
  obtain ⟨f1, f2, f3⟩ := f _ up hi
  have vx : xsOf (pre ++ ⟨e', r.x, p', r.m, po', mo', b'⟩ :: post) = xsOf (pre ++ r :: post) := by simp [xsOf]
  have xl : (xsOf (pre ++ r :: post)).length = (pre ++ r :: post).length := by simp [xsOf]
  have hr : ∀ r2, r2 ∈ pre ∨ r2 ∈ post → r2 ∈ pre ++ r :: post := fun r2 q => by
    rcases q with q | q
    · exact List.mem_append.mpr (.inl q)
    · exact List.mem_append.mpr (.inr (.tail _ q))
  have apart : ∀ r2, r2 ∈ pre ∨ r2 ∈ post → r2.p ∉ ([d, c, bl, vl, r.p, r.m] : List Nat) ∧ r2.m ∉ ([d, c, bl, vl, r.p, r.m] : List Nat) := fun r2 q => by
    have nd1 := nd0
    rw [muts_at, List.nodup_append] at nd1
    obtain ⟨h1, h2, h3⟩ := nd1
    rw [List.nodup_append] at h1
    rw [List.nodup_cons, List.nodup_cons] at h2
    have key : ∀ a ∈ [r2.p, r2.m], a ∉ ([d, c, bl, vl] : List Nat) ++ [r.p, r.m] := fun a ha w => by
      rcases q with q | q
      · have fm : a ∈ pre.flatMap fun r => [r.p, r.m] := List.mem_flatMap.mpr ⟨r2, q, ha⟩
        rcases List.mem_append.mp w with w | w
        · exact h1.2.2 a w a fm rfl
        · refine h3 a (List.mem_append.mpr (.inr fm)) a ?_ rfl
          rcases List.mem_cons.mp w with rfl | w
          · exact .head _
          · rw [List.mem_singleton.mp w]; exact .tail _ (.head _)
      · have fm : a ∈ post.flatMap fun r => [r.p, r.m] := List.mem_flatMap.mpr ⟨r2, q, ha⟩
        rcases List.mem_append.mp w with w | w
        · exact h3 a (List.mem_append.mpr (.inl w)) a (.tail _ (.tail _ fm)) rfl
        · rcases List.mem_cons.mp w with rfl | w
          · exact h2.1 (.tail _ fm)
          · rw [List.mem_singleton.mp w] at fm; exact h2.2.1 fm
    exact ⟨key _ (.head _), key _ (.tail _ (.head _))⟩
  refine ⟨pre ++ ⟨e', r.x, p', r.m, po', mo', b'⟩ :: post, ⟨⟨dO', cO', D, a1, a2⟩, ⟨n, a3⟩, ⟨n', by rw [vx]; exact a4⟩, ?_, ?_, ?_, ?_, ?_, ?_⟩, by simp⟩
  · intro r2 q
    rcases List.mem_append.mp q with q | q
    · exact ⟨kp _ _ (S.hp r2 (hr r2 (.inl q))).1 (apart r2 (.inl q)).1, kp _ _ (S.hp r2 (hr r2 (.inl q))).2 (apart r2 (.inl q)).2⟩
    rcases List.mem_cons.mp q with rfl | q
    · exact ⟨a5, a6⟩
    · exact ⟨kp _ _ (S.hp r2 (hr r2 (.inr q))).1 (apart r2 (.inr q)).1, kp _ _ (S.hp r2 (hr r2 (.inr q))).2 (apart r2 (.inr q)).2⟩
  · by_cases e : p' = r.p
    · subst e
      rw [muts_at] at nd0 ⊢; exact nd0
    · have nf := fresh e
      rw [muts_at] at nd0 nf ⊢
      exact nodup_put nd0 nf
  · intro a ha
    rcases sub a ha with w | rfl
    · exact S.nb a w
    · rcases hp' with e | e
      · rw [e]; exact S.nb _ pm
      · cases q : base.get? a with
        | none => rfl
        | some o => rw [S.keep _ _ q] at e; cases e
  · exact fun a o q => of_hideAll _ (up _ _ (S.base_z _ _ q))
  · intro r2 q
    rw [vx]
    rcases List.mem_append.mp q with q | q
    · exact (S.gd r2 (hr r2 (.inl q))).stays up
    rcases List.mem_cons.mp q with rfl | q
    · exact ⟨by rw [xl]; exact ok, k, f1, f2, f3⟩
    · exact (S.gd r2 (hr r2 (.inr q))).stays up
  · have := S.xs
    rw [List.map_append, List.map_cons] at this ⊢
    exact this
section
variable {w : World} {A : Around} {E : Value → Shared → Prop} {s : Shared} {h₀ g : Heap} {L : Addr} {news news' : Led} {m : PySem.Str → Option Value}
/-- two objects of the ground go onto the ledger -/
theorem fr_expose {h : Heap} {l : List Nat} (F : Fr g L h m) : Fr (hideAll g l) L h m := ⟨F.ns, fun b o e => F.keep b o (of_hideAll _ e), by rw [hideAll_size]; exact F.above⟩
theorem news_expose {h : Heap} {p q : Nat} {po qo : Obj} (F : Fr g L h m) (N : News g L h news) (hp : g.get? p = some po) (hq : g.get? q = some qo) : News (hideAll g [p, q]) L h ((p, po) :: (q, qo) :: news) := by
  have lt : ∀ a o, g.get? a = some o → a ≠ L := fun a o e => Nat.ne_of_lt (Nat.lt_of_lt_of_le (Heap.lt_size e) F.above)
  intro x hx
  rcases List.mem_cons.mp hx with rfl | hx
  · exact ⟨F.keep _ _ hp, lt _ _ hp, hideAll_none _ (.head _)⟩
  rcases List.mem_cons.mp hx with rfl | hx
  · exact ⟨F.keep _ _ hq, lt _ _ hq, hideAll_none _ (.tail _ (.head _))⟩
  refine ⟨(N x hx).1, (N x hx).2.1, ?_⟩
  cases e : (hideAll g [p, q]).get? x.1 with
  | none => rfl
  | some o => have := of_hideAll _ e; rw [(N x hx).2.2] at this; cases this
theorem set_any {D n : Nat} {pv : List Value} {k : Int} {t : Tok} {v : Value} {Q : Unit → Shared → Prop} (F : Fr h₀ L s.heap m) (N : News h₀ L s.heap news) (h0 : 0 ≤ k) (h1 : k < (pv.length : Int)) (hz : pv.length ≤ 64) (U : Upd D (listOf pv.toArray n) (listOf (pv.set k.toNat v).toArray n) news news')
    (h : ∀ h', Fr h₀ L h' m → News h₀ L h' news' → Q () { s with heap := h' }) : wpAny (model P0 w) A (setItem (.ref D) (.int k t) v) Q E s := by
  refine ki_set F N h0 (by omega) ?_ U h
  have : ∀ (l : List Value) (j : Nat), j < l.length → ki_setL l j v = some (l.set j v) := by
    intro l
    induction l with
    | nil => intro j hj; simp at hj
    | cons a r ih =>
      intro j hj
      cases j with
      | zero => rfl
      | succ j => simp only [ki_setL, ih j (by simpa using hj), List.set_cons_succ]
  exact this pv _ (by omega)
theorem item_any {D n : Nat} {pv : List Value} {k : Int} {t : Tok} {v : Value} {value slice : PySem.Expr} {Q : Value → Shared → Prop} (N : News h₀ L s.heap news) (hm : (D, listOf pv.toArray n) ∈ news) (h0 : 0 ≤ k) (hz : pv.length ≤ 64) (hv : pv[k.toNat]? = some v)
    (hs : subscripted slice false (.ref D) (.int k t) = operate [.ref D, .int k t] (getItem (.ref D) (.int k t))) (h : Q v s) : wpAny (model P0 w) A (subscriptTail value slice (.ref D) (.int k t)) Q E s := by
  have hl : s.heap.IsList D pv.toArray := N.isList hm
  have hlt : k.toNat < pv.length := (List.getElem?_eq_some_iff.mp hv).1
  exact tail_any hl.typeIs slot_list_getitem.lookup (wpAny_getItem_list hl h0 (by omega) (by rw [List.getElem?_toArray]; exact hv) h) hs
theorem len_led {D n : Nat} {pv : List Value} {Q : Value → Shared → Prop} (N : News h₀ L s.heap news) (hm : (D, listOf pv.toArray n) ∈ news) (hz : pv.length ≤ 64) (h : ∀ tk tk', Q (.int pv.length tk) { s with toks := tk' }) : wpAny (model P0 w) A (call (.builtin "len") [.ref D]) Q E s :=
  len_any (g := s.heap) (N.isList hm) (fun _ _ e => e) hz h
theorem ne_nil_led {D e n n' : Nat} {pv : List Value} {Q : Value → Shared → Prop} (N : News h₀ L s.heap news) (hm : (D, listOf pv.toArray n) ∈ news) (he : (e, listOf #[] n') ∈ news) (hu : A.units < cLine) (h : Q (.bool (decide (pv.length ≠ 0))) s) : wpAny (model P0 w) A (compareOp .NotEq (.ref D) (.ref e)) Q E s :=
  cmp_ne_nil (g := s.heap) (N.isList hm) (fun _ _ e => e) N he hu h
theorem set_get {pv : List Value} {k : Int} {v : Value} (h0 : 0 ≤ k) (h1 : k < (pv.length : Int)) : (pv.set k.toNat v)[k.toNat]? = some v := List.getElem?_set_self (by omega)
theorem item_set {D n : Nat} {pv : List Value} {k : Int} {t : Tok} {v : Value} {value slice : PySem.Expr} {Q : Value → Shared → Prop} (N : News h₀ L s.heap news) (hm : (D, listOf (pv.set k.toNat v).toArray n) ∈ news) (h0 : 0 ≤ k) (h1 : k < (pv.length : Int)) (hz : pv.length ≤ 64)
    (hs : subscripted slice false (.ref D) (.int k t) = operate [.ref D, .int k t] (getItem (.ref D) (.int k t))) (h : Q v s) : wpAny (model P0 w) A (subscriptTail value slice (.ref D) (.int k t)) Q E s :=
  item_any N hm h0 (by rw [List.length_set]; exact hz) (set_get h0 h1) hs h
theorem tailN {h : Heap} {x : Addr × Obj} {r : Led} (N : News g L h (x :: r)) : News g L h r := fun q hq => N q (.tail _ hq)
theorem intsAre_set {pv : List Value} {cs : List Int} (i : IntsAre pv cs) (j : Nat) (x : Int) (t : Tok) : IntsAre (pv.set j (.int x t)) (cs.set j x) := by
  induction i generalizing j with
  | nil => exact .nil
  | cons n t' _ ih =>
    cases j with
    | zero => exact .cons _ _ (by assumption)
    | succ j => exact .cons _ _ (ih j)
end

theorem ch_string {w : World} {mean : ExcName → Option Value} {mg mb : PySem.Str → Option Value} {base g z : Heap} {s : Shared} {E : Value → Shared → Prop} {Q : Flow → Shared → Prop} {d c bl vl st n n' np nm p m x L : Nat} {dO cO : Obj} {es vs pv mv : List Value} {cs : List Int} {i : Int} {tkw tki : Tok}
    (X : (K w.params).In g) (T : Top q (looseW q loose) mean mg mb g) (hS : StoreAt w.params z st) (Sz : z.StaysIn g) (F : Fr g L s.heap (fun y => if y = ofString "parts" then some (.ref p) else if y = ofString "word" then some (.str (ofString "string") tkw) else if y = ofString "at" then some (.int i tki) else [(ofString "deck", Value.ref d), (ofString "store", Value.ref st), (ofString "blocks", Value.ref bl), (ofString "values", Value.ref vl)].reverse.lookup y))
    (N : News g L s.heap [(p, listOf pv.toArray np), (m, listOf mv.toArray nm), (d, dO), (c, cO), (bl, listOf es.toArray n), (vl, listOf vs.toArray n')])
    (dc : d ≠ c) (hD : Dk c dO cO) (i1 : IntsAre pv cs) (i2 : IntsAre mv cs) (lp : pv.length ≤ 2) (lpm : mv.length = pv.length) (I : Inst1 w.params z x 197 (ofString "codes") (.ref m)) (hi0 : 0 ≤ i) (hsz : vs.length ≤ 64) (hix : vs[i.toNat]? = some (.ref x))
    (nd : ∀ q ∈ ([(p, dO), (m, dO), (bl, dO), (vl, dO)] : Led), q.1 ≠ d) (nc : ∀ q ∈ ([(p, dO), (m, dO), (bl, dO), (vl, dO)] : Led), q.1 ≠ c) (npp : ∀ q ∈ ([(m, dO), (bl, dO), (vl, dO)] : Led), q.1 ≠ p) (nmm : ∀ q ∈ ([(bl, dO), (vl, dO)] : Led), q.1 ≠ m)
    (hQ : ∀ h' tk m' dO' cO' pv' mv' cs', Dk c dO' cO' → IntsAre pv' cs' → IntsAre mv' cs' → cs'.length = cs.length → Fr g L h' m' → News g L h' [(p, listOf pv'.toArray np), (m, listOf mv'.toArray nm), (d, dO'), (c, cO'), (bl, listOf es.toArray n), (vl, listOf vs.toArray n')] → Q (.ret .none) { s with heap := h', toks := tk }) :
    wpAny (model P0 w) ((ad 700 7000).deeper (envOf (ofString "_law_change") (sScope (stm 48)) L 881 (.ref 880))) (execs ((sBody (stm 48)).drop 2) (envOf (ofString "_law_change") (sScope (stm 48)) L 881 (.ref 880))) Q E s := by
  refine StoreAt.elim (hS) ?_; intro ds n' k0 tb' dt n' k1 k2 rw' bt y0 y1 t0 t1 u0 u1 I1 I2 I3 I4 I5
  obtain ⟨dx, nx, tx, I⟩ := I
  (try k_fold)
  repeat' (first
    | ((with_reducible show wpAny _ _ (call (Value.ref 848) [_, Value.int _ _]) _ _ _); k_dflt (refine' call_draw ?X ?T ?F ?N ?dc ?D ?U ?hm ?hm2 rfl ?zd ?zu ?_; (case F => k_asm); (case N => k_asm); (case X => k_asm); (case T => k_asm); (case D => assumption); (case dc => assumption); (case U => (repeat' (first | (refine' UpD.head ?_ ?_ <;> k_all) | (refine' UpD.tail ?uu1 ?uu2 ?_; (case uu1 => k_ne); (case uu2 => k_ne))))); (case hm => first | decide | omega); (case hm2 => first | decide | omega); (case zd => exact Nat.le_of_ble_eq_true rfl); (case zu => exact Nat.le_of_ble_eq_true rfl)); intro r' t' dO' cO' h' tk' r0 r1 D' F' N'; (try dsimp only at N'); (try k_sweep))
    | ((with_reducible show wpAny _ _ (setItem (Value.ref _) (Value.int _ _) _) _ _ _); k_dflt (refine' set_any ?F ?N ?h0 ?h1 ?z ?U ?_; (case F => k_asm); (case N => k_asm); (case U => k_upd); (case h0 => with_reducible assumption); (case h1 => first | with_reducible assumption | (rw [lpm]; assumption) | omega); (case z => omega)); intro h' F' N'; (try k_sweep))
    | ((with_reducible show wpAny _ _ (call (Value.builtin "len") [Value.ref _]) _ _ _); k_dflt (refine' len_led ?N ?m ?z ?_; (case N => k_asm); (case m => k_mem); (case z => first | assumption | omega)); intro tk' tk'')
    | ((with_reducible show wpAny _ _ (compareOp CmpOp.NotEq (Value.ref _) (Value.ref _)) _ _ _); k_dflt (refine' ne_nil_led ?N ?m ?e ?u ?_; (case N => k_asm); (case m => k_mem); (case e => k_mem); (case u => ke_room)))
    | ((with_reducible show wpAny _ _ (subscriptTail _ _ (Value.ref vl) (Value.int _ _)) _ _ _); k_dflt (refine' item_any ?N ?m hi0 hsz hix ?s ?_; (case N => k_asm); (case m => k_mem); (case s => with_unfolding_all rfl)))
    | ((with_reducible show wpAny _ _ (subscriptTail _ _ (Value.ref p) (Value.int _ _)) _ _ _); k_dflt (refine' item_set ?N ?m ?h0 ?h1 ?z ?s ?_; (case N => k_asm); (case m => k_mem); (case h0 => with_reducible assumption); (case h1 => with_reducible assumption); (case z => omega); (case s => with_unfolding_all rfl)))
    | (k_extra "attr")
    | (k_extra "meth")
    | (k_extra "def")
    | (k_extra "combo")
    | (k_unfold; (try dsimp only))
    | (k_end; wrow_close)
    | walk1
    | (dsimp only; walk1)
    | (leave1; (try dsimp only))
    | fail "no step")
  all_goals first
    | exact hQ _ _ _ _ _ _ _ _ hD i1 i2 rfl (by k_asm) (tailN (by k_asm))
    | exact hQ _ _ _ _ _ _ _ _ (by assumption) (intsAre_set i1 _ _ _) (intsAre_set i2 _ _ _) (by simp) (by k_asm) (tailN (by k_asm))
/-- a changed block, seen from the changing def -/
inductive ChFin (P : Params) (vs es : List Value) (z g : Heap) (d c bl vl x m p e N : Nat) (i : Int) (h' : Heap) : Prop
  | mk (e' p' : Nat) (po' mo' : Obj) (b' : Bl) (imm : Led) (dO' cO' : Obj) (n n' : Nat) (k : Tok) (z0 : Dk c dO' cO') (z1 : h'.get? d = some dO') (z2 : h'.get? c = some cO') (z3 : h'.get? bl = some (listOf (es.set i.toNat (Value.ref e')).toArray n)) (z4 : h'.get? vl = some (listOf vs.toArray n')) (z5 : h'.get? p' = some po') (z6 : h'.get? m = some mo') (z7 : (p' = p ∨ g.get? p' = none ∧ ∀ y ∈ [d, c, bl, vl, p, m], p' ≠ y)) (z8 : (∀ q ∈ imm, h'.get? q.1 = some q.2 ∧ g.get? q.1 = none ∧ q.1 ≠ p' ∧ ∀ y ∈ [d, c, bl, vl, p, m], q.1 ≠ y)) (z9 : b'.Ok N) (z10 : g.StaysIn h') (z11 : (∀ H, z.StaysIn H → Has H imm → H.IsList e' #[.str b'.word k, .ref p'] ∧ Po H po' b' ∧ Mo P vs H x m mo' b')) : ChFin P vs es z g d c bl vl x m p e N i h'
theorem chFin_old {P : Params} {vs es : List Value} {z g h' : Heap} {d c bl vl x m p e N n n' L : Nat} {i : Int} {mm : PySem.Str → Option Value} {news tl : Led} {dO' cO' po' mo' : Obj} {k : Tok} {w : PySem.Str} (b' : Bl) (hz : z.IsList e #[.str w k, .ref p]) (hw : w = b'.word) (hes : es[i.toNat]? = some (Value.ref e)) (F : Fr g L h' mm) (N0 : News g L h' news) (D : Dk c dO' cO')
    (m1 : (d, dO') ∈ news) (m2 : (c, cO') ∈ news) (m3 : (bl, listOf es.toArray n) ∈ news) (m4 : (vl, listOf vs.toArray n') ∈ news) (m5 : (p, po') ∈ news) (m6 : (m, mo') ∈ news) (sub : ∀ q ∈ tl, q ∈ news) (off : (∀ q ∈ tl, q.1 ≠ d) ∧ (∀ q ∈ tl, q.1 ≠ c) ∧ (∀ q ∈ tl, q.1 ≠ bl) ∧ (∀ q ∈ tl, q.1 ≠ vl) ∧ (∀ q ∈ tl, q.1 ≠ p) ∧ (∀ q ∈ tl, q.1 ≠ m))
    (ok : b'.Ok N) (f : ∀ H, z.StaysIn H → Has H tl → Po H po' b' ∧ Mo P vs H x m mo' b') : ChFin P vs es z g d c bl vl x m p e N i h' := by
  have hset : es.set i.toNat (Value.ref e) = es := by
    obtain ⟨hlt, he⟩ := List.getElem?_eq_some_iff.mp hes
    rw [← he]; exact List.set_getElem_self hlt
  exact ⟨e, p, po', mo', b', tl, dO', cO', n, n', k, D, N0.get m1, N0.get m2, by rw [hset]; exact N0.get m3, N0.get m4, N0.get m5, N0.get m6, .inl rfl, fun q hq => ⟨N0.get (sub q hq), N0.fresh (sub q hq), off.2.2.2.2.1 q hq, all6 ⟨off.1 q hq, off.2.1 q hq, off.2.2.1 q hq, off.2.2.2.1 q hq, off.2.2.2.2.1 q hq, off.2.2.2.2.2 q hq⟩⟩, ok, F.keep,
    fun H S hh => ⟨isList_stays (hw ▸ hz) S, f H S hh⟩⟩
theorem int2 {r : Int} (h : 0 ≤ r) (h' : r < 2) : r = 0 ∨ r = 1 := by omega

theorem ch_box {w : World} {mean : ExcName → Option Value} {mg mb : PySem.Str → Option Value} {g z : Heap} {s : Shared} {E : Value → Shared → Prop} {Q : Flow → Shared → Prop} {d c bl vl st n n' np p m x e L NN : Nat} {dO cO : Obj} {es vs : List Value} {i r : Int} {tkw tki tkr k : Tok} {tk1 : Tok} {t1 u1 v th : Value} {C1 : Pl} {tl : Led}
    (X : (K w.params).In g) (T : Top q (looseW q loose) mean mg mb g) (hS : StoreAt w.params z st) (Sz : z.StaysIn g) (F : Fr g L s.heap (fun y => if y = ofString "value" then some v else if y = ofString "place" then some (.int r tkr) else if y = ofString "thing" then some th else if y = ofString "parts" then some (.ref p) else if y = ofString "word" then some (.str (ofString "box") tkw) else if y = ofString "at" then some (.int i tki) else [(ofString "deck", Value.ref d), (ofString "store", Value.ref st), (ofString "blocks", Value.ref bl), (ofString "values", Value.ref vl)].reverse.lookup y))
    (N : News g L s.heap ((p, listOf #[t1] np) :: (m, dictOf [en w.params (ofString "content") tk1 u1] 1) :: (d, dO) :: (c, cO) :: (bl, listOf es.toArray n) :: (vl, listOf vs.toArray n') :: tl))
    (hD : Dk c dO cO) (I : z.get? x = some (instObj 239 m)) (hz : z.IsList e #[.str (ofString "box") k, .ref p]) (hes : es[i.toNat]? = some (Value.ref e)) (hi0 : 0 ≤ i) (hsz : vs.length ≤ 64) (hix : vs[i.toNat]? = some (.ref x)) (r0 : 0 ≤ r) (r1 : r < 2)
    (npp : ∀ q ∈ ([(m, dO), (d, dO), (c, dO), (bl, dO), (vl, dO)] : Led), q.1 ≠ p) (nmm : ∀ q ∈ ([(d, dO), (c, dO), (bl, dO), (vl, dO)] : Led), q.1 ≠ m)
    (ht1 : Off tl d) (ht2' : Off tl c) (ht3 : Off tl bl) (ht4 : Off tl vl) (ht5 : Off tl p) (ht6 : Off tl m) (kt : ∀ H, Has H tl → ThAt H C1 th) (kv : ∀ H, z.StaysIn H → Has H tl → Va w.params vs H v C1) (ok1 : OkT NN C1)
    (hQ : ∀ h' tk, ChFin w.params vs es z g d c bl vl x m p e NN i h' → Q .next { s with heap := h', toks := tk }) :
    wpAny (model P0 w) ((ad 700 7000).deeper (envOf (ofString "_law_change") (sScope (stm 48)) L 881 (.ref 880))) (execs ((sBody (stm 48)).drop 5) (envOf (ofString "_law_change") (sScope (stm 48)) L 881 (.ref 880))) Q E s := by
  refine StoreAt.elim (hS) ?_; intro ds n' k0 tb' dt n' k1 k2 rw' bt y0 y1 t0' t1' u0' u1' I1 I2 I3 I4 I5
  have I0 : InstAt s.heap x _ _ _ := inst_get (F.keep _ _ (Sz _ _ I)) (N.get (.tail _ (.head _)))
  skip
  all_goals (try k_fold)
  repeat' (first
    | ((with_reducible show wpAny _ _ (subscriptTail _ _ (Value.ref vl) (Value.int _ _)) _ _ _); k_dflt (refine' item_any ?N ?m hi0 hsz hix ?s ?_; (case N => k_asm); (case m => k_mem); (case s => with_unfolding_all rfl)))
    | ((with_reducible show wpAny _ _ (setAttr (Value.ref x) _ _) _ _ _); k_dflt (refine' set_dict ?k1 ?k2 ?k3 ?k4 ?k5 ?k6 ?k7 ?k8 ?k9 ?k10 ?k11 ?k12 ?k13 ?_; (case k1 => k_asm); (case k2 => k_asm); (case k3 => k_asm); (case k4 => exact inst_get ((show z.StaysIn _ from (by repeat (first | exact stays_refl | with_reducible assumption | refine stays_step (by with_reducible assumption) ?_))) _ _ I) (News.get (by k_asm) (by k_mem))); (case k5 => exact rfl); (case k6 => k_is); (case k7 => k_is); (case k8 => k_is); (case k9 => k_is); (case k10 => k_get); (case k11 => k_put); (case k12 => k_upd); (case k13 => exact Nat.le_of_ble_eq_true rfl); k_whole; intro h' F' N'; (try k_sweep)))
    | (k_extra "attr")
    | (k_extra "meth")
    | (k_extra "def")
    | (k_extra "combo")
    | (k_unfold; (try dsimp only))
    | (k_end; wrow_close)
    | walk1
    | (dsimp only; walk1)
    | (leave1; (try dsimp only))
    | fail "no step")
  all_goals exact hQ _ _ (chFin_old (b' := .box C1) hz rfl hes (by k_asm) (by k_asm) hD (by k_mem) (by k_mem) (by k_mem) (by k_mem) (by k_mem) (by k_mem) (by first | exact fun _ h => h | (intro p' hp'; repeat (first | exact hp' | apply List.Mem.tail))) (by refine ⟨?_, ?_, ?_, ?_, ?_, ?_⟩ <;> k_all) ok1 (fun H S hh => ⟨.box (kt H hh), .box (S _ _ I) (kv H S hh)⟩))

theorem ch_pair {w : World} {mean : ExcName → Option Value} {mg mb : PySem.Str → Option Value} {g z : Heap} {s : Shared} {E : Value → Shared → Prop} {Q : Flow → Shared → Prop} {d c bl vl st n n' np p m x e L NN : Nat} {dO cO : Obj} {es vs : List Value} {i r : Int} {tkw tki tkr k : Tok} {tk1 tk2 : Tok} {t1 t2 u1 u2 v th : Value} {A1 B1 C1 : Pl} {tl : Led}
    (X : (K w.params).In g) (T : Top q (looseW q loose) mean mg mb g) (hS : StoreAt w.params z st) (Sz : z.StaysIn g) (F : Fr g L s.heap (fun y => if y = ofString "value" then some v else if y = ofString "place" then some (.int r tkr) else if y = ofString "thing" then some th else if y = ofString "parts" then some (.ref p) else if y = ofString "word" then some (.str (ofString "pair") tkw) else if y = ofString "at" then some (.int i tki) else [(ofString "deck", Value.ref d), (ofString "store", Value.ref st), (ofString "blocks", Value.ref bl), (ofString "values", Value.ref vl)].reverse.lookup y))
    (N : News g L s.heap ((p, listOf #[t1, t2] np) :: (m, dictOf [en w.params (ofString "car") tk1 u1, en w.params (ofString "cdr") tk2 u2] 2) :: (d, dO) :: (c, cO) :: (bl, listOf es.toArray n) :: (vl, listOf vs.toArray n') :: tl))
    (hD : Dk c dO cO) (I : z.get? x = some (instObj 155 m)) (hz : z.IsList e #[.str (ofString "pair") k, .ref p]) (hes : es[i.toNat]? = some (Value.ref e)) (hi0 : 0 ≤ i) (hsz : vs.length ≤ 64) (hix : vs[i.toNat]? = some (.ref x)) (r0 : 0 ≤ r) (r1 : r < 2)
    (npp : ∀ q ∈ ([(m, dO), (d, dO), (c, dO), (bl, dO), (vl, dO)] : Led), q.1 ≠ p) (nmm : ∀ q ∈ ([(d, dO), (c, dO), (bl, dO), (vl, dO)] : Led), q.1 ≠ m)
    (ht1 : Off tl d) (ht2' : Off tl c) (ht3 : Off tl bl) (ht4 : Off tl vl) (ht5 : Off tl p) (ht6 : Off tl m) (kt : ∀ H, Has H tl → ThAt H C1 th) (kv : ∀ H, z.StaysIn H → Has H tl → Va w.params vs H v C1) (ok1 : OkT NN C1) (hta : ThAt z A1 t1) (ht2 : ThAt z B1 t2) (hv1 : Va w.params vs z u1 A1) (hv2 : Va w.params vs z u2 B1) (ok2 : OkT NN A1 ∧ OkT NN B1)
    (hQ : ∀ h' tk, ChFin w.params vs es z g d c bl vl x m p e NN i h' → Q .next { s with heap := h', toks := tk }) :
    wpAny (model P0 w) ((ad 700 7000).deeper (envOf (ofString "_law_change") (sScope (stm 48)) L 881 (.ref 880))) (execs ((sBody (stm 48)).drop 5) (envOf (ofString "_law_change") (sScope (stm 48)) L 881 (.ref 880))) Q E s := by
  refine StoreAt.elim (hS) ?_; intro ds n' k0 tb' dt n' k1 k2 rw' bt y0 y1 t0' t1' u0' u1' I1 I2 I3 I4 I5
  have I0 : InstAt s.heap x _ _ _ := inst_get (F.keep _ _ (Sz _ _ I)) (N.get (.tail _ (.head _)))
  rcases int2 r0 r1 with rfl | rfl
  all_goals (try k_fold)
  repeat' (first
    | ((with_reducible show wpAny _ _ (subscriptTail _ _ (Value.ref vl) (Value.int _ _)) _ _ _); k_dflt (refine' item_any ?N ?m hi0 hsz hix ?s ?_; (case N => k_asm); (case m => k_mem); (case s => with_unfolding_all rfl)))
    | ((with_reducible show wpAny _ _ (setAttr (Value.ref x) _ _) _ _ _); k_dflt (refine' set_dict ?k1 ?k2 ?k3 ?k4 ?k5 ?k6 ?k7 ?k8 ?k9 ?k10 ?k11 ?k12 ?k13 ?_; (case k1 => k_asm); (case k2 => k_asm); (case k3 => k_asm); (case k4 => exact inst_get ((show z.StaysIn _ from (by repeat (first | exact stays_refl | with_reducible assumption | refine stays_step (by with_reducible assumption) ?_))) _ _ I) (News.get (by k_asm) (by k_mem))); (case k5 => exact rfl); (case k6 => k_is); (case k7 => k_is); (case k8 => k_is); (case k9 => k_is); (case k10 => k_get); (case k11 => k_put); (case k12 => k_upd); (case k13 => exact Nat.le_of_ble_eq_true rfl); k_whole; intro h' F' N'; (try k_sweep)))
    | (k_extra "attr")
    | (k_extra "meth")
    | (k_extra "def")
    | (k_extra "combo")
    | (k_unfold; (try dsimp only))
    | (k_end; wrow_close)
    | walk1
    | (dsimp only; walk1)
    | (leave1; (try dsimp only))
    | fail "no step")
  all_goals first
    | exact hQ _ _ (chFin_old (b' := .pair C1 B1) hz rfl hes (by k_asm) (by k_asm) hD (by k_mem) (by k_mem) (by k_mem) (by k_mem) (by k_mem) (by k_mem) (by first | exact fun _ h => h | (intro p' hp'; repeat (first | exact hp' | apply List.Mem.tail))) (by refine ⟨?_, ?_, ?_, ?_, ?_, ?_⟩ <;> k_all) ⟨ok1, ok2.2⟩ (fun H S hh => ⟨.pair (kt H hh) (ht2.stays S), .pair (S _ _ I) (kv H S hh) (hv2.stays S)⟩))
    | exact hQ _ _ (chFin_old (b' := .pair A1 C1) hz rfl hes (by k_asm) (by k_asm) hD (by k_mem) (by k_mem) (by k_mem) (by k_mem) (by k_mem) (by k_mem) (by first | exact fun _ h => h | (intro p' hp'; repeat (first | exact hp' | apply List.Mem.tail))) (by refine ⟨?_, ?_, ?_, ?_, ?_, ?_⟩ <;> k_all) ⟨ok2.1, ok1⟩ (fun H S hh => ⟨.pair (hta.stays S) (kt H hh), .pair (S _ _ I) (hv1.stays S) (kv H S hh)⟩))

theorem ch_vector {w : World} {mean : ExcName → Option Value} {mg mb : PySem.Str → Option Value} {g z : Heap} {s : Shared} {E : Value → Shared → Prop} {Q : Flow → Shared → Prop} {d c bl vl st n n' np nm p m x e L NN : Nat} {dO cO : Obj} {es vs : List Value} {i r : Int} {tkw tki tkr k : Tok} {t1 t2 u1 u2 v th : Value} {A1 B1 C1 : Pl} {tl : Led}
    (X : (K w.params).In g) (T : Top q (looseW q loose) mean mg mb g) (hS : StoreAt w.params z st) (Sz : z.StaysIn g) (F : Fr g L s.heap (fun y => if y = ofString "value" then some v else if y = ofString "place" then some (.int r tkr) else if y = ofString "thing" then some th else if y = ofString "parts" then some (.ref p) else if y = ofString "word" then some (.str (ofString "vector") tkw) else if y = ofString "at" then some (.int i tki) else [(ofString "deck", Value.ref d), (ofString "store", Value.ref st), (ofString "blocks", Value.ref bl), (ofString "values", Value.ref vl)].reverse.lookup y))
    (N : News g L s.heap ((p, listOf #[t1, t2] np) :: (m, listOf #[u1, u2] nm) :: (d, dO) :: (c, cO) :: (bl, listOf es.toArray n) :: (vl, listOf vs.toArray n') :: tl))
    (hD : Dk c dO cO) (I : Inst1 w.params z x 218 (ofString "things") (.ref m)) (hz : z.IsList e #[.str (ofString "vector") k, .ref p]) (hes : es[i.toNat]? = some (Value.ref e)) (hi0 : 0 ≤ i) (hsz : vs.length ≤ 64) (hix : vs[i.toNat]? = some (.ref x)) (r0 : 0 ≤ r) (r1 : r < 2)
    (npp : ∀ q ∈ ([(m, dO), (d, dO), (c, dO), (bl, dO), (vl, dO)] : Led), q.1 ≠ p) (nmm : ∀ q ∈ ([(d, dO), (c, dO), (bl, dO), (vl, dO)] : Led), q.1 ≠ m)
    (ht1 : Off tl d) (ht2' : Off tl c) (ht3 : Off tl bl) (ht4 : Off tl vl) (ht5 : Off tl p) (ht6 : Off tl m) (kt : ∀ H, Has H tl → ThAt H C1 th) (kv : ∀ H, z.StaysIn H → Has H tl → Va w.params vs H v C1) (ok1 : OkT NN C1) (hta : ThAt z A1 t1) (ht2 : ThAt z B1 t2) (hv1 : Va w.params vs z u1 A1) (hv2 : Va w.params vs z u2 B1) (ok2 : OkT NN A1 ∧ OkT NN B1)
    (hQ : ∀ h' tk, ChFin w.params vs es z g d c bl vl x m p e NN i h' → Q .next { s with heap := h', toks := tk }) :
    wpAny (model P0 w) ((ad 700 7000).deeper (envOf (ofString "_law_change") (sScope (stm 48)) L 881 (.ref 880))) (execs ((sBody (stm 48)).drop 5) (envOf (ofString "_law_change") (sScope (stm 48)) L 881 (.ref 880))) Q E s := by
  refine StoreAt.elim (hS) ?_; intro ds n' k0 tb' dt n' k1 k2 rw' bt y0 y1 t0' t1' u0' u1' I1 I2 I3 I4 I5
  obtain ⟨dx, nx, tx, I0⟩ := (show Inst1 _ _ _ _ _ _ from I)
  rcases int2 r0 r1 with rfl | rfl
  all_goals (try k_fold)
  repeat' (first
    | ((with_reducible show wpAny _ _ (subscriptTail _ _ (Value.ref vl) (Value.int _ _)) _ _ _); k_dflt (refine' item_any ?N ?m hi0 hsz hix ?s ?_; (case N => k_asm); (case m => k_mem); (case s => with_unfolding_all rfl)))
    | ((with_reducible show wpAny _ _ (setAttr (Value.ref x) _ _) _ _ _); k_dflt (refine' set_dict ?k1 ?k2 ?k3 ?k4 ?k5 ?k6 ?k7 ?k8 ?k9 ?k10 ?k11 ?k12 ?k13 ?_; (case k1 => k_asm); (case k2 => k_asm); (case k3 => k_asm); (case k4 => exact inst_get ((show z.StaysIn _ from (by repeat (first | exact stays_refl | with_reducible assumption | refine stays_step (by with_reducible assumption) ?_))) _ _ I) (News.get (by k_asm) (by k_mem))); (case k5 => exact rfl); (case k6 => k_is); (case k7 => k_is); (case k8 => k_is); (case k9 => k_is); (case k10 => k_get); (case k11 => k_put); (case k12 => k_upd); (case k13 => exact Nat.le_of_ble_eq_true rfl); k_whole; intro h' F' N'; (try k_sweep)))
    | (k_extra "attr")
    | (k_extra "meth")
    | (k_extra "def")
    | (k_extra "combo")
    | (k_unfold; (try dsimp only))
    | (k_end; wrow_close)
    | walk1
    | (dsimp only; walk1)
    | (leave1; (try dsimp only))
    | fail "no step")
  all_goals first
    | exact hQ _ _ (chFin_old (b' := .vector C1 B1) hz rfl hes (by k_asm) (by k_asm) hD (by k_mem) (by k_mem) (by k_mem) (by k_mem) (by k_mem) (by k_mem) (by first | exact fun _ h => h | (intro p' hp'; repeat (first | exact hp' | apply List.Mem.tail))) (by refine ⟨?_, ?_, ?_, ?_, ?_, ?_⟩ <;> k_all) ⟨ok1, ok2.2⟩ (fun H S hh => ⟨.vector (kt H hh) (ht2.stays S), .vector (I.stays S) (kv H S hh) (hv2.stays S)⟩))
    | exact hQ _ _ (chFin_old (b' := .vector A1 C1) hz rfl hes (by k_asm) (by k_asm) hD (by k_mem) (by k_mem) (by k_mem) (by k_mem) (by k_mem) (by k_mem) (by first | exact fun _ h => h | (intro p' hp'; repeat (first | exact hp' | apply List.Mem.tail))) (by refine ⟨?_, ?_, ?_, ?_, ?_, ?_⟩ <;> k_all) ⟨ok2.1, ok1⟩ (fun H S hh => ⟨.vector (hta.stays S) (kt H hh), .vector (I.stays S) (hv1.stays S) (kv H S hh)⟩))
theorem chFin_new {P : Params} {vs es : List Value} {z g h' : Heap} {d c bl vl x m p e N n n' L e' p' ke : Nat} {i : Int} {mm : PySem.Str → Option Value} {news tl : Led} {dO' cO' po' mo' : Obj} {k : Tok} {w : PySem.Str} (b' : Bl) (hw : w = b'.word) (F : Fr g L h' mm) (N0 : News g L h' news) (D : Dk c dO' cO')
    (m1 : (d, dO') ∈ news) (m2 : (c, cO') ∈ news) (m3 : (bl, listOf (es.set i.toNat (Value.ref e')).toArray n) ∈ news) (m7 : (e', listOf #[.str w k, .ref p'] ke) ∈ news) (m4 : (vl, listOf vs.toArray n') ∈ news) (m5 : (p', po') ∈ news) (m6 : (m, mo') ∈ news) (sub : ∀ q ∈ tl, q ∈ news)
    (np : p' ≠ d ∧ p' ≠ c ∧ p' ≠ bl ∧ p' ≠ vl ∧ p' ≠ p ∧ p' ≠ m) (ne : e' ≠ d ∧ e' ≠ c ∧ e' ≠ bl ∧ e' ≠ vl ∧ e' ≠ p ∧ e' ≠ m) (nep : e' ≠ p') (offp : ∀ q ∈ tl, q.1 ≠ p') (off : (∀ q ∈ tl, q.1 ≠ d) ∧ (∀ q ∈ tl, q.1 ≠ c) ∧ (∀ q ∈ tl, q.1 ≠ bl) ∧ (∀ q ∈ tl, q.1 ≠ vl) ∧ (∀ q ∈ tl, q.1 ≠ p) ∧ (∀ q ∈ tl, q.1 ≠ m))
    (ok : b'.Ok N) (f : ∀ H, z.StaysIn H → Has H tl → Po H po' b' ∧ Mo P vs H x m mo' b') : ChFin P vs es z g d c bl vl x m p e N i h' := by
  refine ⟨e', p', po', mo', b', (e', listOf #[.str w k, .ref p'] ke) :: tl, dO', cO', n, n', k, D, N0.get m1, N0.get m2, N0.get m3, N0.get m4, N0.get m5, N0.get m6, .inr ⟨N0.fresh m5, all6 np⟩, fun q hq => ?_, ok, F.keep, fun H S hh => ⟨⟨_, hh _ (.head _), rfl, ke, by rw [hw]⟩, f H S fun q hq => hh q (.tail _ hq)⟩⟩
  rcases List.mem_cons.mp hq with rfl | hq
  · exact ⟨N0.get m7, N0.fresh m7, nep, all6 ne⟩
  · exact ⟨N0.get (sub q hq), N0.fresh (sub q hq), offp q hq, all6 ⟨off.1 q hq, off.2.1 q hq, off.2.2.1 q hq, off.2.2.2.1 q hq, off.2.2.2.2.1 q hq, off.2.2.2.2.2 q hq⟩⟩

theorem ch_promise {w : World} {mean : ExcName → Option Value} {mg mb : PySem.Str → Option Value} {g z : Heap} {s : Shared} {E : Value → Shared → Prop} {Q : Flow → Shared → Prop} {d c bl vl st n n' p m x e L NN : Nat} {dO cO po : Obj} {es vs : List Value} {i r : Int} {tkw tki tkr tk1 tk2 : Tok} {u1 v th : Value} {dn : Bool} {C1 : Pl} {tl : Led}
    (X : (K w.params).In g) (T : Top q (looseW q loose) mean mg mb g) (hS : StoreAt w.params z st) (Sz : z.StaysIn g) (F : Fr g L s.heap (fun y => if y = ofString "value" then some v else if y = ofString "place" then some (.int r tkr) else if y = ofString "thing" then some th else if y = ofString "parts" then some (.ref p) else if y = ofString "word" then some (.str (ofString "promise") tkw) else if y = ofString "at" then some (.int i tki) else [(ofString "deck", Value.ref d), (ofString "store", Value.ref st), (ofString "blocks", Value.ref bl), (ofString "values", Value.ref vl)].reverse.lookup y))
    (N : News g L s.heap ((p, po) :: (m, dictOf [en w.params (ofString "is_done") tk1 (.bool dn), en w.params (ofString "content") tk2 u1] 2) :: (d, dO) :: (c, cO) :: (bl, listOf es.toArray n) :: (vl, listOf vs.toArray n') :: tl))
    (hD : Dk c dO cO) (I : z.get? x = some (instObj 260 m)) (hi0 : 0 ≤ i) (hi1 : i < (es.length : Int)) (hsz2 : es.length ≤ 64) (hsz : vs.length ≤ 64) (hix : vs[i.toNat]? = some (.ref x))
    (npp : ∀ q ∈ ([(m, dO), (d, dO), (c, dO), (bl, dO), (vl, dO)] : Led), q.1 ≠ p) (nmm : ∀ q ∈ ([(d, dO), (c, dO), (bl, dO), (vl, dO)] : Led), q.1 ≠ m) (nbb : ∀ q ∈ ([(d, dO), (c, dO), (vl, dO)] : Led), q.1 ≠ bl)
    (ht1 : Off tl d) (ht2' : Off tl c) (ht3 : Off tl bl) (ht4 : Off tl vl) (ht5 : Off tl p) (ht6 : Off tl m) (kt : ∀ H, Has H tl → ThAt H C1 th) (kv : ∀ H, z.StaysIn H → Has H tl → Va w.params vs H v C1) (ok1 : OkT NN C1)
    (hQ : ∀ h' tk, ChFin w.params vs es z g d c bl vl x m p e NN i h' → Q .next { s with heap := h', toks := tk }) :
    wpAny (model P0 w) ((ad 700 7000).deeper (envOf (ofString "_law_change") (sScope (stm 48)) L 881 (.ref 880))) (execs ((sBody (stm 48)).drop 5) (envOf (ofString "_law_change") (sScope (stm 48)) L 881 (.ref 880))) Q E s := by
  refine StoreAt.elim (hS) ?_; intro ds n' k0 tb' dt n' k1 k2 rw' bt y0 y1 t0' t1' u0' u1' I1 I2 I3 I4 I5
  (try k_fold)
  repeat' (first
    | ((with_reducible show wpAny _ _ (subscriptTail _ _ (Value.ref vl) (Value.int _ _)) _ _ _); k_dflt (refine' item_any ?N ?m hi0 hsz hix ?s ?_; (case N => k_asm); (case m => k_mem); (case s => with_unfolding_all rfl)))
    | ((with_reducible show wpAny _ _ (setItem (Value.ref bl) (Value.int _ _) _) _ _ _); k_dflt (refine' set_any (pv := es) ?F ?N hi0 hi1 hsz2 ?U ?_; (case F => k_asm); (case N => k_asm); (case U => k_upd)); intro h' F' N'; (try k_sweep))
    | ((with_reducible show wpAny _ _ (setAttr (Value.ref x) _ _) _ _ _); k_dflt (refine' set_dict ?k1 ?k2 ?k3 ?k4 ?k5 ?k6 ?k7 ?k8 ?k9 ?k10 ?k11 ?k12 ?k13 ?_; (case k1 => k_asm); (case k2 => k_asm); (case k3 => k_asm); (case k4 => exact inst_get ((show z.StaysIn _ from (by repeat (first | exact stays_refl | with_reducible assumption | refine stays_step (by with_reducible assumption) ?_))) _ _ I) (News.get (by k_asm) (by k_mem))); (case k5 => exact rfl); (case k6 => k_is); (case k7 => k_is); (case k8 => k_is); (case k9 => k_is); (case k10 => k_get); (case k11 => k_put); (case k12 => k_upd); (case k13 => exact Nat.le_of_ble_eq_true rfl); k_whole; intro h' F' N'; (try k_sweep)))
    | (k_extra "attr")
    | (k_extra "meth")
    | (k_extra "def")
    | (k_extra "combo")
    | (k_unfold; (try dsimp only))
    | (k_end; wrow_close)
    | walk1
    | (dsimp only; walk1)
    | (leave1; (try dsimp only))
    | fail "no step")
  all_goals exact hQ _ _ (chFin_new (b' := .promise true C1) rfl (by k_asm) (by k_asm) hD (by k_mem) (by k_mem) (by k_mem) (by k_mem) (by k_mem) (by k_mem) (by k_mem) (by first | exact fun _ h => h | (intro p' hp'; repeat (first | exact hp' | apply List.Mem.tail))) (by refine ⟨?_, ?_, ?_, ?_, ?_, ?_⟩ <;> k_ne) (by refine ⟨?_, ?_, ?_, ?_, ?_, ?_⟩ <;> k_ne) (by k_ne) (by k_all) (by refine ⟨?_, ?_, ?_, ?_, ?_, ?_⟩ <;> k_all) ok1 (fun H S hh => ⟨.promise (kt H hh), .promise (S _ _ I) (kv H S hh)⟩))
theorem ch_tail {w : World} {mean : ExcName → Option Value} {mg mb : PySem.Str → Option Value} {g z : Heap} {s : Shared} {E : Value → Shared → Prop} {Q : Flow → Shared → Prop} {d c bl vl st n n' p m x e L NN : Nat} {dO cO po mo : Obj} {es vs : List Value} {i r : Int} {tkw tki tkr k : Tok} {v th : Value} {C1 : Pl} {b : Bl} {tl : Led}
    (X : (K w.params).In g) (T : Top q (looseW q loose) mean mg mb g) (hS : StoreAt w.params z st) (Sz : z.StaysIn g) (F : Fr g L s.heap (fun y => if y = ofString "value" then some v else if y = ofString "place" then some (.int r tkr) else if y = ofString "thing" then some th else if y = ofString "parts" then some (.ref p) else if y = ofString "word" then some (.str b.word tkw) else if y = ofString "at" then some (.int i tki) else [(ofString "deck", Value.ref d), (ofString "store", Value.ref st), (ofString "blocks", Value.ref bl), (ofString "values", Value.ref vl)].reverse.lookup y))
    (N : News g L s.heap ((p, po) :: (m, mo) :: (d, dO) :: (c, cO) :: (bl, listOf es.toArray n) :: (vl, listOf vs.toArray n') :: tl))
    (hD : Dk c dO cO) (hpo : Po z po b) (hmo : Mo w.params vs z x m mo b) (hns : ∀ cs, b ≠ .string cs) (ok : b.Ok NN) (hz : z.IsList e #[.str b.word k, .ref p]) (hes : es[i.toNat]? = some (Value.ref e)) (hi0 : 0 ≤ i) (hi1 : i < (es.length : Int)) (hsz2 : es.length ≤ 64) (hsz : vs.length ≤ 64) (hix : vs[i.toNat]? = some (.ref x)) (r0 : 0 ≤ r) (r1 : r < 2)
    (npp : ∀ q ∈ ([(m, dO), (d, dO), (c, dO), (bl, dO), (vl, dO)] : Led), q.1 ≠ p) (nmm : ∀ q ∈ ([(d, dO), (c, dO), (bl, dO), (vl, dO)] : Led), q.1 ≠ m) (nbb : ∀ q ∈ ([(d, dO), (c, dO), (vl, dO)] : Led), q.1 ≠ bl)
    (ht1 : Off tl d) (ht2 : Off tl c) (ht3 : Off tl bl) (ht4 : Off tl vl) (ht5 : Off tl p) (ht6 : Off tl m) (kt : ∀ H, Has H tl → ThAt H C1 th) (kv : ∀ H, z.StaysIn H → Has H tl → Va w.params vs H v C1) (ok1 : OkT NN C1)
    (hQ : ∀ h' tk, ChFin w.params vs es z g d c bl vl x m p e NN i h' → Q .next { s with heap := h', toks := tk }) :
    wpAny (model P0 w) ((ad 700 7000).deeper (envOf (ofString "_law_change") (sScope (stm 48)) L 881 (.ref 880))) (execs ((sBody (stm 48)).drop 5) (envOf (ofString "_law_change") (sScope (stm 48)) L 881 (.ref 880))) Q E s := by
  cases hmo with
  | string => exact absurd rfl (hns _)
  | pair I a a' => cases hpo with
    | pair t1 t2 => exact ch_pair X T hS Sz F N hD I hz hes hi0 hsz hix r0 r1 npp nmm ht1 ht2 ht3 ht4 ht5 ht6 kt kv ok1 t1 t2 a a' ok hQ
  | vector I a a' => cases hpo with
    | vector t1 t2 => exact ch_vector X T hS Sz F N hD I hz hes hi0 hsz hix r0 r1 npp nmm ht1 ht2 ht3 ht4 ht5 ht6 kt kv ok1 t1 t2 a a' ok hQ
  | box I a => cases hpo with
    | box t1 => exact ch_box X T hS Sz F N hD I hz hes hi0 hsz hix r0 r1 npp nmm ht1 ht2 ht3 ht4 ht5 ht6 kt kv ok1 hQ
  | promise I a => exact ch_promise X T hS Sz F N hD I hi0 hi1 hsz2 hsz hix npp nmm nbb ht1 ht2 ht3 ht4 ht5 ht6 kt kv ok1 hQ
theorem sub4d {g h : Heap} {L : Addr} {x0 e1 e2 e3 e4 q1 q2 q3 q4 q5 q6 : Addr × Obj} (N : News g L h [x0, e1, e2, e3, e4, q1, q2, q3, q4, q5, q6]) : News g L h (q1 :: q2 :: q3 :: q4 :: q5 :: q6 :: e1 :: e2 :: e3 :: e4 :: []) := fun p hp => N p (by
  simp only [List.mem_cons, List.not_mem_nil, or_false] at hp ⊢
  rcases hp with h | h | h | h | h | h | h | h | h | h <;> simp [h])
theorem kt1 {a b : Nat} {oa ob : Obj} {v : Value} {t : Pl} {e1 e2 : Addr × Obj} (f : ∀ H, H.get? a = some oa → H.get? b = some ob → ThAt H t v) : ∀ H, Has H [e1, e2, (a, oa), (b, ob)] → ThAt H t v := fun H hh => f H (hh _ (.tail _ (.tail _ (.head _)))) (hh _ (.tail _ (.tail _ (.tail _ (.head _)))))
theorem kv1 {P : Params} {vs : List Value} {z : Heap} {a b : Nat} {oa ob : Obj} {v : Value} {t : Pl} {e3 e4 : Addr × Obj} (f : ∀ H, z.StaysIn H → H.get? a = some oa → H.get? b = some ob → Va P vs H v t) : ∀ H, z.StaysIn H → Has H [(a, oa), (b, ob), e3, e4] → Va P vs H v t := fun H S hh => f H S (hh _ (.head _)) (hh _ (.tail _ (.head _)))

theorem ch_other {w : World} {mean : ExcName → Option Value} {mg mb : PySem.Str → Option Value} {g z : Heap} {s : Shared} {E : Value → Shared → Prop} {Q : Flow → Shared → Prop} {d c bl vl st n n' p m x e L : Nat} {dO cO po mo : Obj} {es vs : List Value} {i : Int} {tkw tki k : Tok} {b : Bl}
    (Xz : (K w.params).In z) (Tz : Top q (looseW q loose) mean mg mb z) (X : (K w.params).In g) (T : Top q (looseW q loose) mean mg mb g) (hS : StoreAt w.params z st) (Sz : z.StaysIn g) (F : Fr g L s.heap (fun y => if y = ofString "parts" then some (.ref p) else if y = ofString "word" then some (.str b.word tkw) else if y = ofString "at" then some (.int i tki) else [(ofString "deck", Value.ref d), (ofString "store", Value.ref st), (ofString "blocks", Value.ref bl), (ofString "values", Value.ref vl)].reverse.lookup y))
    (N : News g L s.heap [(p, po), (m, mo), (d, dO), (c, cO), (bl, listOf es.toArray n), (vl, listOf vs.toArray n')])
    (dc : d ≠ c) (hD : Dk c dO cO) (hpo : Po z po b) (hmo : Mo w.params vs z x m mo b) (hns : ∀ cs, b ≠ .string cs) (ok : b.Ok es.length) (hz : z.IsList e #[.str b.word k, .ref p]) (hes : es[i.toNat]? = some (Value.ref e)) (hi0 : 0 ≤ i) (hi1 : i < (es.length : Int)) (hsz2 : es.length ≤ 64) (hsz : vs.length ≤ 64) (hl : es.length = vs.length) (hix : vs[i.toNat]? = some (.ref x))
    (npp : ∀ q ∈ ([(m, dO), (d, dO), (c, dO), (bl, dO), (vl, dO)] : Led), q.1 ≠ p) (nmm : ∀ q ∈ ([(d, dO), (c, dO), (bl, dO), (vl, dO)] : Led), q.1 ≠ m) (nbb : ∀ q ∈ ([(d, dO), (c, dO), (vl, dO)] : Led), q.1 ≠ bl) (nc : ∀ q ∈ ([(bl, dO), (vl, dO)] : Led), q.1 ≠ c) (nd : ∀ q ∈ ([(bl, dO), (vl, dO)] : Led), q.1 ≠ d)
    (hQ : ∀ h' tk, ChFin w.params vs es z g d c bl vl x m p e es.length i h' → Q .next { s with heap := h', toks := tk }) :
    wpAny (model P0 w) ((ad 700 7000).deeper (envOf (ofString "_law_change") (sScope (stm 48)) L 881 (.ref 880))) (execs ((sBody (stm 48)).drop 3) (envOf (ofString "_law_change") (sScope (stm 48)) L 881 (.ref 880))) Q E s := by
  (try k_fold)
  repeat' (first
    | ((with_reducible show wpAny _ _ (execs [Stmt.If _ _ _ _] _) _ _ _); k_dflt (refine' ch_tail (b := b) X T hS Sz ?F (sub4d ?N) ?D hpo hmo hns ok hz hes hi0 hi1 hsz2 hsz hix ?r0 ?r1 (offr0 npp ?e1) (offr0 nmm ?e2) (offr0 nbb ?e3) (off4 ?q1 offnil) (off4 ?q2 offnil) (off4 ?q3 offnil) (off4 ?q4 offnil) (off4 ?q5 offnil) (off4 ?q6 offnil) (kt1 ?k1) (kv1 ?k2) ?O hQ; (case F => k_asm); (case N => k_asm); (case D => assumption); (case e1 => rfl); (case e2 => rfl); (case e3 => rfl); (case r0 => with_reducible assumption); (case r1 => with_reducible assumption); (case k1 => with_reducible assumption); (case k2 => with_reducible assumption); (case O => with_reducible assumption); (case q1 => refine ⟨?_, ?_, ?_, ?_⟩ <;> k_ne); (case q2 => refine ⟨?_, ?_, ?_, ?_⟩ <;> k_ne); (case q3 => refine ⟨?_, ?_, ?_, ?_⟩ <;> k_ne); (case q4 => refine ⟨?_, ?_, ?_, ?_⟩ <;> k_ne); (case q5 => refine ⟨?_, ?_, ?_, ?_⟩ <;> k_ne); (case q6 => refine ⟨?_, ?_, ?_, ?_⟩ <;> k_ne)))
    | ((with_reducible show wpAny _ _ (call (Value.ref 848) [_, Value.int _ _]) _ _ _); k_dflt (refine' call_draw ?X ?T ?F ?N ?dc ?D ?U ?hm ?hm2 rfl ?zd ?zu ?_; (case F => k_asm); (case N => k_asm); (case X => k_asm); (case T => k_asm); (case D => assumption); (case dc => assumption); (case U => (repeat' (first | (refine' UpD.head ?_ ?_ <;> k_all) | (refine' UpD.tail ?uu1 ?uu2 ?_; (case uu1 => k_ne); (case uu2 => k_ne))))); (case hm => first | decide | omega); (case hm2 => first | decide | omega); (case zd => exact Nat.le_of_ble_eq_true rfl); (case zu => exact Nat.le_of_ble_eq_true rfl)); intro r' t' dO' cO' h' tk' r0 r1 D' F' N'; (try dsimp only at N'); (try k_sweep); (try dsimp only))
    | ((with_reducible show wpAny _ _ (call (Value.ref 862) _) _ _ _); k_dflt (refine' call_thing (dO := _) (cO := _) (thing_spec ?X ?T ?S ?dc ?D (News.get ?N ?m1) (News.get ?N ?m2) (News.fresh ?N ?m1) (News.fresh ?N ?m2) (News.isList ?N ?m3) ?z ?n1 ?n2) ?U rfl ?zd ?zu ?F ?N ?_; (case F => k_asm); (case N => k_asm); (case S => exact stays_fr (by k_asm)); (case X => k_asm); (case T => k_asm); (case D => assumption); (case dc => assumption); (case m1 => k_mem); (case m2 => k_mem); (case m3 => k_mem); (case z => assumption); (case n1 => k_ne); (case n2 => k_ne); (case U => (repeat' (first | (refine' UpD.head ?_ ?_ <;> k_all) | (refine' UpD.tail ?uu1 ?uu2 ?_; (case uu1 => k_ne); (case uu2 => k_ne))))); (case zd => exact Nat.le_of_ble_eq_true rfl); (case zu => exact Nat.le_of_ble_eq_true rfl)); intro a' b' oa' ob' t' dO' cO' h' tk' D' O' F' N' na' nb' k'; (try dsimp only at N'); (try k_sweep); (try dsimp only))
    | ((with_reducible show wpAny _ _ (call (Value.ref 869) [_, _, Value.ref _]) _ _ _); k_dflt (refine' call_value (base := z) (vs := vs) ?hz (value_spec Xz Tz ?S hS (News.isList ?N ?m3) (th_of ?k ?N ?m1 ?m2) ?ok hsz) rfl ?zd ?zu ?F ?N ?_; (case F => k_asm); (case N => k_asm); (case k => with_reducible assumption); (case m1 => k_mem); (case m2 => k_mem); (case hz => k_mem); (case S => (repeat (first | exact stays_refl | with_reducible assumption | refine stays_step (by with_reducible assumption) ?_))); (case m3 => k_mem); (case ok => (rw [← hl]; assumption)); (case zd => exact Nat.le_of_ble_eq_true rfl); (case zu => exact Nat.le_of_ble_eq_true rfl)); intro v' a' b' oa' ob' h' tk' F' N' na' nb' k'; (try k_sweep); (try dsimp only))
    | (k_extra "attr")
    | (k_extra "meth")
    | (k_extra "def")
    | (k_extra "combo")
    | (k_unfold; (try dsimp only))
    | (k_end; wrow_close)
    | walk1
    | (dsimp only; walk1)
    | (leave1; (try dsimp only))
    | fail "no step")
theorem ch_if {w : World} {mean : ExcName → Option Value} {mg mb : PySem.Str → Option Value} {g z : Heap} {s : Shared} {E : Value → Shared → Prop} {Q : Flow → Shared → Prop} {d c bl vl st n n' p m x e L : Nat} {dO cO po mo : Obj} {es vs : List Value} {i : Int} {tkw tki k : Tok} {b : Bl}
    (Xz : (K w.params).In z) (Tz : Top q (looseW q loose) mean mg mb z) (X : (K w.params).In g) (T : Top q (looseW q loose) mean mg mb g) (hS : StoreAt w.params z st) (Sz : z.StaysIn g) (F : Fr g L s.heap (fun y => if y = ofString "parts" then some (.ref p) else if y = ofString "word" then some (.str b.word tkw) else if y = ofString "at" then some (.int i tki) else [(ofString "deck", Value.ref d), (ofString "store", Value.ref st), (ofString "blocks", Value.ref bl), (ofString "values", Value.ref vl)].reverse.lookup y))
    (N : News g L s.heap [(p, po), (m, mo), (d, dO), (c, cO), (bl, listOf es.toArray n), (vl, listOf vs.toArray n')])
    (dc : d ≠ c) (hD : Dk c dO cO) (hpo : Po z po b) (hmo : Mo w.params vs z x m mo b) (hns : ∀ cs, b ≠ .string cs) (ok : b.Ok es.length) (hz : z.IsList e #[.str b.word k, .ref p]) (hes : es[i.toNat]? = some (Value.ref e)) (hi0 : 0 ≤ i) (hi1 : i < (es.length : Int)) (hsz2 : es.length ≤ 64) (hsz : vs.length ≤ 64) (hl : es.length = vs.length) (hix : vs[i.toNat]? = some (.ref x))
    (npp : ∀ q ∈ ([(m, dO), (d, dO), (c, dO), (bl, dO), (vl, dO)] : Led), q.1 ≠ p) (nmm : ∀ q ∈ ([(d, dO), (c, dO), (bl, dO), (vl, dO)] : Led), q.1 ≠ m) (nbb : ∀ q ∈ ([(d, dO), (c, dO), (vl, dO)] : Led), q.1 ≠ bl) (nc : ∀ q ∈ ([(bl, dO), (vl, dO)] : Led), q.1 ≠ c) (nd : ∀ q ∈ ([(bl, dO), (vl, dO)] : Led), q.1 ≠ d)
    (hQ : ∀ h' tk, ChFin w.params vs es z g d c bl vl x m p e es.length i h' → Q .next { s with heap := h', toks := tk }) :
    wpAny (model P0 w) ((ad 700 7000).deeper (envOf (ofString "_law_change") (sScope (stm 48)) L 881 (.ref 880))) (execs ((sBody (stm 48)).drop 2) (envOf (ofString "_law_change") (sScope (stm 48)) L 881 (.ref 880))) Q E s := by
  have hb : (b.word == ofString "string") = false := by
    cases b with
    | string cs => exact absurd rfl (hns cs)
    | _ => rfl
  (try k_fold)
  repeat' (first
    | ((with_reducible show wpAny _ _ (execs [Stmt.Assign _ _ _, Stmt.Assign _ _ _, Stmt.If _ _ _ _] _) _ _ _); exact ch_other Xz Tz X T hS Sz (by k_asm) (by k_asm) dc hD hpo hmo hns ok hz hes hi0 hi1 hsz2 hsz hl hix npp nmm nbb nc nd hQ)
    | (k_extra "attr")
    | (k_extra "meth")
    | (k_extra "def")
    | (k_extra "combo")
    | (k_unfold; (try dsimp only))
    | (k_end; wrow_close)
    | walk1
    | (dsimp only; walk1)
    | (leave1; (try dsimp only))
    | fail "no step")

theorem rec_split {σ : List Rec} {k : Nat} (h : k < σ.length) : ∃ pre post r, σ = pre ++ r :: post ∧ pre.length = k :=
  ⟨σ.take k, σ.drop (k + 1), σ[k], by rw [List.getElem_cons_drop, List.take_append_drop], by simp; omega⟩
theorem item_rec {w : World} {A : Around} {E : Value → Shared → Prop} {s : Shared} {h₀ : Heap} {L : Addr} {news : Led} {D n : Nat} {σ : List Rec} {k : Int} {t : Tok} {value slice : PySem.Expr} {Q : Value → Shared → Prop} (N : News h₀ L s.heap news) (hm : (D, listOf (esOf σ).toArray n) ∈ news) (h0 : 0 ≤ k) (h1 : k < (σ.length : Int)) (hz : σ.length ≤ 64)
    (hs : subscripted slice false (.ref D) (.int k t) = operate [.ref D, .int k t] (getItem (.ref D) (.int k t))) (h : ∀ pre post r, σ = pre ++ r :: post → pre.length = k.toNat → Q (.ref r.e) s) : wpAny (model P0 w) A (subscriptTail value slice (.ref D) (.int k t)) Q E s := by
  obtain ⟨pre, post, r, rfl, e⟩ := rec_split (σ := σ) (k := k.toNat) (by omega)
  exact item_any N hm h0 (by simpa [esOf] using hz) (by rw [← e]; simp [esOf]) hs (h pre post r rfl e)
theorem esOf_at (pre post : List Rec) (r : Rec) : (esOf (pre ++ r :: post))[pre.length]? = some (.ref r.e) ∧ (xsOf (pre ++ r :: post))[pre.length]? = some (.ref r.x) := by
  constructor <;> simp [esOf, xsOf]
theorem ch_rest {w : World} {mean : ExcName → Option Value} {mg mb : PySem.Str → Option Value} {base g hv h0 : Heap} {s : Shared} {E : Value → Shared → Prop} {Q : Flow → Shared → Prop} {d c bl vl st n n' L : Nat} {dO cO : Obj} {i : Int} {tkw tki : Tok} {σ pre post : List Rec} {r : Rec}
    (X : (K w.params).In base) (T : Top q (looseW q loose) mean mg mb base) (hS : StoreAt w.params base st) (S : St w.params base d c bl vl hv σ) (Sv : hv.StaysIn h0) (hg : g = hideAll h0 [d, c, bl, vl])
    (F : Fr g L s.heap (fun y => if y = ofString "parts" then some (.ref r.p) else if y = ofString "word" then some (.str r.b.word tkw) else if y = ofString "at" then some (.int i tki) else [(ofString "deck", Value.ref d), (ofString "store", Value.ref st), (ofString "blocks", Value.ref bl), (ofString "values", Value.ref vl)].reverse.lookup y)) (N : News g L s.heap [(d, dO), (c, cO), (bl, listOf (esOf σ).toArray n), (vl, listOf (xsOf σ).toArray n')]) (dc : d ≠ c) (hD : Dk c dO cO) (eσ : σ = pre ++ r :: post) (ek : pre.length = i.toNat) (hi0 : 0 ≤ i) (hi1 : i < (σ.length : Int)) (hsz : σ.length ≤ 64)
    (hQ : ∀ h' tk fl, (fl = .next ∨ fl = .ret .none) → ChOut w.params d c bl vl σ hv h0 h' → Q fl { s with heap := h', toks := tk }) :
    wpAny (model P0 w) ((ad 700 7000).deeper (envOf (ofString "_law_change") (sScope (stm 48)) L 881 (.ref 880))) (execs ((sBody (stm 48)).drop 2) (envOf (ofString "_law_change") (sScope (stm 48)) L 881 (.ref 880))) Q E s := by
  have hr : r ∈ σ := by rw [eσ]; simp
  obtain ⟨ok, k, hz, hpo, hmo⟩ := S.gd r hr
  have nd := S.nd
  rw [eσ, muts_at, List.nodup_append, List.nodup_append] at nd
  obtain ⟨⟨nd4, _, _⟩, nd2, nd3⟩ := nd
  have np4 : ∀ y ∈ ([d, c, bl, vl] : List Nat), y ≠ r.p := fun y hy => nd3 y (List.mem_append.mpr (.inl hy)) _ (.head _)
  have nm4 : ∀ y ∈ ([d, c, bl, vl] : List Nat), y ≠ r.m := fun y hy => nd3 y (List.mem_append.mpr (.inl hy)) _ (.tail _ (.head _))
  have npm : r.p ≠ r.m := fun q => (List.nodup_cons.mp nd2).1 (q ▸ .head _)
  have hp : g.get? r.p = some r.po := hg ▸ hideAll_get _ (Sv _ _ (S.hp r hr).1) fun q => np4 _ q rfl
  have hm : g.get? r.m = some r.mo := hg ▸ hideAll_get _ (Sv _ _ (S.hp r hr).2) fun q => nm4 _ q rfl
  have F2 := fr_expose (l := [r.p, r.m]) F
  have N2 := news_expose F N hp hm
  have hsub : ∀ a ∈ [r.p, r.m], a ∈ muts d c bl vl σ := fun a ha => List.mem_append.mpr (.inr (List.mem_flatMap.mpr ⟨r, hr, ha⟩))
  have Sz : (hideAll hv (muts d c bl vl σ)).StaysIn (hideAll g [r.p, r.m]) := fun a o e => by
    have n := not_mem_hide e
    refine hideAll_get _ (hg ▸ hideAll_get _ (Sv _ _ (of_hideAll _ e)) fun w => n (List.mem_append.mpr (.inl w))) fun w => n (hsub a w)
  have Sb := S.base_z
  have Xz := X.keeps Sb
  have Tz := T.keeps Sb
  have Xg := Xz.keeps Sz
  have Tg := Tz.keeps Sz
  have hSz := hS.stays Sb
  have el : (esOf σ).length = σ.length := by simp [esOf]
  have xl : (xsOf σ).length = σ.length := by simp [xsOf]
  have at1 : (esOf σ)[i.toNat]? = some (.ref r.e) := by rw [eσ, ← ek]; exact (esOf_at pre post r).1
  have at2 : (xsOf σ)[i.toNat]? = some (.ref r.x) := by rw [eσ, ← ek]; exact (esOf_at pre post r).2
  simp only [List.nodup_cons, List.mem_cons, List.not_mem_nil, or_false, not_or] at nd4
  obtain ⟨⟨q1, q2, q3⟩, ⟨q4, q5⟩, q6, _⟩ := nd4
  have p1 := np4 d (by simp); have p2 := np4 c (by simp); have p3 := np4 bl (by simp); have p4 := np4 vl (by simp)
  have m1 := nm4 d (by simp); have m2 := nm4 c (by simp); have m3 := nm4 bl (by simp); have m4 := nm4 vl (by simp)
  have sx : ∀ {h' : Heap}, (hideAll g [r.p, r.m]).StaysIn h' → Keep [d, c, bl, vl, r.p, r.m] h0 h' := fun K a o e na => by
    simp only [List.mem_cons, List.not_mem_nil, or_false, not_or] at na
    exact K _ _ (hideAll_get _ (hg ▸ hideAll_get _ e (by simp [na])) (by simp [na]))
  have fr : ∀ {a : Nat}, (hideAll g [r.p, r.m]).get? a = none → (∀ y ∈ [d, c, bl, vl, r.p, r.m], a ≠ y) → h0.get? a = none := fun {a} e na => by
    have e1 := none_of_hide e (fun w => by simp only [List.mem_cons, List.not_mem_nil, or_false] at w; rcases w with w | w <;> exact na _ (by simp) w)
    rw [hg] at e1
    exact none_of_hide e1 (fun w => by simp only [List.mem_cons, List.not_mem_nil, or_false] at w; rcases w with w | w | w | w <;> exact na _ (by simp) w)
  have eset : ∀ e', (esOf σ).set i.toNat (.ref e') = esOf (pre ++ { r with e := e' } :: post) := fun e' => by rw [eσ, ← ek]; simp [esOf]
  have other : (∀ cs, r.b ≠ .string cs) → wpAny (model P0 w) ((ad 700 7000).deeper (envOf (ofString "_law_change") (sScope (stm 48)) L 881 (.ref 880))) (execs ((sBody (stm 48)).drop 2) (envOf (ofString "_law_change") (sScope (stm 48)) L 881 (.ref 880))) Q E s := fun hns =>
    ch_if Xz Tz Xg Tg hSz Sz F2 N2 dc hD hpo hmo hns (by rw [el, ← xl]; exact ok) hz at1 hi0 (by rw [el]; exact hi1) (by rw [el]; exact hsz) (by rw [xl]; exact hsz) (by rw [el, xl]) at2
      (by simp [npm.symm, p1, p2, p3, p4]) (by simp [m1, m2, m3, m4]) (by simp [q2, q4, Ne.symm q6]) (by simp [Ne.symm q4, Ne.symm q5]) (by simp [Ne.symm q2, Ne.symm q3])
      fun h' tk fin => hQ h' tk .next (.inl rfl) (by
        obtain ⟨e', p', po', mo', b', imm, dO', cO', n1, n2, k', D', a1, a2, a3, a4, a5, a6, a7, a8, a9, a10, a11⟩ := fin
        refine ⟨pre, post, r, e', p', po', mo', b', imm, dO', cO', n1, n2, k', eσ, D', a1, a2, ?_, a4, a5, a6, ?_, ?_, by rw [← el]; exact a9, sx a10, a11⟩
        · rw [eset] at a3; simpa [esOf] using a3
        · rcases a7 with h | ⟨h, h'⟩
          · exact .inl h
          · exact .inr (fr h h')
        · exact fun q hq => ⟨(a8 q hq).1, fr (a8 q hq).2.1 (a8 q hq).2.2.2, (a8 q hq).2.2.1⟩)
  cases hb : r.b with
  | string cs =>
    rw [hb] at hpo hmo ok hz F2
    have hmo' := hmo
    generalize hpo' : r.po = po at *
    generalize hmo'' : r.mo = mo at *
    cases hpo with
    | string i1 =>
      cases hmo with
      | string I i2 =>
        have l1 := ints_len i1
        have l2 := ints_len i2
        exact ch_string (base := base) Xg Tg hSz Sz F2 N2 dc hD i1 i2 (by rw [l1]; exact ok) (by rw [l1, l2]) I hi0 (by rw [xl]; exact hsz) at2
          (by simp [Ne.symm p1, Ne.symm m1, Ne.symm q2, Ne.symm q3]) (by simp [Ne.symm p2, Ne.symm m2, Ne.symm q4, Ne.symm q5]) (by simp [npm.symm, p3, p4]) (by simp [m3, m4])
          fun h' tk m' dO' cO' pv' mv' cs' D' j1 j2 lc F' N' => hQ h' tk _ (.inr rfl)
            ⟨pre, post, r, r.e, r.p, _, _, .string cs', [], dO', cO', n, n', k, eσ, D', N'.get (by simp), N'.get (by simp), by
              have := N'.get (a := bl) (o := listOf (esOf σ).toArray n) (by simp)
              rw [eσ] at this; simpa [esOf] using this, N'.get (by simp), N'.get (.head _), N'.get (.tail _ (.head _)), .inl rfl, (fun q hq => nomatch hq), by
              show cs'.length ≤ 2; rw [lc]; exact ok, sx F'.keep, fun H SH _ => ⟨isList_stays hz SH, .string j1, .string (I.stays SH) j2⟩⟩
  | pair _ _ => exact other (by rw [hb]; exact fun _ q => nomatch q)
  | vector _ _ => exact other (by rw [hb]; exact fun _ q => nomatch q)
  | box _ => exact other (by rw [hb]; exact fun _ q => nomatch q)
  | promise _ _ => exact other (by rw [hb]; exact fun _ q => nomatch q)

theorem change_spec {w : World} {mean : ExcName → Option Value} {mg mb : PySem.Str → Option Value} {base : Heap} {s : Shared} {d c bl vl st : Nat} {σ : List Rec} {hv : Heap}
    (X : (K w.params).In base) (T : Top q (looseW q loose) mean mg mb base) (keep : base.StaysIn s.heap) (hS : StoreAt w.params base st) (S : St w.params base d c bl vl hv σ) (Sv : hv.StaysIn s.heap) (hne : σ ≠ []) (hsz : σ.length ≤ 64) :
    codeAny (model P0 w) (ad 700 7000) (.call (.ref 881) ⟨[.ref d, .ref st, .ref bl, .ref vl], []⟩) (RetM s fun h' => ChOut w.params d c bl vl σ hv s.heap h') s := by
  obtain ⟨dO, cO, D, hd, hc⟩ := S.dk
  obtain ⟨nb, hb⟩ := S.hb
  obtain ⟨nv, hvv⟩ := S.hv
  have hd := Sv _ _ hd
  have hc := Sv _ _ hc
  have hb := Sv _ _ hb
  have hvv := Sv _ _ hvv
  have nn := S.nb
  have hd0 := nn d (by simp [muts]); have hc0 := nn c (by simp [muts]); have hb0 := nn bl (by simp [muts]); have hv0 := nn vl (by simp [muts])
  have nd := S.nd
  rw [muts, List.nodup_append] at nd
  have nd4 := nd.1
  simp only [List.nodup_cons, List.mem_cons, List.not_mem_nil, or_false, not_or] at nd4
  obtain ⟨⟨dc, q2, q3⟩, ⟨q4, q5⟩, q6, _⟩ := nd4
  have hlen : 0 < σ.length := List.length_pos_iff.mpr hne
  have el : (esOf σ).length = σ.length := by simp [esOf]
  refine enter (news := [(d, dO), (c, cO), (bl, listOf (esOf σ).toArray nb), (vl, listOf (xsOf σ).toArray nv)]) (binds := [(ofString "deck", .ref d), (ofString "store", .ref st), (ofString "blocks", .ref bl), (ofString "values", .ref vl)]) X T keep (by simp [*]) (by rfl) (by rfl) (by decide) (BindsTo.of_eq rfl) (locs rfl) (by decide) rfl rfl rfl ?_
  intro g L' h₁ hg hL F' N' hlt X' T'
  have ncl : ∀ p ∈ ([(bl, dO), (vl, dO)] : Led), p.1 ≠ c := by simp [Ne.symm q4, Ne.symm q5]
  have ndl : ∀ p ∈ ([(bl, dO), (vl, dO)] : Led), p.1 ≠ d := by simp [Ne.symm q2, Ne.symm q3]
  have nvl : ∀ p ∈ ([(bl, dO)] : Led), p.1 ≠ vl := by simp [q6]
  have Szg : (hideAll hv (muts d c bl vl σ)).StaysIn g := fun a o e => by
    have n := not_mem_hide e
    exact hg ▸ hideAll_get _ (Sv _ _ (of_hideAll _ e)) fun w => n (List.mem_append.mpr (.inl w))
  clear q2 q3 q4 q5 q6 hd0 hc0 hb0 hv0 nn nd hd hc hb hne
  show wpAny _ _ _ _ _ _
  k_fold
  repeat' (first
    | ((with_reducible show wpAny _ _ (execs [Stmt.If _ _ _ _, Stmt.Assign _ _ _, Stmt.Assign _ _ _, Stmt.If _ _ _ _] _) _ _ _); k_dflt (refine' ch_rest X T hS S Sv hg ?F ?N dc ?D eσ ek ?h0 ?h1 hsz ?hfin; (case F => k_asm); (case N => k_asm); (case D => assumption); (case h0 => first | omega | (split at r1 <;> omega)); (case h1 => omega)); intro h'' tk'' fl' hfl k'; (rcases hfl with rfl | rfl) <;> exact retM_mk k')
    | ((with_reducible show wpAny _ _ (call (Value.ref 848) [_, Value.int _ _]) _ _ _); k_dflt (refine' call_draw ?X ?T ?F ?N ?dc ?D ?U ?hm ?hm2 rfl ?zd ?zu ?_; (case F => k_asm); (case N => k_asm); (case X => k_asm); (case T => k_asm); (case D => assumption); (case dc => assumption); (case U => (repeat' (first | (refine' UpD.head ?_ ?_ <;> k_all) | (refine' UpD.tail ?uu1 ?uu2 ?_; (case uu1 => k_ne); (case uu2 => k_ne))))); (case hm => first | decide | omega); (case hm2 => first | decide | omega); (case zd => exact Nat.le_of_ble_eq_true rfl); (case zu => exact Nat.le_of_ble_eq_true rfl)); intro r' t' dO' cO' h' tk' r0 r1 D' F' N'; (try dsimp only at N'); (try k_sweep))
    | ((with_reducible show wpAny _ _ (call (Value.builtin "len") [Value.ref _]) _ _ _); k_dflt (refine' len_led ?N ?m ?z ?_; (case N => k_asm); (case m => k_mem); (case z => first | assumption | omega)); intro tk' tk'')
    | ((with_reducible show wpAny _ _ (call (Value.builtin "min") [Value.int _ _, Value.int _ _]) _ _ _); k_dflt (refine' min_any ?_); intro tk')
    | ((with_reducible show wpAny _ _ (subscriptTail _ _ (Value.ref bl) (Value.int _ _)) _ _ _); k_dflt (refine' item_rec ?N ?m ?h0 ?h1 hsz ?hs ?_; (case N => k_asm); (case m => k_mem); (case h0 => first | omega | (split at r1 <;> omega)); (case h1 => omega); (case hs => with_unfolding_all rfl)); intro pre post r0' eσ ek)
    | ((with_reducible show wpAny _ _ (assign (Expr.Tuple _ _ _) _ (Value.ref _)) _ _ _); (have hgr := (S.gd _ (by rw [eσ]; exact List.mem_append_right _ (.head _)))); (obtain ⟨_, kr, hzr, _, _⟩ := hgr); k_dflt (refine' kun_list ?k1 ?k2 ?k3 ?k4 ?k5 ?k6 ?_; (case k1 => k_asm); (case k2 => k_asm); (case k3 => exact isList_stays (isList_stays hzr Szg) (by repeat (first | exact stays_refl | with_reducible assumption | refine stays_step (by with_reducible assumption) ?_))); (case k4 => exact rfl); (case k5 => exact rfl); (case k6 => exact rfl); k_whole); intro h' F' N'; (try k_sweep))
    | (k_extra "attr")
    | (k_extra "meth")
    | (k_extra "def")
    | (k_extra "combo")
    | (k_unfold; (try dsimp only))
    | (k_end; wrow_close)
    | walk1
    | (dsimp only; walk1)
    | (leave1; (try dsimp only))
    | fail "no step")
  all_goals (try k_unfold)
noncomputable def ansOf (k : Nat) : List Bool := [decide (k = 0), decide (k = 44), decide (k = 50), decide (k = 53), decide (k = 155), decide (k = 71), decide (k = 176), decide (k = 197), decide (k = 218), isNum k, decide (k = 260), decide (k = 281), decide (k = 323)]
theorem call_new {w : World} {A : Around} {E : Value → Shared → Prop} {s : Shared} {Q : Value → Shared → Prop} {h₀ : Heap} {L : Addr} {news : Led} {m : PySem.Str → Option Value} {d u : Nat} {f : Addr} {vs : List Value} {Post : Obj → Prop}
    (C : codeAny (model P0 w) (ad d u) (.call (.ref f) ⟨vs, []⟩) (Ret s [] fun r h' => ∃ a o, r = .ref a ∧ s.heap.get? a = none ∧ h'.get? a = some o ∧ Post o) s) (hh : A.handled = none) (hd : A.depth ≤ d) (hu : A.units ≤ u) (F : Fr h₀ L s.heap m) (N : News h₀ L s.heap news)
    (h : ∀ (a : Nat) (o : Obj) h' tk, Fr h₀ L h' m → News h₀ L h' ((a, o) :: news) → (∀ p ∈ news, p.1 ≠ a) → Post o → Q (.ref a) { s with heap := h', toks := tk }) : wpAny (model P0 w) A (call (.ref f) vs) Q E s := by
  refine call_spec C hh hd hu F N fun v h' tk F' N' S p => ?_
  obtain ⟨a, o, rfl, e1, e2, k⟩ := p
  obtain ⟨oL, es, ep, hL, _⟩ := F.ns
  refine h a o h' tk F' (fun p hp => ?_) (fun p hp q => by rw [← q, (N p hp).1] at e1; cases e1) k
  rcases List.mem_cons.mp hp with rfl | hp
  · refine ⟨e2, fun q => (by simp only at q; rw [q, hL] at e1; cases e1), ?_⟩
    cases e : h₀.get? a with
    | none => rfl
    | some o' => have := F.keep _ _ e; rw [e1] at this; cases this
  · exact N' p hp
theorem isnum_m_spec {w : World} {mean : ExcName → Option Value} {mg mb : PySem.Str → Option Value} {base : Heap} {s : Shared} {v x : Value} {k : Nat}
    (X : (K w.params).In base) (T : Top q (looseW q loose) mean mg mb base) (keep : base.StaysIn s.heap) (hv : HasK w.params s.heap v k) :
    codeAny (model P0 w) (ad 850 8500) (.call (.ref 703) ⟨[x, v], []⟩) (Ret s [] fun r _ => r = .bool (isNum k)) s := by
  refine enterN (binds := [(ofString "self", x), (ofString "value", v)]) X T keep (by rfl) (by rfl) (by decide) (BindsTo.of_eq rfl) (locs rfl) (by decide) rfl rfl rfl ?_
  intro L' h₁ tk' hL F' N' X' T'
  k_fold
  repeat' (first
    | ((with_reducible show wpAny _ _ (call (Value.ref 444) _) _ _ _); k_dflt (refine' call_spec (isnum_spec ?X ?T ?S ?h) rfl ?zd ?zu ?F ?N ?_; (case F => k_asm); (case N => k_asm); (case S => exact stays_fr (by k_asm)); (case X => k_asm); (case T => k_asm); (case h => first | assumption | exact HasK.keeps (by assumption) (by repeat (first | exact stays_refl | with_reducible assumption | refine stays_step (by with_reducible assumption) ?_))); (case zd => exact Nat.le_of_ble_eq_true rfl); (case zu => exact Nat.le_of_ble_eq_true rfl)); intro r' h' tk' F' N' S' p'; subst p'; (try k_sweep))
    | (k_extra "isi")
    | (k_extra "def")
    | (k_extra "combo")
    | (k_unfold; (try dsimp only))
    | (k_end; wrow_close)
    | walk1
    | (dsimp only; walk1)
    | (leave1; (try dsimp only))
    | fail "no step")
  all_goals first
    | exact ret_mk (by repeat (first | exact stays_refl | with_reducible assumption | refine stays_step (by with_reducible assumption) ?_)) rfl
    | exact ret_mk (by repeat (first | exact stays_refl | with_reducible assumption | refine stays_step (by with_reducible assumption) ?_)) (by refine bool_val ?_; (try simp only [isNum, beq_iff_eq, Bool.or_eq_true, Bool.and_eq_true, Bool.not_eq_true', decide_eq_true_eq, decide_eq_false_iff_not, Bool.false_eq_true, iff_true, true_iff, iff_false, false_iff]); (try omega))
theorem answers_spec {w : World} {mean : ExcName → Option Value} {mg mb : PySem.Str → Option Value} {base : Heap} {s : Shared} {st : Nat} {v : Value} {k : Nat}
    (X : (K w.params).In base) (T : Top q (looseW q loose) mean mg mb base) (keep : base.StaysIn s.heap) (hS : StoreAt w.params base st) (hv : HasK w.params s.heap v k) :
    codeAny (model P0 w) (ad 800 8000) (.call (.ref 888) ⟨[.ref st, v], []⟩) (Ret s [] fun r h' => ∃ a o, r = .ref a ∧ s.heap.get? a = none ∧ h'.get? a = some o ∧ ∃ n, o = listOf ((ansOf k).map Value.bool).toArray n) s := by
  refine StoreAt.elim (hS) ?_; intro ds n' k0 tb' dt n' k1 k2 rw' bt y0 y1 t0 t1 u0 u1 I1 I2 I3 I4 I5
  refine enterN (binds := [(ofString "store", .ref st), (ofString "value", v)]) X T keep (by rfl) (by rfl) (by decide) (BindsTo.of_eq rfl) (locs rfl) (by decide) rfl rfl rfl ?_
  intro L' h₁ tk' hL F' N' X' T'

  k_fold
  repeat' (first
    | ((with_reducible show wpAny _ _ (call (Value.ref 703) _) _ _ _); k_dflt (refine' call_spec (isnum_m_spec ?X ?T ?S ?h) rfl ?zd ?zu ?F ?N ?_; (case F => k_asm); (case N => k_asm); (case S => exact stays_fr (by k_asm)); (case X => k_asm); (case T => k_asm); (case h => first | assumption | exact HasK.keeps (by assumption) (by repeat (first | exact stays_refl | with_reducible assumption | refine stays_step (by with_reducible assumption) ?_))); (case zd => exact Nat.le_of_ble_eq_true rfl); (case zu => exact Nat.le_of_ble_eq_true rfl)); intro r' h' tk' F' N' S' p'; subst p'; (try k_sweep))
    | ((with_reducible show wpAny _ _ (compareOp CmpOp.Is _ (Value.ref _)) _ _ _); k_dflt (refine' is_sing ?hv9 ?S9 ?X9 ?ha9 ?_; (case hv9 => assumption); (case S9 => (repeat (first | exact stays_refl | with_reducible assumption | refine stays_step (by with_reducible assumption) ?_))); (case X9 => k_in); (case ha9 => decide)); (try dsimp only))
    | (k_extra "isi")
    | (k_extra "attr")
    | (k_extra "meth")
    | (k_extra "def")
    | (k_extra "combo")
    | (k_unfold; (try dsimp only))
    | (k_end; wrow_close)
    | walk1
    | (dsimp only; walk1)
    | (leave1; (try dsimp only))
    | fail "no step")
  all_goals (try k_unfold)
  all_goals exact ret_mk (by repeat (first | exact stays_refl | with_reducible assumption | refine stays_step (by with_reducible assumption) ?_)) ⟨_, _, rfl, News.fresh (by k_asm) (by k_mem), News.get (by k_asm) (by k_mem), _, rfl⟩
theorem item_base {w : World} {A : Around} {E : Value → Shared → Prop} {s : Shared} {Q : Value → Shared → Prop} {g : Heap} {value slice : PySem.Expr} {l : Nat} {i : Int} {k : Tok} {v : Value} {vs : List Value} (hl : g.IsList l vs.toArray) (S : g.StaysIn s.heap) (h0 : 0 ≤ i) (hz : vs.length ≤ 64) (hv : vs[i.toNat]? = some v)
    (hs : subscripted slice false (.ref l) (.int i k) = operate [.ref l, .int i k] (getItem (.ref l) (.int i k))) (h : Q v s) : wpAny (model P0 w) A (subscriptTail value slice (.ref l) (.int i k)) Q E s := by
  have hlt : i.toNat < vs.length := (List.getElem?_eq_some_iff.mp hv).1
  exact tail_any (isList_stays hl S).typeIs slot_list_getitem.lookup (wpAny_getItem_list (isList_stays hl S) h0 (by omega) (by rw [List.getElem?_toArray]; exact hv) h) hs
noncomputable def words13 : List PySem.Str := [ofString "boolean", ofString "empty", ofString "unassigned", ofString "eof", ofString "pair", ofString "symbol", ofString "char", ofString "string", ofString "vector", ofString "number", ofString "promise", ofString "port", ofString "procedure"]
noncomputable def w13 (i : Nat) : PySem.Str := words13[i]?.getD (ofString "")
theorem rest_ind {prog : Program} {w : World} {A : Around} {h₀ : Heap} {L : Addr} {m : PySem.Str → Option Value} {env : Env} {elt : PySem.Expr} {x : PySem.Str} {scope : Scope} {cl : List (PySem.Str × Addr)} {s : Shared} {S : Led → Prop} {P : Nat → Value → Prop} {Fin : List Value → Led → Prop} {news : Led} {n : Nat} {f : Nat → Value}
    (step : ∀ (i : Nat) (ys : List Value) (v : Value) (I : Nat) (oI : Obj) (C : Nat) (oC : Obj) (D : Nat) (m₂ : PySem.Str → Option Value) (h : Heap) (tk : Nat) (E' : Value → Shared → Prop), i < n → P i v → LCg.NsObj oC m₂ → m₂ x = some v → Fr h₀ L h m → News h₀ L h ((I, oI) :: (C, oC) :: (D, LCg.lst ys) :: news) → LCg.Off3 I C D news → ((@Ne Nat I C) ∧ (@Ne Nat I D) ∧ (@Ne Nat C D)) →
      wpAny (model prog w) A (eval elt (compEnvC scope cl C env)) (LCg.CompEnd h₀ L m { s with heap := h, toks := tk } I oI C oC D (LCg.lst ys) S (fun y news' => y = f i ∧ news' = news)) E' { s with heap := h, toks := tk })
    (fin : Fin ((List.range n).map f) news) : LCg.CompRest prog w A h₀ L m env elt x scope cl s S P Fin n 0 [] news := by
  have key : ∀ k i, i + k = n → LCg.CompRest prog w A h₀ L m env elt x scope cl s S P Fin k i ((List.range i).map f) news := by
    intro k
    induction k with
    | zero => intro i e; obtain rfl : i = n := by omega
              exact fin
    | succ k ih =>
      intro i e
      refine LCg.CompRest.succ fun v I oI C oC D m₂ h tk E' hv hC hx F N off ne => ?_
      refine wpAny_mono (step i _ v I oI C oC D m₂ h tk E' (by omega) hv hC hx F N off ne) (fun y s₂ q => ?_) fun _ _ e => e
      obtain ⟨h', tk', news', a, b, c, d, e1, e2, rfl⟩ := q
      refine ⟨h', tk', _, a, b, c, d, e1, ?_⟩
      have := ih (i + 1) (by omega)
      rw [List.range_succ, List.map_append] at this
      rw [e2]; exact this
  exact key n 0 (by omega)
theorem reads_bools {h : Heap} : ∀ bs : List Bool, ReadsAll h (bs.map .bool) (bs.map .bool) []
  | [] => .nil
  | b :: r => .cons (.bool b) (reads_bools r)
theorem bools_shaped {bs : List Bool} : SeqAt.shaped (.list (bs.map .bool)) = true ∧ PyData.eqv (.list (bs.map .bool)) (.list (bs.map .bool)) = true := by
  have h1 : ∀ bs : List Bool, PyData.canLayAll0 (bs.map .bool) = true := fun bs => by
    induction bs with
    | nil => rfl
    | cons b r ih => simp [PyData.canLayAll0, PyData.canLay0, ih]
  have h2 : ∀ bs : List Bool, PyData.depthAll (bs.map .bool) = 0 := fun bs => by
    induction bs with
    | nil => rfl
    | cons b r ih => simp [PyData.depthAll, PyData.depth, ih]
  have h3 : PyData.canLay0 (.list (bs.map .bool)) = true := by rw [PyData.canLay0]; exact h1 bs
  exact ⟨by rw [SeqAt.shaped, h3, Bool.true_and, PyData.depth, h2]; rfl, SeqAt.eqv_refl _ h3⟩
theorem ne_bools {w : World} {A : Around} {E : Value → Shared → Prop} {s : Shared} {Q : Value → Shared → Prop} {a b : Nat} {bs : List Bool} (ha : s.heap.IsList a (bs.map Value.bool).toArray) (hb : s.heap.IsList b (bs.map Value.bool).toArray) (hu : A.units + 64 < cLine) (h : Q (.bool false) s) : wpAny (model P0 w) A (compareOp .NotEq (.ref a) (.ref b)) Q E s := by
  obtain ⟨o, e1, e2, n, e3⟩ := ha
  obtain ⟨o', e1', e2', n', e3'⟩ := hb
  obtain ⟨h1, h2⟩ := bools_shaped (bs := bs)
  exact SeqAt.compareNe_shaped (.list e1 e2 e3 (by simpa using reads_bools bs)) (.list e1' e2' e3' (by simpa using reads_bools bs)) h1 h1 hu (by rw [h2]; exact h)

noncomputable def tv (t : Pl) : Bool := !PyData.eqv t.data (Pl.boolean 0).data
theorem tv_bool {P : Params} {vs : List Value} {bk : Nat → Nat} {h : Heap} {v : Value} {t : Pl} (x : Va P vs h v t) (B : Blks P vs bk h) (e : t.kd bk = 0) : v = .bool (tv t) := by
  have c := kd_code (c := 0) B x rfl e
  cases x <;> simp only [Pl.code] at c <;> first | (exfalso; omega) | skip
  rename_i i hi
  refine congrArg Value.bool ?_
  rw [tv, Bool.eq_iff_iff, Bool.not_eq_true', Bool.eq_false_iff, Ne, eqv_iff, Pl.boolean.injEq, decide_eq_true_eq]
  rcases hi with rfl | rfl <;> decide
theorem tv_other {bk : Nat → Nat} {t : Pl} (e : ¬ t.kd bk = 0) : tv t = true := by
  rw [tv, eqv_ne]; rfl
  intro q; rw [q] at e; exact e rfl
theorem wd_ok : (wd.all fun x => PyData.strOk x) = true := by decide +kernel
theorem num_ok : PyData.strOk (ofString "number") = true := by decide +kernel
theorem shaped_pl (t : Pl) : SeqAt.shaped t.data = true := by
  have ok : ∀ x, wd[t.code]? = some x → PyData.strOk x = true := fun x h => List.all_eq_true.mp wd_ok _ (List.mem_of_getElem? h)
  rcases data_shape t with ⟨x, hx, e⟩ | ⟨x, j, hx, e⟩ <;> rw [e] <;> simp [SeqAt.shaped, PyData.canLay0, PyData.canLayAll0, PyData.depth, PyData.depthAll, ok x hx, num_ok]
theorem ne_thing {w : World} {A : Around} {E : Value → Shared → Prop} {s : Shared} {Q : Value → Shared → Prop} {g h₀ : Heap} {L : Addr} {news : Led} {a b n : Nat} {t : Pl} {t1 t2 : Tok} (ht : ThAt g t (.ref a)) (S : g.StaysIn s.heap) (N : News h₀ L s.heap news) (hm : (b, tupO [.str (ofString "boolean") t1, .int 0 t2] n) ∈ news) (hu : A.units + 64 < cLine) (h : Q (.bool (tv t)) s) : wpAny (model P0 w) A (compareOp .NotEq (.ref a) (.ref b)) Q E s := by
  obtain ⟨as, r⟩ := (ht.stays S).reads
  have r2 : Reads s.heap (.ref b) (Pl.boolean 0).data _ := isTup_reads (vs := [.str (ofString "boolean") t1, .int 0 t2]) ⟨_, N.get hm, rfl, n, rfl⟩ (.cons (.str _ _) (.cons (.int _ _) .nil))
  exact SeqAt.compareNe_shaped r r2 (shaped_pl _) (shaped_pl _) hu h
theorem words_of {ws : Array Value} {xs : List PySem.Str} (e : ws.toList.map (fun v => match v with | .str x _ => some x | _ => none) = xs.map some) : ws.size = xs.length ∧ ∀ (i : Nat) (v : Value), ws[i]? = some v → ∃ t : Tok, v = Value.str (xs[i]?.getD (ofString "")) t := by
  refine ⟨by have := congrArg List.length e; simpa using this, fun i v hv => ?_⟩
  have hq := congrArg (fun l => l[i]?) e
  simp only [List.getElem?_map, Array.getElem?_toList, hv, Option.map_some] at hq
  cases hx : xs[i]? with
  | none => rw [hx] at hq; cases hq
  | some x =>
    rw [hx, Option.map_some] at hq
    have hq := Option.some.inj hq
    cases v with
    | str y t => exact ⟨t, congrArg (fun y => Value.str y t) (Option.some.inj hq)⟩
    | _ => cases hq
theorem lst_ans {h : Heap} {D : Nat} {k : Nat} {wd : PySem.Str} {n : Nat} (x : h.IsList D ((List.range n).map fun i => Value.bool (w13 i == wd)).toArray) (e : n = 13) (hk : words13.map (· == wd) = ansOf k) : h.IsList D ((ansOf k).map Value.bool).toArray := by
  subst e
  rw [← hk]
  exact x

theorem is_true_spec {w : World} {mean : ExcName → Option Value} {mg mb : PySem.Str → Option Value} {base : Heap} {s : Shared} {v x : Value} {t : Pl} {vs : List Value} {bk : Nat → Nat}
    (X : (K w.params).In base) (T : Top q (looseW q loose) mean mg mb base) (keep : base.StaysIn s.heap) (hva : Va w.params vs s.heap v t) (B : Blks w.params vs bk s.heap) :
    codeAny (model P0 w) (ad 850 8500) (.call (.ref 486) ⟨[x, v], []⟩) (Ret s [] fun r _ => r = .bool (tv t)) s := by
  have hv := hva.hasK (X.keeps keep) B
  refine enterN (binds := [(ofString "self", x), (ofString "value", v)]) X T keep (by rfl) (by rfl) (by decide) (BindsTo.of_eq rfl) (locs rfl) (by decide) rfl rfl rfl ?_
  intro L' h₁ tk' hL F' N' X' T'
  k_fold
  repeat' (first
    | (k_extra "isi")
    | (k_extra "def")
    | (k_extra "combo")
    | (k_unfold; (try dsimp only))
    | (k_end; wrow_close)
    | walk1
    | (dsimp only; walk1)
    | (leave1; (try dsimp only))
    | fail "no step")
  all_goals first
    | exact ret_mk (by repeat (first | exact stays_refl | with_reducible assumption | refine stays_step (by with_reducible assumption) ?_)) (by rw [tv_other (by assumption)]; first | rfl | simp [*])
    | exact ret_mk (by repeat (first | exact stays_refl | with_reducible assumption | refine stays_step (by with_reducible assumption) ?_)) (tv_bool hva B (by assumption))
    | exact ret_mk (by repeat (first | exact stays_refl | with_reducible assumption | refine stays_step (by with_reducible assumption) ?_)) (by rw [tv_other (by simp_all)]; first | rfl | simp_all)
    | exact ret_mk (by repeat (first | exact stays_refl | with_reducible assumption | refine stays_step (by with_reducible assumption) ?_)) (tv_bool hva B (by simp_all))
theorem prim_not_spec {w : World} {mean : ExcName → Option Value} {mg mb : PySem.Str → Option Value} {base : Heap} {s : Shared} {st la : Nat} {v x : Value} {t : Pl} {vs : List Value} {bk : Nat → Nat}
    (X : (K w.params).In base) (T : Top q (looseW q loose) mean mg mb base) (keep : base.StaysIn s.heap) (hS : StoreAt w.params base st) (hla : s.heap.IsList la [v].toArray) (hva : Va w.params vs s.heap v t) (B : Blks w.params vs bk s.heap) :
    codeAny (model P0 w) (ad 800 8000) (.call (.ref 836) ⟨[x, .ref st, .ref la], []⟩) (Ret s [] fun r _ => r = .bool (!tv t)) s := by
  refine StoreAt.elim (hS) ?_; intro ds n' k0 tb' dt n' k1 k2 rw' bt y0 y1 t0 t1 u0 u1 I1 I2 I3 I4 I5
  refine enterN (binds := [(ofString "world", x), (ofString "store", .ref st), (ofString "args", .ref la)]) X T keep (by rfl) (by rfl) (by decide) (BindsTo.of_eq rfl) (locs rfl) (by decide) rfl rfl rfl ?_
  intro L' h₁ tk' hL F' N' X' T'
  k_fold
  repeat' (first
    | ((with_reducible show wpAny _ _ (call (Value.ref 486) _) _ _ _); k_dflt (refine' call_spec (is_true_spec ?X ?T ?S ?hva ?B) rfl ?zd ?zu ?F ?N ?_; (case F => k_asm); (case N => k_asm); (case S => exact stays_fr (by k_asm)); (case X => k_asm); (case T => k_asm); (case hva => first | assumption | exact Va.stays (by assumption) (by repeat (first | exact stays_refl | with_reducible assumption | refine stays_step (by with_reducible assumption) ?_))); (case B => first | assumption | exact Blks.stays (by assumption) (by repeat (first | exact stays_refl | with_reducible assumption | refine stays_step (by with_reducible assumption) ?_))); (case zd => exact Nat.le_of_ble_eq_true rfl); (case zu => exact Nat.le_of_ble_eq_true rfl)); intro r' h' tk' F' N' S' p'; subst p'; (try k_sweep))
    | ((with_reducible show wpAny _ _ (subscriptTail _ _ (Value.ref _) (Value.int _ _)) _ _ _); k_dflt (refine' item_base ?hl9 ?S9 ?h9 ?z9 ?i9 ?s9 ?_; (case hl9 => assumption); (case S9 => (repeat (first | exact stays_refl | with_reducible assumption | refine stays_step (by with_reducible assumption) ?_))); (case h9 => omega); (case z9 => first | assumption | decide | exact Nat.le_of_ble_eq_true rfl); (case i9 => first | assumption | exact rfl); (case s9 => with_unfolding_all rfl)))
    | (k_extra "isi")
    | (k_extra "attr")
    | (k_extra "meth")
    | (k_extra "def")
    | (k_extra "combo")
    | (k_unfold; (try dsimp only))
    | (k_end; wrow_close)
    | walk1
    | (dsimp only; walk1)
    | (leave1; (try dsimp only))
    | fail "no step")
  all_goals exact ret_mk (by repeat (first | exact stays_refl | with_reducible assumption | refine stays_step (by with_reducible assumption) ?_)) rfl
theorem prim_bool_spec {w : World} {mean : ExcName → Option Value} {mg mb : PySem.Str → Option Value} {base : Heap} {s : Shared} {st la : Nat} {v x : Value} {k : Nat}
    (X : (K w.params).In base) (T : Top q (looseW q loose) mean mg mb base) (keep : base.StaysIn s.heap) (hS : StoreAt w.params base st) (hla : s.heap.IsList la [v].toArray) (hv : HasK w.params s.heap v k) :
    codeAny (model P0 w) (ad 800 8000) (.call (.ref 829) ⟨[x, .ref st, .ref la], []⟩) (Ret s [] fun r _ => r = .bool (decide (k = 0))) s := by
  refine StoreAt.elim (hS) ?_; intro ds n' k0 tb' dt n' k1 k2 rw' bt y0 y1 t0 t1 u0 u1 I1 I2 I3 I4 I5
  refine enterN (binds := [(ofString "world", x), (ofString "store", .ref st), (ofString "args", .ref la)]) X T keep (by rfl) (by rfl) (by decide) (BindsTo.of_eq rfl) (locs rfl) (by decide) rfl rfl rfl ?_
  intro L' h₁ tk' hL F' N' X' T'
  k_fold
  repeat' (first
    | ((with_reducible show wpAny _ _ (subscriptTail _ _ (Value.ref _) (Value.int _ _)) _ _ _); k_dflt (refine' item_base ?hl9 ?S9 ?h9 ?z9 ?i9 ?s9 ?_; (case hl9 => assumption); (case S9 => (repeat (first | exact stays_refl | with_reducible assumption | refine stays_step (by with_reducible assumption) ?_))); (case h9 => omega); (case z9 => first | assumption | decide | exact Nat.le_of_ble_eq_true rfl); (case i9 => first | assumption | exact rfl); (case s9 => with_unfolding_all rfl)))
    | (k_extra "isi")
    | (k_extra "attr")
    | (k_extra "meth")
    | (k_extra "def")
    | (k_extra "combo")
    | (k_unfold; (try dsimp only))
    | (k_end; wrow_close)
    | walk1
    | (dsimp only; walk1)
    | (leave1; (try dsimp only))
    | fail "no step")
  all_goals exact ret_mk (by repeat (first | exact stays_refl | with_reducible assumption | refine stays_step (by with_reducible assumption) ?_)) rfl

theorem kw_bool {wd : PySem.Str} {k : Nat} (h : words13.map (· == wd) = ansOf k) : (decide (k = 0) == (wd == ofString "boolean")) = true := by
  have h := congrArg List.head? h
  simp only [words13, ansOf, List.map_cons, List.head?_cons, Option.some.injEq] at h
  rw [← h, beq_iff_eq, Bool.eq_iff_iff, beq_iff_eq, beq_iff_eq]
  exact ⟨Eq.symm, Eq.symm⟩
theorem ik_tail {w : World} {mean : ExcName → Option Value} {mg mb : PySem.Str → Option Value} {g : Heap} {s : Shared} {E : Value → Shared → Prop} {Q : Flow → Shared → Prop} {st bl ta D l1 L n : Nat} {q1 q2 : Addr × Obj} {oc : Obj} {ws : Array Value} {v : Value} {t : Pl} {vs : List Value} {bk : Nat → Nat} {wd : PySem.Str} {k : Tok}
    (X : (K w.params).In g) (T : Top q (looseW q loose) mean mg mb g) (hS : StoreAt w.params g st) (hth : ThAt g t (.ref ta)) (hva : Va w.params vs g v t) (B : Blks w.params vs bk g) (F : Fr g L s.heap (fun y => if y = ofString "words" then some (.ref D) else if y = ofString "words" then some (.ref l1) else bindL (envOfC (ofString "_law_is_kind") (sScope (stm 50)) L 893 (.ref 892)).kindOf [(ofString "store", Value.ref st), (ofString "blocks", Value.ref bl), (ofString "thing", Value.ref ta), (ofString "value", v)] (fun _ => none) y)) (N : News g L s.heap [(D, listOf ws n), q1, q2, (L + 1, oc)]) (hoc : oc.data = .cell (some (.str wd k)))
    (hwe : ws.toList.map (fun v => match v with | .str x _ => some x | _ => none) = words13.map some) (hkw : words13.map (· == wd) = ansOf (t.kd bk)) (hQ : ∀ h' tk, g.StaysIn h' → Q (.ret (.bool true)) { s with heap := h', toks := tk }) :
    wpAny (model P0 w) ((ad 700 7000).deeper (envOfC (ofString "_law_is_kind") (sScope (stm 50)) L 893 (.ref 892))) (execs ((sBody (stm 50)).drop 3) (envOfC (ofString "_law_is_kind") (sScope (stm 50)) L 893 (.ref 892))) Q E s := by
  obtain ⟨hws, hw⟩ := words_of hwe
  have hws : ws.size = 13 := hws
  have hv := hva.hasK X B
  have hS' := hS
  refine StoreAt.elim (hS') ?_; intro ds n' k0 tb' dt n' k1 k2 rw' bt y0 y1 t0 t1 u0 u1 I1 I2 I3 I4 I5
  (try k_fold)
  repeat' (first
    | ((with_reducible show wpAny _ _ (compareOp CmpOp.NotEq (Value.ref ta) (Value.ref _)) _ _ _); k_dflt (refine' ne_thing hth ?z1 ?z2 ?z3 ?z4 ?_; (case z1 => (repeat (first | exact stays_refl | with_reducible assumption | refine stays_step (by with_reducible assumption) ?_))); (case z2 => k_asm); (case z3 => k_mem); (case z4 => ke_room)))
    | ((with_reducible show wpAny _ _ (compareOp CmpOp.NotEq (Value.ref _) (Value.ref _)) _ _ _); k_dflt (refine' ne_bools (bs := ansOf (t.kd bk)) ?z1 ?z3 ?z4 ?_; (case z1 => exact News.isList (by k_asm) (by k_mem)); (case z3 => exact lst_ans (News.isList (by k_asm) (by k_mem)) hws hkw); (case z4 => ke_room)))
    | ((with_reducible show wpAny _ _ (eval (Expr.ListComp _ _ _ _) _) _ _ _); k_dflt (refine LCg.ListComp_U (F₀ := by k_asm) (by with_unfolding_all rfl) (by decide) (by rfl) (by decide) (by rfl) ?_))
    | ((with_reducible show wpAny _ _ (exec (Stmt.Assign [Expr.Name _ _] (Expr.ListComp _ _ _ _) _) _) _ _ _); k_dflt (refine LCg.Assign_ListComp_U (F₀ := by k_asm) (by rfl) (by with_unfolding_all rfl) (by with_unfolding_all rfl) (by decide) (by rfl) (by decide) (by rfl) (by rfl) (by rfl) ?_))
    | ((with_reducible show LCg.FinE _ _ _ _ _ _ _); (unfold LCg.FinE); intro D' h' tk' F' N' o1'; replace o1' := off_one o1'; (try simp only [List.nil_append, List.cons_append] at N'); (try dsimp only))
    | ((with_reducible show LCg.FinA _ _ _ _ _ _ _ _); (unfold LCg.FinA); intro D' h' tk' F' N' o1'; replace o1' := off_one o1'; (try simp only [List.nil_append, List.cons_append] at N'); (try dsimp only))
    | ((with_reducible show LCg.CompSrc _ _ _ _ _ _ _ _ _ _ _ _ _ _); k_dflt (refine' LCg.CompSrc.ledger ?y1 ?y2 ?y3 ?y4 ?y5 ?_; (case y1 => rfl); (case y2 => k_asm); (case y3 => k_asm); (case y4 => k_mem); (case y5 => (rw [hws]; decide))); intro g'; refine rest_ind (f := fun i => .bool ((w13 i) == wd)) ?st ?fin)
    | ((with_reducible show ∀ _ _ _ _ _ _ _ _ _ _ _ _, _ < _ → _); intro i' ys' v' I' oI' C' oC' D' m' h' tk' E' hi' hv' hC' hx' F' N' off' ne'; (obtain ⟨t9', hv9'⟩ := hw i' v' hv'); subst hv9'; clear hv'; (obtain ⟨offI', offC', offD'⟩ := off_all (oC := oI') (oD := oI') off' ne'); clear off' ne'; (try dsimp only))
    | ((with_reducible show LCg.CompEnd _ _ _ _ _ _ _ _ _ _ _ _ _ _); exact comp_end0 F' N' (offr2 offI' rfl) (offr1 offC' rfl) (offr0 offD' rfl) (.inr ⟨listOf ws n, by k_mem, rfl, n, rfl⟩) ⟨rfl, rfl⟩)
    | ((with_reducible show wpAny _ _ (call (Value.ref 888) _) _ _ _); k_dflt (refine' call_new (answers_spec (base := g) ?X ?T ?S ?hS ?hv) rfl ?zd ?zu ?F ?N ?_; (case F => k_asm); (case N => k_asm); (case S => exact stays_fr (by k_asm)); (case X => k_asm); (case T => k_asm); (case hS => exact hS); (case hv => first | assumption | exact HasK.keeps (by assumption) (by repeat (first | exact stays_refl | with_reducible assumption | refine stays_step (by with_reducible assumption) ?_))); (case zd => exact Nat.le_of_ble_eq_true rfl); (case zu => exact Nat.le_of_ble_eq_true rfl)); intro a' o' h' tk' F' N' na' p'; (obtain ⟨n9', e9'⟩ := p'); subst e9'; (try k_sweep))
    | ((with_reducible show wpAny _ _ (call (Value.ref 486) _) _ _ _); k_dflt (refine' call_spec (is_true_spec ?X ?T ?S ?hva ?B) rfl ?zd ?zu ?F ?N ?_; (case F => k_asm); (case N => k_asm); (case S => exact stays_fr (by k_asm)); (case X => k_asm); (case T => k_asm); (case hva => first | assumption | exact Va.stays (by assumption) (by repeat (first | exact stays_refl | with_reducible assumption | refine stays_step (by with_reducible assumption) ?_))); (case B => first | assumption | exact Blks.stays (by assumption) (by repeat (first | exact stays_refl | with_reducible assumption | refine stays_step (by with_reducible assumption) ?_))); (case zd => exact Nat.le_of_ble_eq_true rfl); (case zu => exact Nat.le_of_ble_eq_true rfl)); intro r' h' tk' F' N' S' p'; subst p'; (try k_sweep))
    | ((with_reducible show wpAny _ _ (call (Value.ref 836) _) _ _ _); k_dflt (refine' call_spec (prim_not_spec ?X ?T ?S ?hS ?hla ?hva ?B) rfl ?zd ?zu ?F ?N ?_; (case F => k_asm); (case N => k_asm); (case S => exact stays_fr (by k_asm)); (case X => k_asm); (case T => k_asm); (case hS => exact hS); (case hla => exact News.isList (by k_asm) (by k_mem)); (case hva => first | assumption | exact Va.stays (by assumption) (by repeat (first | exact stays_refl | with_reducible assumption | refine stays_step (by with_reducible assumption) ?_))); (case B => first | assumption | exact Blks.stays (by assumption) (by repeat (first | exact stays_refl | with_reducible assumption | refine stays_step (by with_reducible assumption) ?_))); (case zd => exact Nat.le_of_ble_eq_true rfl); (case zu => exact Nat.le_of_ble_eq_true rfl)); intro r' h' tk' F' N' S' p'; subst p'; (try k_sweep))
    | ((with_reducible show wpAny _ _ (call (Value.ref 829) _) _ _ _); k_dflt (refine' call_spec (prim_bool_spec ?X ?T ?S ?hS ?hla ?hv) rfl ?zd ?zu ?F ?N ?_; (case F => k_asm); (case N => k_asm); (case S => exact stays_fr (by k_asm)); (case X => k_asm); (case T => k_asm); (case hS => exact hS); (case hla => exact News.isList (by k_asm) (by k_mem)); (case hv => first | assumption | exact HasK.keeps (by assumption) (by repeat (first | exact stays_refl | with_reducible assumption | refine stays_step (by with_reducible assumption) ?_))); (case zd => exact Nat.le_of_ble_eq_true rfl); (case zu => exact Nat.le_of_ble_eq_true rfl)); intro r' h' tk' F' N' S' p'; subst p'; (try k_sweep))
    | (k_extra "attr")
    | (k_extra "meth")
    | (k_extra "combo")
    | (k_unfold; (try dsimp only))
    | (k_end; wrow_close)
    | walk1
    | (dsimp only; walk1)
    | (leave1; (try dsimp only))
    | fail "no step")
  all_goals (try k_unfold)
  all_goals first
    | exact absurd (by assumption : (tv t != tv t) = true) (by cases tv t <;> decide)
    | exact absurd (by assumption : ((!tv t) == tv t) = true) (by cases tv t <;> decide)
    | (rw [kw_bool hkw]; exact hQ _ _ (by repeat (first | exact stays_refl | with_reducible assumption | refine stays_step (by with_reducible assumption) ?_)))
theorem ik_block {w : World} {mean : ExcName → Option Value} {mg mb : PySem.Str → Option Value} {base : Heap} {s : Shared} {st bl ta e p : Nat} {es : List Value} {i : Int} {k k2 k3 : Tok} {v : Value} {wd : PySem.Str} {t : Pl} {vs : List Value} {bk : Nat → Nat}
    (X : (K w.params).In base) (T : Top q (looseW q loose) mean mg mb base) (keep : base.StaysIn s.heap) (hS : StoreAt w.params s.heap st) (hb : s.heap.IsList bl es.toArray) (hth : ThAt s.heap t (.ref ta)) (hva : Va w.params vs s.heap v t) (B : Blks w.params vs bk s.heap)
    (hT : IsTup s.heap ta #[.str (ofString "block") k, .int i k2]) (hi0 : 0 ≤ i) (hz : es.length ≤ 64) (hi : es[i.toNat]? = some (.ref e)) (he : s.heap.IsList e [Value.str wd k3, .ref p].toArray) (hkw : words13.map (· == wd) = ansOf (t.kd bk)) :
    codeAny (model P0 w) (ad 700 7000) (.call (.ref 893) ⟨[.ref st, .ref bl, .ref ta, v], []⟩) (Ret s [] fun r _ => r = .bool true) s := by
  have hS' := hS
  refine StoreAt.elim (hS') ?_; intro ds n' k0 tb' dt n' k1 k2 rw' bt y0 y1 t0 t1 u0 u1 I1 I2 I3 I4 I5
  refine enterCN (binds := [(ofString "store", .ref st), (ofString "blocks", .ref bl), (ofString "thing", .ref ta), (ofString "value", v)]) X T keep (by rfl) (by rfl) (by decide) (BindsTo.of_eq rfl) (by rfl) (by decide +kernel) rfl rfl rfl ?_
  intro L' h₁ tk' cells' hL F' N' Y' X' T'
  k_cells Y'
  (try simp only [List.cons_append, List.nil_append] at N')
  with_reducible show wpAny _ _ _ _ _ _

  k_fold
  repeat' (first
    | ((with_reducible show wpAny _ _ (execs [Stmt.If _ _ _ _, Stmt.Assign _ _ _, Stmt.If _ _ _ _, Stmt.Return _ _] _) _ _ _); k_dflt (refine' ik_tail ?x1 ?x2 hS hth hva B ?x3 ?x4 ?x5 ?x6 hkw ?x7; (case x1 => k_asm); (case x2 => k_asm); (case x3 => k_asm); (case x4 => k_asm); (case x5 => with_reducible assumption); (case x6 => exact rfl)); exact fun h' tk S' => ret_mk S' rfl)
    | ((with_reducible show wpAny _ _ (subscriptTail _ _ (Value.ref _) (Value.int _ _)) _ _ _); k_dflt (refine' item_base ?hl9 ?S9 ?h9 ?z9 ?i9 ?s9 ?_; (case hl9 => assumption); (case S9 => (repeat (first | exact stays_refl | with_reducible assumption | refine stays_step (by with_reducible assumption) ?_))); (case h9 => omega); (case z9 => first | assumption | decide | exact Nat.le_of_ble_eq_true rfl); (case i9 => first | assumption | exact rfl); (case s9 => with_unfolding_all rfl)))
    | (k_extra "attr")
    | (k_extra "meth")
    | (k_extra "combo")
    | (k_unfold; (try dsimp only))
    | (k_end; wrow_close)
    | walk1
    | (dsimp only; walk1)
    | (leave1; (try dsimp only))
    | fail "no step")

theorem ik_plain {w : World} {mean : ExcName → Option Value} {mg mb : PySem.Str → Option Value} {base : Heap} {s : Shared} {st bl ta : Nat} {es : List Value} {k : Tok} {v what : Value} {wd : PySem.Str} {t : Pl} {vs : List Value} {bk : Nat → Nat}
    (X : (K w.params).In base) (T : Top q (looseW q loose) mean mg mb base) (keep : base.StaysIn s.heap) (hS : StoreAt w.params s.heap st) (hb : s.heap.IsList bl es.toArray) (hth : ThAt s.heap t (.ref ta)) (hva : Va w.params vs s.heap v t) (B : Blks w.params vs bk s.heap)
    (hT : IsTup s.heap ta #[.str wd k, what]) (hx : (wd == ofString "block") = false) (hkw : words13.map (· == wd) = ansOf (t.kd bk)) :
    codeAny (model P0 w) (ad 700 7000) (.call (.ref 893) ⟨[.ref st, .ref bl, .ref ta, v], []⟩) (Ret s [] fun r _ => r = .bool true) s := by
  have hS' := hS
  refine StoreAt.elim (hS') ?_; intro ds n' k0 tb' dt n' k1 k2 rw' bt y0 y1 t0 t1 u0 u1 I1 I2 I3 I4 I5
  refine enterCN (binds := [(ofString "store", .ref st), (ofString "blocks", .ref bl), (ofString "thing", .ref ta), (ofString "value", v)]) X T keep (by rfl) (by rfl) (by decide) (BindsTo.of_eq rfl) (by rfl) (by decide +kernel) rfl rfl rfl ?_
  intro L' h₁ tk' cells' hL F' N' Y' X' T'
  k_cells Y'
  (try simp only [List.cons_append, List.nil_append] at N')
  with_reducible show wpAny _ _ _ _ _ _

  k_fold
  repeat' (first
    | ((with_reducible show wpAny _ _ (execs [Stmt.If _ _ _ _, Stmt.Assign _ _ _, Stmt.If _ _ _ _, Stmt.Return _ _] _) _ _ _); k_dflt (refine' ik_tail ?x1 ?x2 hS hth hva B ?x3 ?x4 ?x5 ?x6 hkw ?x7; (case x1 => k_asm); (case x2 => k_asm); (case x3 => k_asm); (case x4 => k_asm); (case x5 => with_reducible assumption); (case x6 => exact rfl)); exact fun h' tk S' => ret_mk S' rfl)
    | ((with_reducible show wpAny _ _ (subscriptTail _ _ (Value.ref _) (Value.int _ _)) _ _ _); k_dflt (refine' item_base ?hl9 ?S9 ?h9 ?z9 ?i9 ?s9 ?_; (case hl9 => assumption); (case S9 => (repeat (first | exact stays_refl | with_reducible assumption | refine stays_step (by with_reducible assumption) ?_))); (case h9 => omega); (case z9 => first | assumption | decide | exact Nat.le_of_ble_eq_true rfl); (case i9 => first | assumption | exact rfl); (case s9 => with_unfolding_all rfl)))
    | (k_extra "attr")
    | (k_extra "meth")
    | (k_extra "combo")
    | (k_unfold; (try dsimp only))
    | (k_end; wrow_close)
    | walk1
    | (dsimp only; walk1)
    | (leave1; (try dsimp only))
    | fail "no step")

theorem kw_tab : ∀ c < 12, c ∉ [1, 2, 3] → ∀ x, wd[c]? = some x → (x == ofString "block") = false ∧ words13.map (· == x) = ansOf (kdc[c]?.getD 0) := by
  have : ((List.range 12).all fun c => c == 1 || c == 2 || c == 3 || (match wd[c]? with | some x => !(x == ofString "block") && words13.map (· == x) == ansOf (kdc[c]?.getD 0) | none => true)) = true := by decide +kernel
  intro c hc hn x hx
  have h := List.all_eq_true.mp this c (List.mem_range.mpr hc)
  rw [hx] at h
  simp only [List.mem_cons, List.not_mem_nil, or_false, not_or] at hn
  simp only [Bool.or_eq_true, beq_iff_eq, hn.1, hn.2.1, hn.2.2, false_or, Bool.and_eq_true, Bool.not_eq_true'] at h
  exact h
theorem kw_num : (ofString "number" == ofString "block") = false ∧ ∀ k ∈ [1, 342, 370], words13.map (· == ofString "number") = ansOf k := by
  constructor
  · decide +kernel
  · have : ([1, 342, 370].all fun k => words13.map (· == ofString "number") == ansOf k) = true := by decide +kernel
    exact fun k hk => beq_iff_eq.mp (List.all_eq_true.mp this k hk)
theorem kw_of {bk : Nat → Nat} {h : Heap} {t : Pl} {x : PySem.Str} {what : Value} (e : Wh h t x what) (hn : t.code ≠ 12) : (x == ofString "block") = false ∧ words13.map (· == x) = ansOf (t.kd bk) := by
  rcases kd_shape bk t with ⟨l, hk⟩ | ⟨i, rfl⟩
  · cases e with
    | one k a b =>
      have := kw_tab _ l a x b
      rwa [hk] at this
    | num a b c d =>
      refine ⟨kw_num.1, kw_num.2 _ ?_⟩
      cases t <;> simp [Pl.code] at a <;> simp [Pl.kd]
  · exact absurd rfl hn
theorem is_kind_spec {w : World} {mean : ExcName → Option Value} {mg mb : PySem.Str → Option Value} {base : Heap} {s : Shared} {st bl ta : Nat} {es : List Value} {v : Value} {t : Pl} {vs : List Value} {bk : Nat → Nat}
    (X : (K w.params).In base) (T : Top q (looseW q loose) mean mg mb base) (keep : base.StaysIn s.heap) (hS : StoreAt w.params s.heap st) (hb : s.heap.IsList bl es.toArray) (hth : ThAt s.heap t (.ref ta)) (hva : Va w.params vs s.heap v t) (B : Blks w.params vs bk s.heap) (hz : es.length ≤ 64)
    (hblk : ∀ i : Nat, t = .block i → ∃ (e p : Nat) (wd : PySem.Str) (k : Tok), es[i]? = some (.ref e) ∧ s.heap.IsList e #[.str wd k, .ref p] ∧ words13.map (· == wd) = ansOf (bk i)) :
    codeAny (model P0 w) (ad 700 7000) (.call (.ref 893) ⟨[.ref st, .ref bl, .ref ta, v], []⟩) (Ret s [] fun r _ => r = .bool true) s := by
  obtain ⟨a, x, k, what, e, hT, hW⟩ := id hth
  obtain rfl : ta = a := Value.ref.inj e
  by_cases hc : t.code = 12
  · cases t <;> first | (simp [Pl.code] at hc; done) | skip
    rename_i i
    obtain ⟨e, p, wd, k', h1, h2, h3⟩ := hblk i rfl
    cases hW with
    | one k2 a b =>
      cases b
      exact ik_block X T keep hS hb hth hva B hT (Int.natCast_nonneg i) hz h1 h2 h3
    | num a => exact absurd a (by simp [Pl.code])
  · obtain ⟨h1, h2⟩ := kw_of (bk := bk) hW hc
    exact ik_plain X T keep hS hb hth hva B hT h1 h2
theorem len_two {w : World} {A : Around} {E : Value → Shared → Prop} {s : Shared} {Q : Value → Shared → Prop} {g : Heap} {bl : Nat} {v1 v2 : Value} (hl : g.IsList bl [v1, v2].toArray) (S : g.StaysIn s.heap) (h : ∀ tk tk', Q (.int 2 tk) { s with toks := tk' }) : wpAny (model P0 w) A (call (.builtin "len") [.ref bl]) Q E s :=
  len_any hl S (by simp) h

theorem num_real {w : World} {mean : ExcName → Option Value} {mg mb : PySem.Str → Option Value} {base : Heap} {s : Shared} {x : Nat} {i : Int} {k k9 : Tok}
    (X : (K w.params).In base) (T : Top q (looseW q loose) mean mg mb base) (keep : base.StaysIn s.heap) (I : Inst2 w.params s.heap x 342 (ofString "mantissa") (.int i k) (ofString "exponent") (.int 0 k9)) :
    codeAny (model P0 w) (ad 850 8500) (.call (.ref 900) ⟨[.ref x], []⟩) (Ret s [] fun r h' => ∃ a o, r = .ref a ∧ s.heap.get? a = none ∧ h'.get? a = some o ∧ ∃ (n : Nat) (k1 k2 k3 : Tok), o = tupO [.str (ofString "real") k1, .int i k2, .int 0 k3] n) s := by
  have hk := I.hasK (X.keeps keep) (by decide)
  obtain ⟨dx, nx, z1, z2, I⟩ := I
  refine enterN (binds := [(ofString "number", .ref x)]) X T keep (by rfl) (by rfl) (by decide) (BindsTo.of_eq rfl) (locs rfl) (by decide) rfl rfl rfl ?_
  intro L' h₁ tk' hL F' N' X' T'
  k_fold
  repeat' (first
    | (k_extra "isi")
    | (k_extra "attr")
    | (k_extra "combo")
    | (k_unfold; (try dsimp only))
    | (k_end; wrow_close)
    | walk1
    | (dsimp only; walk1)
    | (leave1; (try dsimp only))
    | fail "no step")
  all_goals exact ret_mk (by repeat (first | exact stays_refl | with_reducible assumption | refine stays_step (by with_reducible assumption) ?_)) ⟨_, _, rfl, News.fresh (by k_asm) (by k_mem), News.get (by k_asm) (by k_mem), _, _, _, _, rfl⟩

theorem num_whole {w : World} {mean : ExcName → Option Value} {mg mb : PySem.Str → Option Value} {base : Heap} {s : Shared} {x : Nat} {i : Int} {k k9 : Tok}
    (X : (K w.params).In base) (T : Top q (looseW q loose) mean mg mb base) (keep : base.StaysIn s.heap)  :
    codeAny (model P0 w) (ad 850 8500) (.call (.ref 900) ⟨[.int i k], []⟩) (Ret s [] fun r h' => ∃ a o, r = .ref a ∧ s.heap.get? a = none ∧ h'.get? a = some o ∧ ∃ (n : Nat) (k1 k2 k3 : Tok), o = tupO [.str (ofString "whole") k1, .int i k2, .int 1 k3] n) s := by
  have hk := hasK_int (P := w.params) (h := s.heap) (i := i) (t := k)
  refine enterN (binds := [(ofString "number", .int i k)]) X T keep (by rfl) (by rfl) (by decide) (BindsTo.of_eq rfl) (locs rfl) (by decide) rfl rfl rfl ?_
  intro L' h₁ tk' hL F' N' X' T'
  k_fold
  repeat' (first
    | (k_extra "isi")
    | (k_extra "attr")
    | (k_extra "combo")
    | (k_unfold; (try dsimp only))
    | (k_end; wrow_close)
    | walk1
    | (dsimp only; walk1)
    | (leave1; (try dsimp only))
    | fail "no step")
  all_goals exact ret_mk (by repeat (first | exact stays_refl | with_reducible assumption | refine stays_step (by with_reducible assumption) ?_)) ⟨_, _, rfl, News.fresh (by k_asm) (by k_mem), News.get (by k_asm) (by k_mem), _, _, _, _, rfl⟩

theorem num_ratio {w : World} {mean : ExcName → Option Value} {mg mb : PySem.Str → Option Value} {base : Heap} {s : Shared} {x : Nat} {i : Int} {k k9 : Tok}
    (X : (K w.params).In base) (T : Top q (looseW q loose) mean mg mb base) (keep : base.StaysIn s.heap) (I : Inst2 w.params s.heap x 370 (ofString "top") (.int i k) (ofString "bottom") (.int 2 k9)) :
    codeAny (model P0 w) (ad 850 8500) (.call (.ref 900) ⟨[.ref x], []⟩) (Ret s [] fun r h' => ∃ a o, r = .ref a ∧ s.heap.get? a = none ∧ h'.get? a = some o ∧ ∃ (n : Nat) (k1 k2 k3 : Tok), o = tupO [.str (ofString "ratio") k1, .int i k2, .int 2 k3] n) s := by
  have hk := I.hasK (X.keeps keep) (by decide)
  obtain ⟨dx, nx, z1, z2, I⟩ := I
  refine enterN (binds := [(ofString "number", .ref x)]) X T keep (by rfl) (by rfl) (by decide) (BindsTo.of_eq rfl) (locs rfl) (by decide) rfl rfl rfl ?_
  intro L' h₁ tk' hL F' N' X' T'
  k_fold
  repeat' (first
    | (k_extra "isi")
    | (k_extra "attr")
    | (k_extra "combo")
    | (k_unfold; (try dsimp only))
    | (k_end; wrow_close)
    | walk1
    | (dsimp only; walk1)
    | (leave1; (try dsimp only))
    | fail "no step")
  all_goals exact ret_mk (by repeat (first | exact stays_refl | with_reducible assumption | refine stays_step (by with_reducible assumption) ?_)) ⟨_, _, rfl, News.fresh (by k_asm) (by k_mem), News.get (by k_asm) (by k_mem), _, _, _, _, rfl⟩

theorem parts_pair {w : World} {mean : ExcName → Option Value} {mg mb : PySem.Str → Option Value} {base : Heap} {s : Shared} {st x m : Nat} {v1 v2 : Value} {k t1 t2 : Tok} {d : Bool} {n : Nat}
    (X : (K w.params).In base) (T : Top q (looseW q loose) mean mg mb base) (keep : base.StaysIn s.heap) (hS : StoreAt w.params base st) (hv1 : handedIn v1 = true) (hv2 : handedIn v2 = true) (hi : s.heap.get? x = some (instObj 155 m)) (hm : s.heap.get? m = some (dictOf [en w.params (ofString "car") t1 v1, en w.params (ofString "cdr") t2 v2] 2)) :
    codeAny (model P0 w) (ad 850 8500) (.call (.ref 905) ⟨[.ref st, .str (ofString "pair") k, .ref x], []⟩) (Ret s [] fun r h' => ∃ a o, r = .ref a ∧ s.heap.get? a = none ∧ h'.get? a = some o ∧ ∃ n, o = listOf #[v1, v2] n) s := by
  refine StoreAt.elim (hS) ?_; intro ds n' k0 tb' dt n' k1 k2 rw' bt y0 y1 t0 t1 u0 u1 I1 I2 I3 I4 I5
  have I := inst_get hi hm
  refine enterCN (binds := [(ofString "store", .ref st), (ofString "word", .str (ofString "pair") k), (ofString "value", .ref x)]) X T keep (by rfl) (by rfl) (by decide) (BindsTo.of_eq rfl) (by rfl) (by decide +kernel) rfl rfl rfl ?_
  intro L' h₁ tk' cells' hL F' N' Y' X' T'
  k_cells Y'
  (try simp only [List.cons_append, List.nil_append] at N')
  with_reducible show wpAny _ _ _ _ _ _

  k_fold
  repeat' (first
    | ((with_reducible show wpAny _ _ (call (Value.builtin "len") [Value.ref _]) _ _ _); k_dflt (refine' len_two (g := s.heap) ?hl9 ?S9 ?_; (case hl9 => exact hl); (case S9 => (repeat (first | exact stays_refl | with_reducible assumption | refine stays_step (by with_reducible assumption) ?_)))); intro tk9 tk9')
    | ((with_reducible show wpAny _ _ (subscriptTail _ _ (Value.ref _) (Value.int _ _)) _ _ _); k_dflt (refine' item_base ?hl9 ?S9 ?h9 ?z9 ?i9 ?s9 ?_; (case hl9 => assumption); (case S9 => (repeat (first | exact stays_refl | with_reducible assumption | refine stays_step (by with_reducible assumption) ?_))); (case h9 => omega); (case z9 => first | assumption | decide | exact Nat.le_of_ble_eq_true rfl); (case i9 => first | assumption | exact rfl); (case s9 => with_unfolding_all rfl)))
    | ((with_reducible show wpAny _ _ (getAttr (Value.ref _) _ _) _ _ _); k_dflt (refine' get_own ?k1 ?k2 ?k3 ?k4 ?k5 ?k6 ?k7 ?k8 ?k9 ?_; (case k1 => k_asm); (case k2 => k_asm); (case k3 => (refine instAt_stays (by with_reducible assumption) ?_; (repeat (first | exact stays_refl | with_reducible assumption | refine stays_step (by with_reducible assumption) ?_)))); (case k4 => k_is); (case k5 => k_is); (case k6 => k_is); (case k7 => k_is); (case k8 => k_get); (case k9 => first | with_reducible assumption | k_handed); k_whole))
    | (k_extra "meth")
    | (k_extra "def")
    | (k_extra "combo")
    | (k_unfold; (try dsimp only))
    | (k_end; wrow_close)
    | walk1
    | (dsimp only; walk1)
    | (leave1; (try dsimp only))
    | fail "no step")
  all_goals (try k_unfold)
  all_goals (try dsimp only)
  all_goals exact ret_mk (by repeat (first | exact stays_refl | with_reducible assumption | refine stays_step (by with_reducible assumption) ?_)) ⟨_, _, rfl, News.fresh (by k_asm) (by k_mem), News.get (by k_asm) (by k_mem), _, rfl⟩

theorem parts_box {w : World} {mean : ExcName → Option Value} {mg mb : PySem.Str → Option Value} {base : Heap} {s : Shared} {st x m : Nat} {v1 v2 : Value} {k t1 t2 : Tok} {d : Bool} {n : Nat}
    (X : (K w.params).In base) (T : Top q (looseW q loose) mean mg mb base) (keep : base.StaysIn s.heap) (hS : StoreAt w.params base st) (hv1 : handedIn v1 = true) (hv2 : handedIn v2 = true) (hi : s.heap.get? x = some (instObj 239 m)) (hm : s.heap.get? m = some (dictOf [en w.params (ofString "content") t1 v1] 1)) :
    codeAny (model P0 w) (ad 850 8500) (.call (.ref 905) ⟨[.ref st, .str (ofString "box") k, .ref x], []⟩) (Ret s [] fun r h' => ∃ a o, r = .ref a ∧ s.heap.get? a = none ∧ h'.get? a = some o ∧ ∃ n, o = listOf #[v1] n) s := by
  refine StoreAt.elim (hS) ?_; intro ds n' k0 tb' dt n' k1 k2 rw' bt y0 y1 t0 t1 u0 u1 I1 I2 I3 I4 I5
  have I := inst_get hi hm
  refine enterCN (binds := [(ofString "store", .ref st), (ofString "word", .str (ofString "box") k), (ofString "value", .ref x)]) X T keep (by rfl) (by rfl) (by decide) (BindsTo.of_eq rfl) (by rfl) (by decide +kernel) rfl rfl rfl ?_
  intro L' h₁ tk' cells' hL F' N' Y' X' T'
  k_cells Y'
  (try simp only [List.cons_append, List.nil_append] at N')
  with_reducible show wpAny _ _ _ _ _ _

  k_fold
  repeat' (first
    | ((with_reducible show wpAny _ _ (call (Value.builtin "len") [Value.ref _]) _ _ _); k_dflt (refine' len_two (g := s.heap) ?hl9 ?S9 ?_; (case hl9 => exact hl); (case S9 => (repeat (first | exact stays_refl | with_reducible assumption | refine stays_step (by with_reducible assumption) ?_)))); intro tk9 tk9')
    | ((with_reducible show wpAny _ _ (subscriptTail _ _ (Value.ref _) (Value.int _ _)) _ _ _); k_dflt (refine' item_base ?hl9 ?S9 ?h9 ?z9 ?i9 ?s9 ?_; (case hl9 => assumption); (case S9 => (repeat (first | exact stays_refl | with_reducible assumption | refine stays_step (by with_reducible assumption) ?_))); (case h9 => omega); (case z9 => first | assumption | decide | exact Nat.le_of_ble_eq_true rfl); (case i9 => first | assumption | exact rfl); (case s9 => with_unfolding_all rfl)))
    | ((with_reducible show wpAny _ _ (getAttr (Value.ref _) _ _) _ _ _); k_dflt (refine' get_own ?k1 ?k2 ?k3 ?k4 ?k5 ?k6 ?k7 ?k8 ?k9 ?_; (case k1 => k_asm); (case k2 => k_asm); (case k3 => (refine instAt_stays (by with_reducible assumption) ?_; (repeat (first | exact stays_refl | with_reducible assumption | refine stays_step (by with_reducible assumption) ?_)))); (case k4 => k_is); (case k5 => k_is); (case k6 => k_is); (case k7 => k_is); (case k8 => k_get); (case k9 => first | with_reducible assumption | k_handed); k_whole))
    | (k_extra "meth")
    | (k_extra "def")
    | (k_extra "combo")
    | (k_unfold; (try dsimp only))
    | (k_end; wrow_close)
    | walk1
    | (dsimp only; walk1)
    | (leave1; (try dsimp only))
    | fail "no step")
  all_goals (try k_unfold)
  all_goals (try dsimp only)
  all_goals exact ret_mk (by repeat (first | exact stays_refl | with_reducible assumption | refine stays_step (by with_reducible assumption) ?_)) ⟨_, _, rfl, News.fresh (by k_asm) (by k_mem), News.get (by k_asm) (by k_mem), _, rfl⟩

theorem parts_promise {w : World} {mean : ExcName → Option Value} {mg mb : PySem.Str → Option Value} {base : Heap} {s : Shared} {st x m : Nat} {v1 v2 : Value} {k t1 t2 : Tok} {d : Bool} {n : Nat}
    (X : (K w.params).In base) (T : Top q (looseW q loose) mean mg mb base) (keep : base.StaysIn s.heap) (hS : StoreAt w.params base st) (hv1 : handedIn v1 = true) (hv2 : handedIn v2 = true) (hi : s.heap.get? x = some (instObj 260 m)) (hm : s.heap.get? m = some (dictOf [en w.params (ofString "is_done") t1 (.bool d), en w.params (ofString "content") t2 v1] 2)) :
    codeAny (model P0 w) (ad 850 8500) (.call (.ref 905) ⟨[.ref st, .str (ofString "promise") k, .ref x], []⟩) (Ret s [] fun r h' => ∃ a o, r = .ref a ∧ s.heap.get? a = none ∧ h'.get? a = some o ∧ ∃ n, o = listOf #[v1] n) s := by
  refine StoreAt.elim (hS) ?_; intro ds n' k0 tb' dt n' k1 k2 rw' bt y0 y1 t0 t1 u0 u1 I1 I2 I3 I4 I5
  have I := inst_get hi hm
  refine enterCN (binds := [(ofString "store", .ref st), (ofString "word", .str (ofString "promise") k), (ofString "value", .ref x)]) X T keep (by rfl) (by rfl) (by decide) (BindsTo.of_eq rfl) (by rfl) (by decide +kernel) rfl rfl rfl ?_
  intro L' h₁ tk' cells' hL F' N' Y' X' T'
  k_cells Y'
  (try simp only [List.cons_append, List.nil_append] at N')
  with_reducible show wpAny _ _ _ _ _ _

  k_fold
  repeat' (first
    | ((with_reducible show wpAny _ _ (call (Value.builtin "len") [Value.ref _]) _ _ _); k_dflt (refine' len_two (g := s.heap) ?hl9 ?S9 ?_; (case hl9 => exact hl); (case S9 => (repeat (first | exact stays_refl | with_reducible assumption | refine stays_step (by with_reducible assumption) ?_)))); intro tk9 tk9')
    | ((with_reducible show wpAny _ _ (subscriptTail _ _ (Value.ref _) (Value.int _ _)) _ _ _); k_dflt (refine' item_base ?hl9 ?S9 ?h9 ?z9 ?i9 ?s9 ?_; (case hl9 => assumption); (case S9 => (repeat (first | exact stays_refl | with_reducible assumption | refine stays_step (by with_reducible assumption) ?_))); (case h9 => omega); (case z9 => first | assumption | decide | exact Nat.le_of_ble_eq_true rfl); (case i9 => first | assumption | exact rfl); (case s9 => with_unfolding_all rfl)))
    | ((with_reducible show wpAny _ _ (getAttr (Value.ref _) _ _) _ _ _); k_dflt (refine' get_own ?k1 ?k2 ?k3 ?k4 ?k5 ?k6 ?k7 ?k8 ?k9 ?_; (case k1 => k_asm); (case k2 => k_asm); (case k3 => (refine instAt_stays (by with_reducible assumption) ?_; (repeat (first | exact stays_refl | with_reducible assumption | refine stays_step (by with_reducible assumption) ?_)))); (case k4 => k_is); (case k5 => k_is); (case k6 => k_is); (case k7 => k_is); (case k8 => k_get); (case k9 => first | with_reducible assumption | k_handed); k_whole))
    | (k_extra "meth")
    | (k_extra "def")
    | (k_extra "combo")
    | (k_unfold; (try dsimp only))
    | (k_end; wrow_close)
    | walk1
    | (dsimp only; walk1)
    | (leave1; (try dsimp only))
    | fail "no step")
  all_goals (try k_unfold)
  all_goals (try dsimp only)
  all_goals exact ret_mk (by repeat (first | exact stays_refl | with_reducible assumption | refine stays_step (by with_reducible assumption) ?_)) ⟨_, _, rfl, News.fresh (by k_asm) (by k_mem), News.get (by k_asm) (by k_mem), _, rfl⟩

theorem parts_vector {w : World} {mean : ExcName → Option Value} {mg mb : PySem.Str → Option Value} {base : Heap} {s : Shared} {st x m : Nat} {v1 v2 : Value} {k t1 t2 : Tok} {d : Bool} {n : Nat}
    (X : (K w.params).In base) (T : Top q (looseW q loose) mean mg mb base) (keep : base.StaysIn s.heap) (hS : StoreAt w.params base st) (hv1 : handedIn v1 = true) (hv2 : handedIn v2 = true) (I : Inst1 w.params s.heap x 218 (ofString "things") (.ref m)) (hm : s.heap.get? m = some (listOf #[v1, v2] n)) :
    codeAny (model P0 w) (ad 850 8500) (.call (.ref 905) ⟨[.ref st, .str (ofString "vector") k, .ref x], []⟩) (Ret s [] fun r h' => ∃ a o, r = .ref a ∧ s.heap.get? a = none ∧ h'.get? a = some o ∧ ∃ n, o = listOf #[v1, v2] n) s := by
  refine StoreAt.elim (hS) ?_; intro ds n' k0 tb' dt n' k1 k2 rw' bt y0 y1 t0 t1 u0 u1 I1 I2 I3 I4 I5
  obtain ⟨dx, nx, z1, I⟩ := I
  have hl : s.heap.IsList m [v1, v2].toArray := ⟨_, hm, rfl, _, rfl⟩
  refine enterCN (binds := [(ofString "store", .ref st), (ofString "word", .str (ofString "vector") k), (ofString "value", .ref x)]) X T keep (by rfl) (by rfl) (by decide) (BindsTo.of_eq rfl) (by rfl) (by decide +kernel) rfl rfl rfl ?_
  intro L' h₁ tk' cells' hL F' N' Y' X' T'
  k_cells Y'
  (try simp only [List.cons_append, List.nil_append] at N')
  with_reducible show wpAny _ _ _ _ _ _

  k_fold
  repeat' (first
    | ((with_reducible show wpAny _ _ (eval (Expr.ListComp _ _ _ _) _) _ _ _); k_dflt (refine LCg.ListComp_U (F₀ := by k_asm) (by with_unfolding_all rfl) (by decide) (by rfl) (by decide) (by rfl) ?_))
    | ((with_reducible show wpAny _ _ (exec (Stmt.Assign [Expr.Name _ _] (Expr.ListComp _ _ _ _) _) _) _ _ _); k_dflt (refine LCg.Assign_ListComp_U (F₀ := by k_asm) (by rfl) (by with_unfolding_all rfl) (by with_unfolding_all rfl) (by decide) (by rfl) (by decide) (by rfl) (by rfl) (by rfl) ?_))
    | ((with_reducible show LCg.CompSrc _ _ _ _ _ _ _ _ _ _ _ _ _ _); k_dflt (first | (refine LCg.CompSrc.ledger (by rfl) (by k_asm) (by k_asm) (by k_mem) (by first | size_fits | exact Nat.le_of_ble_eq_true rfl) ?_; intro g'; lcg_lit) | (refine LCg.CompSrc.range (by rfl) (by k_asm) (by k_asm) (by assumption) (by first | decide | rfl) (by first | rfl | decide) (by first | size_fits | exact Nat.le_of_ble_eq_true rfl) ?_; intro g'; lcg_lit)))
    | ((with_reducible show LCg.CompRest _ _ _ _ _ _ _ _ _ _ _ _ _ _ _ _ _ _ _); first | ((with_unfolding_all refine LCg.CompRest.succ ?_); intro v' I' oI' C' oC' D' m' h' tk' E' hv' hC' hx' F' N' off' ne'; (first | lcg_open hv' | (obtain ⟨t9', hv9'⟩ := hv'; subst hv9')); (obtain ⟨offI', offC', offD'⟩ := off_all (oC := oI') (oD := oI') off' ne'); clear off' ne'; (try dsimp only)) | ((with_unfolding_all refine LCg.CompRest.zero ?_); (try dsimp only)))
    | ((with_reducible show LCg.FinE _ _ _ _ _ _ _); (unfold LCg.FinE); intro D' h' tk' F' N' o1'; replace o1' := off_one o1'; (try simp only [List.nil_append, List.cons_append] at N'); (try dsimp only))
    | ((with_reducible show LCg.FinA _ _ _ _ _ _ _ _); (unfold LCg.FinA); intro D' h' tk' F' N' o1'; replace o1' := off_one o1'; (try simp only [List.nil_append, List.cons_append] at N'); (try dsimp only))
    | ((with_reducible show LCg.CompEnd _ _ _ _ _ _ _ _ _ _ _ _ _ _); k_dflt (refine' comp_end0 F' N' (offr2 offI' rfl) (offr1 offC' rfl) (offr0 offD' rfl) (by lcg_src) ?_); clear offI' offC' offD')
    | ((with_reducible show wpAny _ _ (call (Value.builtin "len") [Value.ref _]) _ _ _); k_dflt (refine' len_two (g := s.heap) ?hl9 ?S9 ?_; (case hl9 => exact hl); (case S9 => (repeat (first | exact stays_refl | with_reducible assumption | refine stays_step (by with_reducible assumption) ?_)))); intro tk9 tk9')
    | ((with_reducible show wpAny _ _ (subscriptTail _ _ (Value.ref _) (Value.int _ _)) _ _ _); k_dflt (refine' item_base ?hl9 ?S9 ?h9 ?z9 ?i9 ?s9 ?_; (case hl9 => assumption); (case S9 => (repeat (first | exact stays_refl | with_reducible assumption | refine stays_step (by with_reducible assumption) ?_))); (case h9 => omega); (case z9 => first | assumption | decide | exact Nat.le_of_ble_eq_true rfl); (case i9 => first | assumption | exact rfl); (case s9 => with_unfolding_all rfl)))
    | ((with_reducible show wpAny _ _ (getAttr (Value.ref _) _ _) _ _ _); k_dflt (refine' get_own ?k1 ?k2 ?k3 ?k4 ?k5 ?k6 ?k7 ?k8 ?k9 ?_; (case k1 => k_asm); (case k2 => k_asm); (case k3 => (refine instAt_stays (by with_reducible assumption) ?_; (repeat (first | exact stays_refl | with_reducible assumption | refine stays_step (by with_reducible assumption) ?_)))); (case k4 => k_is); (case k5 => k_is); (case k6 => k_is); (case k7 => k_is); (case k8 => k_get); (case k9 => first | with_reducible assumption | k_handed); k_whole))
    | (k_extra "meth")
    | (k_extra "def")
    | (k_extra "combo")
    | (k_unfold; (try dsimp only))
    | (k_end; wrow_close)
    | walk1
    | (dsimp only; walk1)
    | (leave1; (try dsimp only))
    | fail "no step")
  all_goals (try k_unfold)
  all_goals (try dsimp only)
  all_goals exact ret_mk (by repeat (first | exact stays_refl | with_reducible assumption | refine stays_step (by with_reducible assumption) ?_)) ⟨_, _, rfl, News.fresh (by k_asm) (by k_mem), News.get (by k_asm) (by k_mem), _, rfl⟩
def ZKept (h₀ : Heap) (news : Led) (a : Nat) : Prop := ∃ o, h₀.get? a = some o ∨ (a, o) ∈ news
noncomputable def ZR (prog : Program) (w : World) (A : Around) (h₀ : Heap) (L : Addr) (m : PySem.Str → Option Value) (env : Env) (c : PySem.Expr) (x x₂ : PySem.Str) (scope : Scope) (cl : List (PySem.Str × Addr)) (xs ys : Array Value) (news : Led) (s₁ : Shared) : Prop :=
∀ (i : Nat) (a b : Value) (l : Led) (C : Nat) (oC : Obj) (m₂ : PySem.Str → Option Value) (h : Heap) (tk : Nat) (E' : Value → Shared → Prop), xs[i]? = some a → ys[i]? = some b → LCg.NsObj oC m₂ → m₂ x = some a → m₂ x₂ = some b → Fr h₀ L h m → News h₀ L h ((C, oC) :: l) → (∀ p ∈ l, p.1 ≠ C) → (∀ p ∈ news, p ∈ l) →
      wpAny (model prog w) A (isTrue c (compEnvC scope cl C env) (eval c (compEnvC scope cl C env))) (fun ok s₃ => ok = false ∧ ∃ h' tk', s₃ = { s₁ with heap := h', toks := tk' } ∧ Fr h₀ L h' m ∧ News h₀ L h' ((C, oC) :: l)) E' { s₁ with heap := h, toks := tk }
/-- what a zip of two lists hands to the block -/
inductive SrcZ (prog : Program) (w : World) (A : Around) (h₀ : Heap) (L : Addr) (m : PySem.Str → Option Value) (env : Env) (c : PySem.Expr) (x x₂ : PySem.Str) (scope : Scope) (cl : List (PySem.Str × Addr)) (Q : Value → Shared → Prop) (xv : Value) (s₁ : Shared) : Prop
  | mk (Z l1 l2 : Nat) (xs ys : Array Value) (news : Led) (z0 : xv = .ref (Z + 4)) (z1 : IsZip s₁.heap (Z + 4) (Z + 2) (Z + 3) .none) (z2 : IsPair s₁.heap (Z + 2) (.ref Z) (.ref (Z + 1))) (z3 : IsPair s₁.heap (Z + 3) .none .none) (z4 : s₁.heap.IsListIter Z l1 0) (z5 : s₁.heap.IsListIter (Z + 1) l2 0) (z6 : s₁.heap.IsList l1 xs) (z7 : s₁.heap.IsList l2 ys) (z8 : ZKept h₀ news l1) (z9 : ZKept h₀ news l2) (z10 : l1 < Z) (z11 : l2 < Z) (z12 : L < Z) (z13 : Fr h₀ L s₁.heap m) (z14 : News h₀ L s₁.heap news) (z15 : (∀ p ∈ news, p.1 < Z)) (z16 : ZR prog w A h₀ L m env c x x₂ scope cl xs ys news s₁) (z17 : (∀ (D : Nat) h tk, Fr h₀ L h m → News h₀ L h ((D, listOf #[] 0) :: news) → Q (.ref D) { s₁ with heap := h, toks := tk })) : SrcZ prog w A h₀ L m env c x x₂ scope cl Q xv s₁
theorem SrcZ.elim {prog : Program} {w : World} {A : Around} {h₀ : Heap} {L : Addr} {m : PySem.Str → Option Value} {env : Env} {c : PySem.Expr} {x x₂ : PySem.Str} {scope : Scope} {cl : List (PySem.Str × Addr)} {Q : Value → Shared → Prop} {xv : Value} {s₁ : Shared} {motive : Prop} (S : SrcZ prog w A h₀ L m env c x x₂ scope cl Q xv s₁)
  (k9 : ∀ (Z l1 l2 : Nat) (xs ys : Array Value) (news : Led), xv = .ref (Z + 4) → IsZip s₁.heap (Z + 4) (Z + 2) (Z + 3) .none → IsPair s₁.heap (Z + 2) (.ref Z) (.ref (Z + 1)) → IsPair s₁.heap (Z + 3) .none .none → s₁.heap.IsListIter Z l1 0 → s₁.heap.IsListIter (Z + 1) l2 0 →
    s₁.heap.IsList l1 xs → s₁.heap.IsList l2 ys → ZKept h₀ news l1 → ZKept h₀ news l2 → l1 < Z → l2 < Z → L < Z → Fr h₀ L s₁.heap m → News h₀ L s₁.heap news → (∀ p ∈ news, p.1 < Z) → ZR prog w A h₀ L m env c x x₂ scope cl xs ys news s₁ →
    (∀ (D : Nat) h tk, Fr h₀ L h m → News h₀ L h ((D, listOf #[] 0) :: news) → Q (.ref D) { s₁ with heap := h, toks := tk }) → motive) : motive := by
  obtain ⟨_, _, _, _, _, _, a1, a2, a3, a4, a5, a6, a7, a8, a9, b1, b2, b3, b4, b5, b6, b7, b8, b9⟩ := S; exact k9 _ _ _ _ _ _ a1 a2 a3 a4 a5 a6 a7 a8 a9 b1 b2 b3 b4 b5 b6 b7 b8 b9
section
variable {prog : Program} {w : World} {A : Around} {E : Value → Shared → Prop} {s : Shared} {h₀ : Heap} {L : Addr} {m : PySem.Str → Option Value} {env : Env}
theorem SrcZ.call {c : PySem.Expr} {x x₂ : PySem.Str} {scope : Scope} {cl : List (PySem.Str × Addr)} {Q : Value → Shared → Prop} {l1 l2 : Nat} {xs ys : Array Value} {news : Led} (F : Fr h₀ L s.heap m) (N : News h₀ L s.heap news) (hl1 : s.heap.IsList l1 xs) (hl2 : s.heap.IsList l2 ys) (k1 : ZKept h₀ news l1) (k2 : ZKept h₀ news l2)
    (R : ∀ (i : Nat) (a b : Value) (l : Led) (C : Nat) (oC : Obj) (m₂ : PySem.Str → Option Value) (h : Heap) (tk : Nat) (E' : Value → Shared → Prop), xs[i]? = some a → ys[i]? = some b → LCg.NsObj oC m₂ → m₂ x = some a → m₂ x₂ = some b → Fr h₀ L h m → News h₀ L h ((C, oC) :: l) → (∀ p ∈ l, p.1 ≠ C) → (∀ p ∈ news, p ∈ l) →
      wpAny (model prog w) A (isTrue c (compEnvC scope cl C env) (eval c (compEnvC scope cl C env))) (fun ok s₃ => ok = false ∧ ∃ h' tk', s₃ = { s with heap := h', toks := tk' } ∧ Fr h₀ L h' m ∧ News h₀ L h' ((C, oC) :: l)) E' { s with heap := h, toks := tk })
    (fin : ∀ (D : Nat) h tk, Fr h₀ L h m → News h₀ L h ((D, listOf #[] 0) :: news) → Q (.ref D) { s with heap := h, toks := tk }) :
    wpAny (model prog w) A (call (.type "zip") [.ref l1, .ref l2]) (SrcZ prog w A h₀ L m env c x x₂ scope cl Q) E s := by
  have lt : ∀ {a : Nat} {xs : Array Value}, s.heap.IsList a xs → a < s.heap.objs.size := fun hl => by obtain ⟨_, e, _⟩ := hl; exact Heap.lt_size e
  refine call_zip_2 hl1 hl2 fun h' hz hTI hTO hi1 hi2 hsz hk => ?_
  exact ⟨s.heap.objs.size, l1, l2, xs, ys, news, rfl, hz, hTI, hTO, hi1, hi2, hl1.at fun o e => hk _ o e, hl2.at fun o e => hk _ o e, k1, k2, lt hl1, lt hl2, F.ns.lt, F.keeps hk, fun p hp => ⟨hk _ _ (N p hp).1, (N p hp).2⟩, fun p hp => Heap.lt_size (N p hp).1, R, fin⟩
theorem fr_butL {h h' : Heap} {l : List Nat} (F : Fr h₀ L h m) (hk : ∀ b o, b ∉ l → h.get? b = some o → h'.get? b = some o) (hL : L ∉ l) (hI : ∀ b ∈ l, h₀.get? b = none) : Fr h₀ L h' m :=
  ⟨F.ns.at' fun o e => hk L o hL e, fun b o e => hk b o (fun hm => by rw [hI b hm] at e; cases e) (F.keep b o e), F.above⟩
theorem news_butL {h h' : Heap} {l : List Nat} {news : Led} (N : News h₀ L h news) (hk : ∀ b o, b ∉ l → h.get? b = some o → h'.get? b = some o) (off : ∀ p ∈ news, p.1 ∉ l) : News h₀ L h' news :=
  fun p hp => ⟨hk _ _ (off p hp) (N p hp).1, (N p hp).2⟩
theorem comp_zip_none {c elt iter : PySem.Expr} {x x₂ : PySem.Str} {px px₂ tp : Pos} {kk : Nat} {scope : Scope} {cl : List (PySem.Str × Addr)} {pos : Pos} {Q : Value → Shared → Prop} (F₀ : Fr h₀ L s.heap m) (hh : A.handled = none)
    (hclos : closureFor scope env = pure cl) (hcell : ∀ y ∈ scope.names, y.2 ≠ .cell) (hkind : scope.kind = .function)
    (hnames : ∀ y ∈ scope.names, y.2 = .local → scope.names.lookup y.1 = some .local) (hx : scope.names.lookup x = some .local) (hx₂ : scope.names.lookup x₂ = some .local) (hxx : ¬ x = x₂)
    (h : wpAny (model prog w) A (eval iter env) (SrcZ prog w A h₀ L m env c x x₂ scope cl Q) E s)
    (hs : ∀ x, foldedSetIterable iter env x = pure x := by intro _; rfl) :
    wpAny (model prog w) A (eval (.ListComp elt [⟨.Tuple [.Name x px, .Name x₂ px₂] kk tp, iter, [c], 0⟩] scope pos) env) Q E s := by
  rw [eval_ListComp]
  refine wpAny_comprehension_free (use := none) rfl hs hclos hkind hnames (wpAny_mono h (fun xv s₂ h₁ => ?_) fun _ _ e => e)
  refine SrcZ.elim h₁ ?_; clear h₁; rintro Z l1 l2 xs ys news rfl hz hTI hTO hi1 hi2 hl1 hl2 k1 k2 lt1 lt2 ltL F N ltN R fin
  refine wpAny_pyIter_zip hz ?_
  refine wpAny_newObj_type (wpAny_newFunctionEnv hcell (by intro y hy; simp at hy) (fun h₁ hns₁ hsb₁ => ?_) hkind)
  dsimp only at hns₁ hsb₁ ⊢
  generalize hH2 : s₂.heap.push { cls := .type "list", dict := none, data := .seq ([] : List Value).toArray } = H2 at hns₁ hsb₁ ⊢
  generalize hDe : s₂.heap.objs.size = D at *
  have hC : H2.objs.size = D + 1 := by rw [← hH2, Heap.size_push, hDe]
  generalize hCe : H2.objs.size = C at *
  have ltZ : @LT.lt Nat _ (Z + 4) D := by rw [← hDe]; exact Heap.lt_size hz
  have hLn : @LT.lt Nat _ L Z := ltL
  have ZD : @LE.le Nat _ Z D := Nat.le_of_lt (Nat.lt_of_le_of_lt (Nat.le_add_right Z 4) ltZ)
  have hCn : @Eq Nat C (D + 1) := hC
  have ZC : @LE.le Nat _ Z C := by rw [hCn]; exact Nat.le_succ_of_le ZD
  have hDC : (D : Nat) ≠ C := by omega
  have below : ∀ b : Nat, b < D → b ≠ C ∧ b ≠ D := fun b hb => ⟨by omega, by omega⟩
  have lts : ∀ b o, s₂.heap.get? b = some o → (b : Nat) < D := fun b o e => by have := Heap.lt_size e; rw [hDe] at this; exact this
  have old : ∀ b o, s₂.heap.get? b = some o → h₁.get? b = some o := fun b o e => hsb₁.extBut b o (below b (lts b o e)).1 (Heap.get?_push_of_some _ (by rw [← hH2]; exact Heap.get?_push_of_some _ e))
  have hacc : h₁.get? D = some (listOf #[] 0) := by
    refine hsb₁.extBut _ _ hDC ?_
    refine Heap.get?_push_of_some _ ?_
    rw [← hH2, ← hDe]
    exact Heap.get?_push_size _ rfl
  have new₀ : ∀ a : Nat, Z ≤ a → h₀.get? a = none := fun a ha => by
    cases e : h₀.get? a with
    | none => rfl
    | some o' => have h1 := Heap.lt_size e; have h2 := F.above; exact absurd (Nat.lt_of_lt_of_le h1 (Nat.le_trans h2 (Nat.le_trans (Nat.le_of_lt ltL) ha))) (Nat.lt_irrefl _)
  have hD₀ := new₀ D ZD
  have hC₀ := new₀ C ZC
  have hDL : D ≠ L := fun q => by rw [q] at ZD; exact absurd (Nat.lt_of_lt_of_le hLn ZD) (Nat.lt_irrefl _)
  have hCL : C ≠ L := fun q => by rw [q] at ZC; exact absurd (Nat.lt_of_lt_of_le hLn ZC) (Nat.lt_irrefl _)
  have DA := ktu_apart Z l1 l2 lt1 lt2
  refine Classical.byContradiction fun hG1 => ?_
  obtain ⟨Pt, St, Md, fp, wr, n, W, hPt, hSt, hS0, hfp, hwr⟩ : ∃ (Pt : Nat → Array Value → Prop) (St : Nat → Heap → Prop) (Md : Nat → Addr → Heap → Prop) (fp wr : List Nat) (n : Nat), WalksU prog w A (Z + 4) fp wr n Pt St Md ∧ (∀ i vals, Pt i vals → ∃ x y, xs[i]? = some x ∧ ys[i]? = some y ∧ vals = #[x, y]) ∧ (∀ i h, St i h → IsZip h (Z + 4) (Z + 2) (Z + 3) .none ∧ IsPair h (Z + 2) (.ref Z) (.ref (Z + 1)) ∧ (∃ a b, IsPair h (Z + 3) a b) ∧ h.IsListIter Z l1 i ∧ h.IsListIter (Z + 1) l2 i ∧ h.IsList l1 xs ∧ h.IsList l2 ys) ∧ (∀ h, (IsZip h (Z + 4) (Z + 2) (Z + 3) .none ∧ IsPair h (Z + 2) (.ref Z) (.ref (Z + 1)) ∧ (∃ a b, IsPair h (Z + 3) a b) ∧ h.IsListIter Z l1 0 ∧ h.IsListIter (Z + 1) l2 0 ∧ h.IsList l1 xs ∧ h.IsList l2 ys) → St 0 h) ∧ fp = [Z + 4, Z + 2, Z + 3, Z, Z + 1, l1, l2] ∧ wr = [Z + 4, Z + 3, Z, Z + 1] :=
    ⟨_, _, _, _, _, _, (WalksT.zip2 (prog := prog) (w := w) hh (Z + 4) (Z + 2) (Z + 3) Z (Z + 1) l1 l2 DA xs ys).toU, fun _ _ h => h, fun _ _ h => h, fun _ h => h, rfl, rfl⟩
  have nwr : ∀ b ∈ wr, @LE.le Nat _ Z b ∧ @LT.lt Nat _ b D := fun b hb => by
    rw [hwr] at hb
    simp only [List.mem_cons, List.not_mem_nil, or_false] at hb
    rcases hb with rfl | rfl | rfl | rfl
    · exact ⟨Nat.le_add_right _ _, ltZ⟩
    · exact ⟨Nat.le_add_right _ _, Nat.lt_trans (Nat.lt_succ_self _) ltZ⟩
    · exact ⟨Nat.le_refl _, Nat.lt_of_le_of_lt (Nat.le_add_right _ 4) ltZ⟩
    · exact ⟨Nat.le_add_right _ _, Nat.lt_of_le_of_lt (Nat.add_le_add_left (by decide : 1 ≤ 4) _) ltZ⟩
  have wrL : L ∉ wr := fun q => absurd (Nat.lt_of_lt_of_le hLn (nwr _ q).1) (Nat.lt_irrefl _)
  have wr₀ : ∀ b ∈ wr, h₀.get? b = none := fun b hb => new₀ b (nwr b hb).1
  have wrN : ∀ p ∈ (D, listOf #[] 0) :: news, p.1 ∉ wr := fun p hp q => by
    have n := nwr _ q
    rcases List.mem_cons.mp hp with rfl | hp
    · exact Nat.lt_irrefl _ n.2
    · exact Nat.lt_irrefl _ (Nat.lt_of_lt_of_le (ltN p hp) n.1)
  have wrC : C ∉ wr := fun q => by have := (nwr _ q).2; rw [hCn] at this; exact absurd (Nat.lt_trans (Nat.lt_succ_self D) this) (Nat.lt_irrefl _)
  have hcb : ∀ b : Nat, b < D → b ≠ C := fun b hb q => by rw [q, hCn] at hb; exact absurd (Nat.lt_trans (Nat.lt_succ_self D) hb) (Nat.lt_irrefl _)
  have nltD : ∀ p ∈ news, @LT.lt Nat _ p.1 D := fun p hp => Nat.lt_of_lt_of_le (ltN p hp) ZD
  have F₁ : Fr h₀ L h₁ m := F.keeps old
  have N₁ : News h₀ L h₁ ((D, listOf #[] 0) :: news) := fun p hp => by
    rcases List.mem_cons.mp hp with rfl | hp
    · exact ⟨hacc, hDL, hD₀⟩
    · exact ⟨old _ _ (N p hp).1, (N p hp).2⟩
  have hst₁ : St 0 h₁ := hS0 _ ⟨old _ _ hz, old _ _ hTI, ⟨_, _, old _ _ hTO⟩, hi1.at fun o e => old _ o e, hi2.at fun o e => old _ o e, hl1.at fun o e => old _ o e, hl2.at fun o e => old _ o e⟩
  have loop : ∀ s₃ : Shared, s₃ = { s₂ with heap := h₁, toks := s₂.toks + ([] : List (PySem.Str × Value)).length } →
      codeAny (model prog w) A (.compLoop (.ListComp elt [⟨.Tuple [.Name x px, .Name x₂ px₂] kk tp, iter, [c], 0⟩] scope pos) 0 (.ref (Z + 4)) (.ref D) (compEnvC scope cl C env)) (compPost (model prog w) A E none Q (.ref D) C) s₃ := by
    rintro s₃ rfl
    have fpN : ∀ b ∈ fp, @LT.lt Nat _ b D := fun b hb => by
      rw [hfp] at hb
      simp only [List.mem_cons, List.not_mem_nil, or_false] at hb
      rcases hb with rfl | rfl | rfl | rfl | rfl | rfl | rfl
      · exact ltZ
      · exact Nat.lt_of_le_of_lt (Nat.add_le_add_left (by decide : 2 ≤ 4) _) ltZ
      · exact Nat.lt_of_le_of_lt (Nat.add_le_add_left (by decide : 3 ≤ 4) _) ltZ
      · exact Nat.lt_of_le_of_lt (Nat.le_add_right _ 4) ltZ
      · exact Nat.lt_of_le_of_lt (Nat.add_le_add_left (by decide : 1 ≤ 4) _) ltZ
      · exact Nat.lt_of_lt_of_le lt1 ZD
      · exact Nat.lt_of_lt_of_le lt2 ZD
    refine kct_loop (fun k s' => ∃ h' tk i m', s' = { s₂ with heap := h', toks := tk } ∧ i ≤ n ∧ k = n + 1 - i ∧ St i h' ∧
      Fr h₀ L h' m ∧ h'.Ns C m' ∧ News h₀ L h' ((D, listOf #[] 0) :: news)) ?_ (n + 1) ⟨h₁, _, 0, _, rfl, Nat.zero_le _, rfl, hst₁, F₁, hns₁, N₁⟩
    intro k s' hI
    refine Classical.byContradiction fun hG2 => ?_
    obtain ⟨h', tk, i, m', rfl, hi, rfl, hst', F', hn', N'⟩ := hI
    by_cases hlt : i < n
    · refine hG2 ?_
      clear hG2
      refine W.item i _ _ _ hlt hst' fun T vals h₂ tk₂ hP hT hmid hk₂ => ?_
      refine Classical.byContradiction fun hG3 => ?_
      obtain ⟨a, b, hxa, hyb, rfl⟩ := hPt _ _ hP
      refine hG3 ?_
      clear hG3
      have hTw := W.apart _ _ _ hmid
      refine W.go _ _ _ i T _ _ _ hmid fun h₃ hst₃ hk₃ => ?_
      have hT₃ : IsTup h₃ T #[a, b] := by
        obtain ⟨o, e, r⟩ := hT
        exact ⟨o, hk₃ _ _ hTw e, r⟩
      have F₃ := fr_butL (fr_butL F' hk₂ wrL wr₀) hk₃ wrL wr₀
      have N₃ := news_butL (news_butL N' hk₂ wrN) hk₃ wrN
      refine assign_Tuple_tuple hh hT₃ rfl rfl fun h₅ he => ?_
      have he' : ∀ b o, h₃.get? b = some o → h₅.get? b = some o := fun b o e => he b o (Nat.ne_of_lt (Heap.lt_size e)) e
      refine assignInOrder_cons (wpAny_assign_Name (wpAny_storeName_local (lookup_relabel_local hx) (((hn'.at' fun o e => hk₂ _ o wrC e).at' fun o e => hk₃ _ o wrC e).at' fun o e => he' _ o e) (fun h₆ hn₆ hs₆ => ?_) (by simp [compEnvC, relabel, hkind])))
      refine assignInOrder_cons (wpAny_assign_Name (wpAny_storeName_local (lookup_relabel_local hx₂) hn₆ (fun h₇ hn₇ hs₇ => ?_) (by simp [compEnvC, relabel, hkind])))
      refine assignInOrder_nil ?_
      have old7 : ∀ b o, b ≠ C → h₃.get? b = some o → h₇.get? b = some o := fun b o hb e => hs₇.extBut b o hb (hs₆.extBut b o hb (he' b o e))
      have hst₇ := W.frame _ _ _ hst₃ fun b hb o e => old7 b o (hcb b (fpN b hb)) e
      have F₇ : Fr h₀ L h₇ m := ((F₃.keeps he').change hs₆ hCL hC₀).change hs₇ hCL hC₀
      have N₇ : News h₀ L h₇ ((D, listOf #[] 0) :: news) := fun p hp => ⟨old7 _ _ (by
        rcases List.mem_cons.mp hp with rfl | hp
        · exact hDC
        · exact hcb _ (nltD p hp)) (N₃ p hp).1, (N₃ p hp).2⟩
      refine Classical.byContradiction fun hG4 => ?_
      obtain ⟨oC, heC, hoC⟩ := LCg.ns_obj hn₇
      have hst7 := hSt _ _ hst₇
      obtain ⟨gz, gI, ⟨ta, tb, gO⟩, ⟨o1, g1, c1⟩, ⟨o2, g2, c2⟩, _⟩ := hst7
      obtain ⟨oz, gz⟩ : ∃ o, h₇.get? (Z + 4) = some o := ⟨_, gz⟩
      obtain ⟨oI, gI⟩ : ∃ o, h₇.get? (Z + 2) = some o := ⟨_, gI⟩
      obtain ⟨oO, gO⟩ : ∃ o, h₇.get? (Z + 3) = some o := ⟨_, gO⟩
      refine hG4 ?_
      clear hG4
      have zz : ∀ p ∈ ([(Z + 4, oz), (Z + 2, oI), (Z + 3, oO), (Z, o1), (Z + 1, o2)] : Led), h₇.get? p.1 = some p.2 ∧ @LE.le Nat _ Z p.1 ∧ @LT.lt Nat _ p.1 D := fun p hp => by
        simp only [List.mem_cons, List.not_mem_nil, or_false] at hp
        rcases hp with rfl | rfl | rfl | rfl | rfl
        · exact ⟨gz, Nat.le_add_right _ _, fpN _ (by simp [hfp])⟩
        · exact ⟨gI, Nat.le_add_right _ _, fpN _ (by simp [hfp])⟩
        · exact ⟨gO, Nat.le_add_right _ _, fpN _ (by simp [hfp])⟩
        · exact ⟨g1, Nat.le_refl _, fpN _ (by simp [hfp])⟩
        · exact ⟨g2, Nat.le_add_right _ _, fpN _ (by simp [hfp])⟩
      generalize hzl : ([(Z + 4, oz), (Z + 2, oI), (Z + 3, oO), (Z, o1), (Z + 1, o2)] : Led) = zl at zz
      have offC : ∀ p ∈ zl ++ (D, listOf #[] 0) :: news, p.1 ≠ C := fun p hp => by
        rcases List.mem_append.mp hp with hp | hp
        · exact hcb _ (zz p hp).2.2
        rcases List.mem_cons.mp hp with rfl | hp
        · exact hDC
        · exact hcb _ (nltD p hp)
      have NC : News h₀ L h₇ ((C, oC) :: (zl ++ (D, listOf #[] 0) :: news)) := fun p hp => by
        rcases List.mem_cons.mp hp with rfl | hp
        · exact ⟨heC, hCL, hC₀⟩
        rcases List.mem_append.mp hp with hp | hp
        · obtain ⟨y1, y2, y3⟩ := zz p hp
          exact ⟨y1, fun q => by rw [q] at y2; exact absurd (Nat.lt_of_lt_of_le hLn y2) (Nat.lt_irrefl _), new₀ _ y2⟩
        · exact N₇ p hp
      refine wpAny_mono (R i a b _ C oC _ h₇ _ _ hxa hyb hoC (by simp [hxx]) (by simp) F₇ NC offC (fun p hp => List.mem_append_right _ (.tail _ hp))) (fun ok s₄ h₄ => ?_) fun _ _ e => e
      refine Classical.byContradiction fun hG5 => ?_
      obtain ⟨rfl, h₈, tk₈, rfl, F₈, N₈⟩ := h₄
      refine hG5 ?_
      clear hG5
      simp only [Bool.false_eq_true, if_false]
      have keep8 : ∀ p ∈ zl ++ (D, listOf #[] 0) :: news, h₈.get? p.1 = some p.2 := fun p hp => (N₈ p (.tail _ hp)).1
      have kz : ∀ l : Nat, ZKept h₀ news l → ∀ o, h₇.get? l = some o → h₈.get? l = some o := fun l k o e => by
        obtain ⟨o', k | k⟩ := k
        · rw [F₇.keep _ _ k] at e; rw [← e]; exact F₈.keep _ _ k
        · have e2 := (N₇ (l, o') (.tail _ k)).1
          rw [e2] at e; rw [← e]; exact keep8 _ (List.mem_append_right _ (.tail _ k))
      refine ⟨n + 1 - (i + 1), by omega, h₈, tk₈, i + 1, _, rfl, hlt, rfl, W.frame _ _ _ hst₇ (fun b hb o e => ?_), F₈, hoC.ns (N₈ _ (.head _)).1, fun p hp => N₈ p (.tail _ (List.mem_append_right _ hp))⟩
      have zkeep : ∀ (y : Nat) (oy : Obj), (y, oy) ∈ zl → ∀ o, h₇.get? y = some o → h₈.get? y = some o := fun y oy hy o e => by
        have e2 := (zz _ hy).1
        simp only at e2
        rw [e2] at e; rw [← e]; exact keep8 _ (List.mem_append_left _ hy)
      rw [hfp] at hb
      simp only [List.mem_cons, List.not_mem_nil, or_false] at hb
      rcases hb with rfl | rfl | rfl | rfl | rfl | rfl | rfl
      · exact zkeep _ _ (by rw [← hzl]; exact .head _) _ e
      · exact zkeep _ _ (by rw [← hzl]; exact .tail _ (.head _)) _ e
      · exact zkeep _ _ (by rw [← hzl]; exact .tail _ (.tail _ (.head _))) _ e
      · exact zkeep _ _ (by rw [← hzl]; exact .tail _ (.tail _ (.tail _ (.head _)))) _ e
      · exact zkeep _ _ (by rw [← hzl]; exact .tail _ (.tail _ (.tail _ (.tail _ (.head _))))) _ e
      · exact kz _ k1 _ e
      · exact kz _ k2 _ e
    · obtain rfl : i = n := Nat.le_antisymm hi (Nat.not_lt.mp hlt)
      refine hG2 ?_
      refine W.done _ _ _ hst' fun h₂ tk₂ hk₂ => ?_
      refine ⟨m', hn'.at' fun o e => hk₂ _ o wrC e, fun h'' hs'' => fin D h'' tk₂ ((fr_butL F' hk₂ wrL wr₀).change hs'' hCL hC₀) fun p hp => ?_⟩
      have n2 := news_butL N' hk₂ wrN p hp
      refine ⟨hs''.extBut _ _ ?_ n2.1, n2.2⟩
      rcases List.mem_cons.mp hp with rfl | hp
      · exact hDC
      · exact hcb _ (nltD p hp)
  exact hG1 (codeAny_compStart_list (loop _ rfl) (W.self 0 _ _ _ hst₁ (loop _ rfl)))
end
theorem th_ref {h : Heap} {t : Pl} {v : Value} (x : ThAt h t v) : ∃ a, v = .ref a := by
  obtain ⟨a, _, _, _, e, _, _⟩ := x
  exact ⟨a, e⟩
section
variable {w : World} {A : Around} {E : Value → Shared → Prop} {s : Shared} {h₀ : Heap} {L : Addr} {news tl : Led} {m : PySem.Str → Option Value} {p : Nat} {ps : List Value}
theorem list_lat (F : Fr h₀ L s.heap m) (N : News h₀ L s.heap news) (hp : h₀.IsList p ps.toArray ∨ ∃ n, (p, listOf ps.toArray n) ∈ tl) (sub : ∀ q ∈ tl, q ∈ news) : s.heap.IsList p ps.toArray := by
  rcases hp with h | ⟨n, h⟩
  · exact isList_stays h F.keep
  · exact N.isList (sub _ h)
theorem kept_lat (hp : h₀.IsList p ps.toArray ∨ ∃ n, (p, listOf ps.toArray n) ∈ tl) (sub : ∀ q ∈ tl, q ∈ news) : ZKept h₀ news p := by
  rcases hp with ⟨o, h, _⟩ | ⟨n, h⟩
  · exact ⟨o, .inl h⟩
  · exact ⟨_, .inr (sub _ h)⟩
theorem len_lat {Q : Value → Shared → Prop} (F : Fr h₀ L s.heap m) (N : News h₀ L s.heap news) (hp : h₀.IsList p ps.toArray ∨ ∃ n, (p, listOf ps.toArray n) ∈ tl) (sub : ∀ q ∈ tl, q ∈ news) (hz : ps.length ≤ 64) (h : ∀ tk tk', Q (.int ps.length tk) { s with toks := tk' }) : wpAny (model P0 w) A (call (.builtin "len") [.ref p]) Q E s :=
  len_any (g := s.heap) (list_lat F N hp sub) (fun _ _ e => e) hz h
theorem call_value2 {Q : Value → Shared → Prop} {dd u : Nat} {f : Addr} {vs args : List Value} {base : Heap} {e0 : Addr × Obj} {t : Pl}
    (hz : e0 ∈ news) (C : codeAny (model P0 w) (ad dd u) (.call (.ref f) ⟨args, []⟩) (Ret s [] fun r h => VaN w.params vs base s.heap h r t) s) (hh : A.handled = none) (hd : A.depth ≤ dd) (hu : A.units ≤ u)
    (F : Fr h₀ L s.heap m) (N : News h₀ L s.heap news)
    (h : ∀ (v : Value) (a b : Nat) (oa ob : Obj) (h' : Heap) (tk' : Nat), Fr h₀ L h' m → News h₀ L h' ((a, oa) :: (b, ob) :: news) → (∀ H, base.StaysIn H → H.get? a = some oa → H.get? b = some ob → Va w.params vs H v t) → Q v { s with heap := h', toks := tk' }) :
    wpAny (model P0 w) A (call (.ref f) args) Q E s := by
  refine call_spec C hh hd hu F N fun v h' tk F' N' S p => ?_
  obtain ⟨o, ⟨l, fo⟩, k⟩ := p
  obtain ⟨oL, es, ep, hL, _⟩ := F.ns
  have nn : ∀ x, s.heap.get? x = none → x ≠ L ∧ h₀.get? x = none := fun x e => ⟨(fun q => by rw [q, hL] at e; cases e), by
    cases q : h₀.get? x with
    | none => rfl
    | some o' => rw [F.keep _ _ q] at e; cases e⟩
  have two : ∀ a b : Addr × Obj, (a ∈ o ∨ a = e0) → (b ∈ o ∨ b = e0) → News h₀ L h' (a :: b :: news) := fun a b ha hb => by
    have one : ∀ a, (a ∈ o ∨ a = e0) → h'.get? a.1 = some a.2 ∧ a.1 ≠ L ∧ h₀.get? a.1 = none := fun a ha => by
      rcases ha with ha | rfl
      · exact ⟨(fo a ha).2, nn _ (fo a ha).1⟩
      · exact N' _ hz
    intro p hp
    rcases List.mem_cons.mp hp with rfl | hp
    · exact one _ ha
    rcases List.mem_cons.mp hp with rfl | hp
    · exact one _ hb
    · exact N' p hp
  cases o with
  | nil => exact h v _ _ _ _ h' tk F' (two e0 e0 (.inr rfl) (.inr rfl)) (fun H B _ _ => k H B fun _ q => nomatch q)
  | cons p r =>
    cases r with
    | nil => exact h v _ _ _ _ h' tk F' (two p p (.inl (.head _)) (.inl (.head _))) (fun H B e _ => k H B fun q hq => by rw [List.mem_singleton.mp hq]; exact e)
    | cons p' r' =>
      cases r' with
      | cons _ _ => simp at l
      | nil => exact h v _ _ _ _ h' tk F' (two p p' (.inl (.head _)) (.inl (.tail _ (.head _)))) (fun H B e e' => k H B fun q hq => by
          rcases List.mem_cons.mp hq with rfl | hq
          · exact e
          · rw [List.mem_singleton.mp hq]; exact e')
end

theorem tells_tail {w : World} {mean : ExcName → Option Value} {mg mb : PySem.Str → Option Value} {g : Heap} {s : Shared} {E : Value → Shared → Prop} {Q : Flow → Shared → Prop} {st bl vl ta x p L : Nat} {o1 o2 o3 : Obj} {i : Int} {k k2 k3 : Tok} {wd : PySem.Str} {vs us ps : List Value} {bk : Nat → Nat} {tl : Led}
    (X : (K w.params).In g) (T : Top q (looseW q loose) mean mg mb g) (hS : StoreAt w.params g st) (B : Blks w.params vs bk g) (hvl : g.IsList vl vs.toArray) (hsz : vs.length ≤ 64) (F : Fr g L s.heap (fun y => if y = ofString "parts" then some (.ref p) else if y = ofString "word" then some (.str wd k) else if y = ofString "what" then some (.int i k3) else if y = ofString "word" then some (.str (ofString "block") k2) else bindL (envOfC (ofString "_law_tells") (sScope (stm 53)) L 910 (.ref 909)).kindOf [(ofString "store", Value.ref st), (ofString "blocks", Value.ref bl), (ofString "values", Value.ref vl), (ofString "thing", Value.ref ta), (ofString "value", Value.ref x)] (fun _ => none) y)) (N : News g L s.heap ((L + 1, o1) :: (L + 1 + 1, o2) :: (L + 1 + 1 + 1, o3) :: tl))
    (ho1 : o1.data = .cell (some (.ref st))) (ho2 : o2.data = .cell (some (.ref vl))) (ho3 : o3.data = .cell (some (.ref x)))
    (C : ∀ {s' : Shared}, g.StaysIn s'.heap → codeAny (model P0 w) (ad 850 8500) (.call (.ref 905) ⟨[.ref st, .str wd k, .ref x], []⟩) (Ret s' [] fun r h' => ∃ a o, r = .ref a ∧ s'.heap.get? a = none ∧ h'.get? a = some o ∧ ∃ n, o = listOf us.toArray n) s')
    (hp : g.IsList p ps.toArray ∨ ∃ n, (p, listOf ps.toArray n) ∈ tl) (hpz : ps.length ≤ 64) (huz : us.length ≤ 64) (hl : us.length = ps.length)
    (hpair : ∀ (i : Nat) (a b : Value), us.toArray[i]? = some a → ps.toArray[i]? = some b → ∃ t, ThAt g t b ∧ Va w.params vs g a t ∧ OkT vs.length t) (hQ : ∀ h' tk, g.StaysIn h' → Q (.ret (.bool true)) { s with heap := h', toks := tk }) :
    wpAny (model P0 w) ((ad 700 7000).deeper (envOfC (ofString "_law_tells") (sScope (stm 53)) L 910 (.ref 909))) (execs ((sBody (stm 53)).drop 9) (envOfC (ofString "_law_tells") (sScope (stm 53)) L 910 (.ref 909))) Q E s := by
  have hS' := hS
  refine StoreAt.elim (hS') ?_; intro ds n' k0 tb' dt n' kk1 kk2 rw' bt y0 y1 t0 t1 u0 u1 I1 I2 I3 I4 I5
  (try k_fold)
  repeat' (first
    | ((with_reducible show Q _ _); exact hQ _ _ (by repeat (first | exact stays_refl | with_reducible assumption | refine stays_step (by with_reducible assumption) ?_)))
    | ((with_reducible show ite ((_ != _) = true) _ _); rw [if_neg (by rw [hl]; simp)])
    | ((with_reducible show wpAny _ _ (call (Value.ref 905) _) _ _ _); k_dflt (refine' call_new (C ?S0) rfl ?zd ?zu ?F ?N ?_; (case F => k_asm); (case N => k_asm); (case S0 => exact stays_fr (by k_asm)); (case zd => exact Nat.le_of_ble_eq_true rfl); (case zu => exact Nat.le_of_ble_eq_true rfl)); intro a' o' h' tk' F' N' na' p'; (obtain ⟨n9', e9'⟩ := p'); subst e9'; (try k_sweep))
    | ((with_reducible show wpAny _ _ (call (Value.builtin "len") [Value.ref _]) _ _ _); k_dflt (first | (refine' len_lat ?F ?N hp ?sb hpz ?_; (case F => k_asm); (case N => k_asm); (case sb => intro p' hp'; repeat (first | exact hp' | apply List.Mem.tail))) | (refine' len_led ?N ?m9 huz ?_; (case N => k_asm); (case m9 => k_mem))); intro tk' tk'')
    | ((with_reducible show wpAny _ _ (eval (Expr.ListComp _ _ _ _) _) _ _ _); k_dflt (refine comp_zip_none (F₀ := by k_asm) (by rfl) (by with_unfolding_all rfl) (by decide) (by rfl) (by decide) (by rfl) (by rfl) (by decide) ?_))
    | ((with_reducible show wpAny _ _ (call (Value.type "zip") [Value.ref _, Value.ref _]) _ _ _); refine' SrcZ.call (F := by k_asm) (N := by k_asm) (News.isList (by k_asm) (by k_mem)) (list_lat (by k_asm) (by k_asm) hp (by intro p' hp'; repeat (first | exact hp' | apply List.Mem.tail))) ⟨_, .inr (by k_mem)⟩ (kept_lat hp (by intro p' hp'; repeat (first | exact hp' | apply List.Mem.tail))) ?zR ?zf; (case' zR => (intro i' a9 b9 l' C' oC' m' h' tk' E' ha' hb' hC' hx' hx2' F' N' off' sub'; (have hm1 := sub' _ (.tail _ (.head _))); (have hm2 := sub' _ (.tail _ (.tail _ (.head _)))); (have hm3 := sub' _ (.tail _ (.tail _ (.tail _ (.head _))))); (obtain ⟨C1, hth', hva', hok'⟩ := hpair i' a9 b9 ha' hb'); (obtain ⟨tb9, hb9⟩ := th_ref hth'); subst hb9)); (case' zf => (intro D' h' tk' F' N')))
    | ((with_reducible show wpAny _ _ (call (Value.ref 869) [_, _, Value.ref _]) _ _ _); k_dflt (refine' call_value2 (base := g) (vs := vs) (t := C1) ?hz (value_spec X T ?S hS (isList_stays hvl ?S) ?th hok' hsz) rfl ?zd ?zu ?F ?N ?_; (case F => k_asm); (case N => k_asm); (case th => exact ThAt.stays hth' (by repeat (first | exact stays_refl | with_reducible assumption | refine stays_step (by with_reducible assumption) ?_))); (case hz => exact .head _); (case S => (repeat (first | exact stays_refl | with_reducible assumption | refine stays_step (by with_reducible assumption) ?_))); (case zd => exact Nat.le_of_ble_eq_true rfl); (case zu => exact Nat.le_of_ble_eq_true rfl)); intro v' a' b' oa' ob' h' tk' F' N' k'; (try k_sweep))
    | ((with_reducible show wpAny _ _ (call (Value.ref 801) _) _ _ _); k_dflt (refine' call_spec (same_spec ?X ?T ?S ?B ?hv ?hu) rfl ?zd ?zu ?F ?N ?_; (case F => k_asm); (case N => k_asm); (case S => exact stays_fr (by k_asm)); (case X => k_asm); (case T => k_asm); (case B => first | assumption | exact Blks.stays (by assumption) (by repeat (first | exact stays_refl | with_reducible assumption | refine stays_step (by with_reducible assumption) ?_))); (case hv => first | assumption | exact Va.stays (by assumption) (by repeat (first | exact stays_refl | with_reducible assumption | refine stays_step (by with_reducible assumption) ?_))); (case hu => exact k' _ (by repeat (first | exact stays_refl | with_reducible assumption | refine stays_step (by with_reducible assumption) ?_)) (News.get (by k_asm) (by k_mem)) (News.get (by k_asm) (by k_mem))); (case zd => exact Nat.le_of_ble_eq_true rfl); (case zu => exact Nat.le_of_ble_eq_true rfl)); intro r' h' tk' F' N' S' p'; subst p'; (try k_sweep))
    | (k_extra "attr")
    | (k_extra "meth")
    | (k_extra "combo")
    | (k_unfold; (try dsimp only))
    | (k_end; wrow_close)
    | walk1
    | (dsimp only; walk1)
    | (leave1; (try dsimp only))
    | fail "no step")
  all_goals (try k_unfold)
  all_goals first
    | (rw [eqv_self]; rfl)
    | (with_reducible show Fr _ _ _ _; k_asm)
    | exact tailN (tailN (by k_asm))
theorem range_n {n : Nat} (h : n ≤ 2) : Builtin.Range.small 0 n 1 = true ∧ Builtin.Range.rangeSize 0 n 1 = ((n : Nat) : Int) := by
  have : n = 0 ∨ n = 1 ∨ n = 2 := by omega
  rcases this with rfl | rfl | rfl <;> exact ⟨by decide, by rfl⟩
theorem at_getD {mv : List Value} {i : Nat} (h : i < mv.length) : mv[(0 + (i : Int)).toNat]? = some (mv[i]?.getD .none) := by
  have : (0 + (i : Int)).toNat = i := by omega
  rw [this, List.getElem?_eq_getElem h]; rfl
theorem list_full {h : Heap} {D : Nat} {mv : List Value} (x : h.IsList D ((List.range mv.length).map fun i => mv[i]?.getD .none).toArray) : h.IsList D mv.toArray := by
  have : (List.range mv.length).map (fun i => mv[i]?.getD .none) = mv := by
    refine List.ext_getElem (by simp) fun i h1 h2 => ?_
    simp [List.getElem?_eq_getElem h2]
  rwa [this] at x
theorem reads_ints {h : Heap} {vs : List Value} {cs : List Int} (i : IntsAre vs cs) : ReadsAll h vs (cs.map .int) [] := by
  induction i with
  | nil => exact .nil
  | cons n t _ ih => exact .cons (.int n t) ih
theorem ints_shaped (cs : List Int) : SeqAt.shaped (.list (cs.map .int)) = true ∧ PyData.eqv (.list (cs.map .int)) (.list (cs.map .int)) = true := by
  have h1 : ∀ cs : List Int, PyData.canLayAll0 (cs.map .int) = true := fun cs => by
    induction cs with
    | nil => rfl
    | cons b r ih => simp [PyData.canLayAll0, PyData.canLay0, ih]
  have h2 : ∀ cs : List Int, PyData.depthAll (cs.map .int) = 0 := fun cs => by
    induction cs with
    | nil => rfl
    | cons b r ih => simp [PyData.depthAll, PyData.depth, ih]
  have h3 : PyData.canLay0 (.list (cs.map .int)) = true := by rw [PyData.canLay0]; exact h1 cs
  exact ⟨by rw [SeqAt.shaped, h3, Bool.true_and, PyData.depth, h2]; rfl, SeqAt.eqv_refl _ h3⟩
theorem eq_ints {w : World} {A : Around} {E : Value → Shared → Prop} {s : Shared} {Q : Value → Shared → Prop} {a b : Nat} {us vs : List Value} {cs : List Int} (ha : s.heap.IsList a us.toArray) (hb : s.heap.IsList b vs.toArray) (i1 : IntsAre us cs) (i2 : IntsAre vs cs) (hu : A.units + 64 < cLine) (h : Q (.bool true) s) : wpAny (model P0 w) A (compareOp .Eq (.ref a) (.ref b)) Q E s := by
  obtain ⟨o, e1, e2, n, e3⟩ := ha
  obtain ⟨o', e1', e2', n', e3'⟩ := hb
  obtain ⟨h1, h2⟩ := ints_shaped cs
  exact SeqAt.compareEq_shaped (.list e1 e2 e3 (by simpa using reads_ints i1)) (.list e1' e2' e3' (by simpa using reads_ints i2)) h1 h1 hu (by rw [h2]; exact h)

theorem tb_string {w : World} {mean : ExcName → Option Value} {mg mb : PySem.Str → Option Value} {g : Heap} {s : Shared} {E : Value → Shared → Prop} {Q : Flow → Shared → Prop} {st bl vl ta x p m L : Nat} {o1 o2 o3 : Obj} {i : Int} {k k2 k3 : Tok} {vs : List Value} {bk : Nat → Nat} {mv pv : List Value} {cs : List Int}
    (X : (K w.params).In g) (T : Top q (looseW q loose) mean mg mb g) (hS : StoreAt w.params g st) (B : Blks w.params vs bk g) (hvl : g.IsList vl vs.toArray) (hsz : vs.length ≤ 64) (F : Fr g L s.heap (fun y => if y = ofString "parts" then some (.ref p) else if y = ofString "word" then some (.str (ofString "string") k) else if y = ofString "what" then some (.int i k3) else if y = ofString "word" then some (.str (ofString "block") k2) else bindL (envOfC (ofString "_law_tells") (sScope (stm 53)) L 910 (.ref 909)).kindOf [(ofString "store", Value.ref st), (ofString "blocks", Value.ref bl), (ofString "values", Value.ref vl), (ofString "thing", Value.ref ta), (ofString "value", Value.ref x)] (fun _ => none) y)) (N : News g L s.heap [(L + 1, o1), (L + 1 + 1, o2), (L + 1 + 1 + 1, o3)])
    (ho1 : o1.data = .cell (some (.ref st))) (ho2 : o2.data = .cell (some (.ref vl))) (ho3 : o3.data = .cell (some (.ref x))) (I : Inst1 w.params g x 197 (ofString "codes") (.ref m)) (hml : g.IsList m mv.toArray) (i2 : IntsAre mv cs) (hpl : g.IsList p pv.toArray) (i1 : IntsAre pv cs) (hmz : mv.length ≤ 2)
    (hQ : ∀ h' tk, g.StaysIn h' → Q (.ret (.bool true)) { s with heap := h', toks := tk }) :
    wpAny (model P0 w) ((ad 700 7000).deeper (envOfC (ofString "_law_tells") (sScope (stm 53)) L 910 (.ref 909))) (execs ((sBody (stm 53)).drop 7) (envOfC (ofString "_law_tells") (sScope (stm 53)) L 910 (.ref 909))) Q E s := by
  have hS' := hS
  refine StoreAt.elim (hS') ?_; intro ds n' k0 tb' dt n' kk1 kk2 rw' bt y0 y1 t0 t1 u0 u1 I1 I2 I3 I4 I5
  obtain ⟨dx, nx, tx, I⟩ := I
  (try k_fold)
  repeat' (first
    | ((with_reducible show Q _ _); exact hQ _ _ (by repeat (first | exact stays_refl | with_reducible assumption | refine stays_step (by with_reducible assumption) ?_)))
    | ((with_reducible show wpAny _ _ (eval (Expr.ListComp _ _ _ _) _) _ _ _); k_dflt (refine LCg.ListComp_U (F₀ := by k_asm) (by with_unfolding_all rfl) (by decide) (by rfl) (by decide) (by rfl) ?_))
    | ((with_reducible show wpAny _ _ (exec (Stmt.Assign [Expr.Name _ _] (Expr.ListComp _ _ _ _) _) _) _ _ _); k_dflt (refine LCg.Assign_ListComp_U (F₀ := by k_asm) (by rfl) (by with_unfolding_all rfl) (by with_unfolding_all rfl) (by decide) (by rfl) (by decide) (by rfl) (by rfl) (by rfl) ?_))
    | ((with_reducible show LCg.FinE _ _ _ _ _ _ _); (unfold LCg.FinE); intro D' h' tk' F' N' o1'; replace o1' := off_one o1'; (try simp only [List.nil_append, List.cons_append] at N'); (try dsimp only))
    | ((with_reducible show LCg.FinA _ _ _ _ _ _ _ _); (unfold LCg.FinA); intro D' h' tk' F' N' o1'; replace o1' := off_one o1'; (try simp only [List.nil_append, List.cons_append] at N'); (try dsimp only))
    | ((with_reducible show wpAny _ _ (call (Value.builtin "len") [Value.ref m]) _ _ _); k_dflt (refine' len_any (g := g) (es := mv) ?hl9 ?S9 ?z9 ?_; (case hl9 => exact hml); (case S9 => (repeat (first | exact stays_refl | with_reducible assumption | refine stays_step (by with_reducible assumption) ?_))); (case z9 => exact Nat.le_trans hmz (by decide))); intro tk9 tk9')
    | ((with_reducible show LCg.CompSrc _ _ _ _ _ _ _ _ _ _ _ _ _ _); k_dflt (refine' LCg.CompSrc.range ?y1 ?y2 ?y3 ?y4 ?y5 ?y6 ?y7 ?_; (case y1 => rfl); (case y2 => k_asm); (case y3 => k_asm); (case y4 => assumption); (case y5 => exact (range_n hmz).1); (case y6 => exact (range_n hmz).2); (case y7 => exact Nat.le_trans hmz (by decide))); intro g'; refine rest_ind (f := fun i => mv[i]?.getD .none) ?st ?fin)
    | ((with_reducible show ∀ _ _ _ _ _ _ _ _ _ _ _ _, _ < _ → _); intro i' ys' v' I' oI' C' oC' D' m' h' tk' E' hi' hv' hC' hx' F' N' off' ne'; (obtain ⟨t9', hv9'⟩ := hv'); subst hv9'; (obtain ⟨offI', offC', offD'⟩ := off_all (oC := oI') (oD := oI') off' ne'); clear off' ne'; (try dsimp only))
    | ((with_reducible show LCg.CompEnd _ _ _ _ _ _ _ _ _ _ _ _ _ _); exact comp_end0 F' N' (offr2 offI' rfl) (offr1 offC' rfl) (offr0 offD' rfl) trivial ⟨rfl, rfl⟩)
    | ((with_reducible show wpAny _ _ (subscriptTail _ _ (Value.ref m) (Value.int _ _)) _ _ _); k_dflt (refine' item_base (vs := mv) ?hl9 ?S9 ?h9 ?z9 ?i9 ?s9 ?_; (case hl9 => exact hml); (case S9 => (repeat (first | exact stays_refl | with_reducible assumption | refine stays_step (by with_reducible assumption) ?_))); (case h9 => omega); (case z9 => exact Nat.le_trans hmz (by decide)); (case i9 => exact at_getD (by assumption)); (case s9 => with_unfolding_all rfl)))
    | ((with_reducible show wpAny _ _ (compareOp CmpOp.Eq (Value.ref _) (Value.ref _)) _ _ _); k_dflt (refine' eq_ints ?z1 ?z2 ?z3 ?z4 ?z5 ?_; (case z1 => exact list_full (News.isList (by k_asm) (by k_mem))); (case z3 => exact i2); (case z2 => exact isList_stays hpl (by repeat (first | exact stays_refl | with_reducible assumption | refine stays_step (by with_reducible assumption) ?_))); (case z4 => exact i1); (case z5 => ke_room)))
    | ((with_reducible show wpAny _ _ (getAttr (Value.ref _) _ _) _ _ _); k_dflt (refine' get_own ?k1 ?k2 ?k3 ?k4 ?k5 ?k6 ?k7 ?k8 ?k9 ?_; (case k1 => k_asm); (case k2 => k_asm); (case k3 => (refine instAt_stays (by with_reducible assumption) ?_; (repeat (first | exact stays_refl | with_reducible assumption | refine stays_step (by with_reducible assumption) ?_)))); (case k4 => k_is); (case k5 => k_is); (case k6 => k_is); (case k7 => k_is); (case k8 => k_get); (case k9 => first | with_reducible assumption | k_handed); k_whole))
    | (k_extra "meth")
    | (k_extra "def")
    | (k_extra "combo")
    | (k_unfold; (try dsimp only))
    | (k_end; wrow_close)
    | walk1
    | (dsimp only; walk1)
    | (leave1; (try dsimp only))
    | fail "no step")
  all_goals (try k_unfold)

theorem tb_other {w : World} {mean : ExcName → Option Value} {mg mb : PySem.Str → Option Value} {g : Heap} {s : Shared} {E : Value → Shared → Prop} {Q : Flow → Shared → Prop} {st bl vl ta x p m L : Nat} {o1 o2 o3 : Obj} {i : Int} {k k2 k3 : Tok} {vs : List Value} {bk : Nat → Nat} {wd : PySem.Str} {us ps : List Value} 
    (X : (K w.params).In g) (T : Top q (looseW q loose) mean mg mb g) (hS : StoreAt w.params g st) (B : Blks w.params vs bk g) (hvl : g.IsList vl vs.toArray) (hsz : vs.length ≤ 64) (F : Fr g L s.heap (fun y => if y = ofString "parts" then some (.ref p) else if y = ofString "word" then some (.str wd k) else if y = ofString "what" then some (.int i k3) else if y = ofString "word" then some (.str (ofString "block") k2) else bindL (envOfC (ofString "_law_tells") (sScope (stm 53)) L 910 (.ref 909)).kindOf [(ofString "store", Value.ref st), (ofString "blocks", Value.ref bl), (ofString "values", Value.ref vl), (ofString "thing", Value.ref ta), (ofString "value", Value.ref x)] (fun _ => none) y)) (N : News g L s.heap [(L + 1, o1), (L + 1 + 1, o2), (L + 1 + 1 + 1, o3)])
    (ho1 : o1.data = .cell (some (.ref st))) (ho2 : o2.data = .cell (some (.ref vl))) (ho3 : o3.data = .cell (some (.ref x))) (hw1 : (wd == ofString "string") = false) (hw2 : (wd == ofString "promise") = false) (hp0 : g.IsList p ps.toArray) (C : ∀ {s' : Shared}, g.StaysIn s'.heap → codeAny (model P0 w) (ad 850 8500) (.call (.ref 905) ⟨[.ref st, .str wd k, .ref x], []⟩) (Ret s' [] fun r h' => ∃ a o, r = .ref a ∧ s'.heap.get? a = none ∧ h'.get? a = some o ∧ ∃ n, o = listOf us.toArray n) s')
    (hpz : ps.length ≤ 64) (huz : us.length ≤ 64) (hl : us.length = ps.length) (hpair : ∀ (i : Nat) (a b : Value), us.toArray[i]? = some a → ps.toArray[i]? = some b → ∃ t, ThAt g t b ∧ Va w.params vs g a t ∧ OkT vs.length t)
    (hQ : ∀ h' tk, g.StaysIn h' → Q (.ret (.bool true)) { s with heap := h', toks := tk }) :
    wpAny (model P0 w) ((ad 700 7000).deeper (envOfC (ofString "_law_tells") (sScope (stm 53)) L 910 (.ref 909))) (execs ((sBody (stm 53)).drop 7) (envOfC (ofString "_law_tells") (sScope (stm 53)) L 910 (.ref 909))) Q E s := by
  have hp : g.IsList p ps.toArray ∨ ∃ n, (p, listOf ps.toArray n) ∈ ([] : Led) := .inl hp0
  (try k_fold)
  repeat' (first
    | ((with_reducible show Q _ _); exact hQ _ _ (by repeat (first | exact stays_refl | with_reducible assumption | refine stays_step (by with_reducible assumption) ?_)))
    | ((with_reducible show wpAny _ _ (execs [Stmt.Assign _ _ _, Stmt.If _ _ _ _, Stmt.Return _ _] _) _ _ _); k_dflt (refine' tells_tail X T hS B hvl hsz ?x1 ?x2 ho1 ho2 ho3 C hp hpz huz hl hpair ?x3; (case x1 => k_asm); (case x2 => k_asm)); exact hQ)
    | (k_extra "combo")
    | (k_unfold; (try dsimp only))
    | (k_end; wrow_close)
    | walk1
    | (dsimp only; walk1)
    | (leave1; (try dsimp only))
    | fail "no step")

theorem fr_twice {h₀ h : Heap} {L : Addr} {x : PySem.Str} {v u : Value} {m : PySem.Str → Option Value} (F : Fr h₀ L h (fun y => if y = x then some v else if y = x then some u else m y)) : Fr h₀ L h (fun y => if y = x then some v else m y) := by
  have : (fun y => if y = x then some v else if y = x then some u else m y) = (fun y => if y = x then some v else m y) := by
    funext y; split <;> rfl
  rwa [this] at F
theorem last4 {g h : Heap} {L : Addr} {q1 c1 c2 c3 : Addr × Obj} (N : News g L h [q1, c1, c2, c3]) : News g L h [c1, c2, c3, q1] := fun p hp => N p (by
  simp only [List.mem_cons, List.not_mem_nil, or_false] at hp ⊢
  rcases hp with h | h | h | h <;> simp [h])

theorem tb_promise {w : World} {mean : ExcName → Option Value} {mg mb : PySem.Str → Option Value} {g : Heap} {s : Shared} {E : Value → Shared → Prop} {Q : Flow → Shared → Prop} {st bl vl ta x p m L : Nat} {o1 o2 o3 : Obj} {i : Int} {k k2 k3 : Tok} {vs : List Value} {bk : Nat → Nat} {th v1 : Value} {d : Bool} {t1 t2 : Tok} {us : List Value}
    (X : (K w.params).In g) (T : Top q (looseW q loose) mean mg mb g) (hS : StoreAt w.params g st) (B : Blks w.params vs bk g) (hvl : g.IsList vl vs.toArray) (hsz : vs.length ≤ 64) (F : Fr g L s.heap (fun y => if y = ofString "parts" then some (.ref p) else if y = ofString "word" then some (.str (ofString "promise") k) else if y = ofString "what" then some (.int i k3) else if y = ofString "word" then some (.str (ofString "block") k2) else bindL (envOfC (ofString "_law_tells") (sScope (stm 53)) L 910 (.ref 909)).kindOf [(ofString "store", Value.ref st), (ofString "blocks", Value.ref bl), (ofString "values", Value.ref vl), (ofString "thing", Value.ref ta), (ofString "value", Value.ref x)] (fun _ => none) y)) (N : News g L s.heap [(L + 1, o1), (L + 1 + 1, o2), (L + 1 + 1 + 1, o3)])
    (ho1 : o1.data = .cell (some (.ref st))) (ho2 : o2.data = .cell (some (.ref vl))) (ho3 : o3.data = .cell (some (.ref x))) (hi : g.get? x = some (instObj 260 m)) (hm : g.get? m = some (dictOf [en w.params (ofString "is_done") t1 (.bool d), en w.params (ofString "content") t2 v1] 2)) (hp0 : g.IsList p [Value.bool d, th].toArray)
    (C : ∀ {s' : Shared}, g.StaysIn s'.heap → codeAny (model P0 w) (ad 850 8500) (.call (.ref 905) ⟨[.ref st, .str (ofString "promise") k, .ref x], []⟩) (Ret s' [] fun r h' => ∃ a o, r = .ref a ∧ s'.heap.get? a = none ∧ h'.get? a = some o ∧ ∃ n, o = listOf us.toArray n) s')
     (huz : us.length ≤ 64) (hl : us.length = [th].length) (hpair : ∀ (i : Nat) (a b : Value), us.toArray[i]? = some a → [th].toArray[i]? = some b → ∃ t, ThAt g t b ∧ Va w.params vs g a t ∧ OkT vs.length t)
    (hQ : ∀ h' tk, g.StaysIn h' → Q (.ret (.bool true)) { s with heap := h', toks := tk }) :
    wpAny (model P0 w) ((ad 700 7000).deeper (envOfC (ofString "_law_tells") (sScope (stm 53)) L 910 (.ref 909))) (execs ((sBody (stm 53)).drop 7) (envOfC (ofString "_law_tells") (sScope (stm 53)) L 910 (.ref 909))) Q E s := by
  have hS' := hS
  refine StoreAt.elim (hS') ?_; intro ds n' k0 tb' dt n' kk1 kk2 rw' bt y0 y1 t0 t1 u0 u1 I1 I2 I3 I4 I5
  have I := inst_get hi hm
  (try k_fold)
  repeat' (first
    | ((with_reducible show wpAny _ _ (execs [Stmt.Assign _ _ _, Stmt.If _ _ _ _, Stmt.Return _ _] _) _ _ _); k_dflt (refine' tells_tail (ps := [th]) X T hS B hvl hsz ?x1 ?x2 ho1 ho2 ho3 C (.inr ⟨_, .head _⟩) (Nat.le_of_ble_eq_true rfl) huz hl hpair ?x3; (case x1 => exact fr_twice (by k_asm)); (case x2 => exact last4 (by k_asm))); exact hQ)
    | ((with_reducible show wpAny _ _ (subscriptTail _ _ (Value.ref _) (Value.int _ _)) _ _ _); k_dflt (refine' item_base ?hl9 ?S9 ?h9 ?z9 ?i9 ?s9 ?_; (case hl9 => exact hp0); (case S9 => (repeat (first | exact stays_refl | with_reducible assumption | refine stays_step (by with_reducible assumption) ?_))); (case h9 => omega); (case z9 => first | assumption | decide | exact Nat.le_of_ble_eq_true rfl); (case i9 => exact rfl); (case s9 => with_unfolding_all rfl)))
    | ((with_reducible show wpAny _ _ (getAttr (Value.ref _) _ _) _ _ _); k_dflt (refine' get_own ?k1 ?k2 ?k3 ?k4 ?k5 ?k6 ?k7 ?k8 ?k9 ?_; (case k1 => k_asm); (case k2 => k_asm); (case k3 => (refine instAt_stays (by with_reducible assumption) ?_; (repeat (first | exact stays_refl | with_reducible assumption | refine stays_step (by with_reducible assumption) ?_)))); (case k4 => k_is); (case k5 => k_is); (case k6 => k_is); (case k7 => k_is); (case k8 => k_get); (case k9 => first | with_reducible assumption | k_handed); k_whole))
    | (k_extra "meth")
    | (k_extra "def")
    | (k_extra "combo")
    | (k_unfold; (try dsimp only))
    | (k_end; wrow_close)
    | walk1
    | (dsimp only; walk1)
    | (leave1; (try dsimp only))
    | fail "no step")
  all_goals (try k_unfold)
  all_goals exact absurd (by assumption : (d != d) = true) (by simp)
theorem rev3 {g h : Heap} {L : Addr} {a b c : Addr × Obj} (N : News g L h [a, b, c]) : News g L h [c, b, a] := fun p hp => N p (by
  simp only [List.mem_cons, List.not_mem_nil, or_false] at hp ⊢
  rcases hp with h | h | h <;> simp [h])
theorem three_shaped {y : PySem.Str} {i j : Int} (h : PyData.strOk y = true) : SeqAt.shaped (.tuple [.str y, .int i, .int j]) = true ∧ PyData.eqv (.tuple [.str y, .int i, .int j]) (.tuple [.str y, .int i, .int j]) = true := by
  have h3 : PyData.canLay0 (.tuple [.str y, .int i, .int j]) = true := by simp [PyData.canLay0, PyData.canLayAll0, h]
  exact ⟨by rw [SeqAt.shaped, h3, Bool.true_and]; simp [PyData.depth, PyData.depthAll], SeqAt.eqv_refl _ h3⟩
theorem eq_tup3 {w : World} {A : Around} {E : Value → Shared → Prop} {s : Shared} {Q : Value → Shared → Prop} {a b : Nat} {y : PySem.Str} {i j : Int} {k1 k2 k3 t1 t2 t3 : Tok} (ha : IsTup s.heap a [Value.str y k1, .int i k2, .int j k3].toArray) (hb : IsTup s.heap b #[.str y t1, .int i t2, .int j t3]) (hu : A.units + 64 < cLine) (hy : PyData.strOk y = true) (h : Q (.bool true) s) : wpAny (model P0 w) A (compareOp .Eq (.ref a) (.ref b)) Q E s := by
  obtain ⟨h1, h2⟩ := three_shaped (i := i) (j := j) hy
  exact SeqAt.compareEq_shaped (isTup_reads (vs := [_, _, _]) ha (.cons (.str _ _) (.cons (.int _ _) (.cons (.int _ _) .nil)))) (isTup_reads (vs := [_, _, _]) hb (.cons (.str _ _) (.cons (.int _ _) (.cons (.int _ _) .nil)))) h1 h1 hu (by rw [h2]; exact h)

theorem tells_blk {w : World} {mean : ExcName → Option Value} {mg mb : PySem.Str → Option Value} {base : Heap} {s : Shared} {st bl vl ta : Nat} {vs es : List Value} {bk : Nat → Nat} {k2 : Tok} {i : Int} {k3 k : Tok} {e p x : Nat} {wd : PySem.Str}
    (X : (K w.params).In base) (T : Top q (looseW q loose) mean mg mb base) (keep : base.StaysIn s.heap) (hS : StoreAt w.params s.heap st) (hT : IsTup s.heap ta #[.str (ofString "block") k2, .int i k3]) (hb : s.heap.IsList bl es.toArray) (hi0 : 0 ≤ i) (hz : es.length ≤ 64) (hes : es[i.toNat]? = some (.ref e)) (he : s.heap.IsList e #[.str wd k, .ref p])
    (R : ∀ {s' : Shared} {L : Nat} {o1 o2 o3 : Obj} {E : Value → Shared → Prop} {Q : Flow → Shared → Prop}, Fr s.heap L s'.heap (fun y => if y = ofString "parts" then some (.ref p) else if y = ofString "word" then some (.str wd k) else if y = ofString "what" then some (.int i k3) else if y = ofString "word" then some (.str (ofString "block") k2) else bindL (envOfC (ofString "_law_tells") (sScope (stm 53)) L 910 (.ref 909)).kindOf [(ofString "store", Value.ref st), (ofString "blocks", Value.ref bl), (ofString "values", Value.ref vl), (ofString "thing", Value.ref ta), (ofString "value", Value.ref x)] (fun _ => none) y) → News s.heap L s'.heap [(L + 1, o1), (L + 1 + 1, o2), (L + 1 + 1 + 1, o3)] → o1.data = .cell (some (.ref st)) → o2.data = .cell (some (.ref vl)) → o3.data = .cell (some (.ref x)) →
      (∀ h' tk, s.heap.StaysIn h' → Q (.ret (.bool true)) { s' with heap := h', toks := tk }) → wpAny (model P0 w) ((ad 700 7000).deeper (envOfC (ofString "_law_tells") (sScope (stm 53)) L 910 (.ref 909))) (execs ((sBody (stm 53)).drop 7) (envOfC (ofString "_law_tells") (sScope (stm 53)) L 910 (.ref 909))) Q E s') :
    codeAny (model P0 w) (ad 700 7000) (.call (.ref 910) ⟨[.ref st, .ref bl, .ref vl, .ref ta, .ref x], []⟩) (Ret s [] fun r _ => r = .bool true) s := by
  refine StoreAt.elim (hS) ?_; intro ds n' k0 tb' dt n' kk1 kk2 rw' bt y0 y1 t0 t1 u0 u1 I1 I2 I3 I4 I5
  refine enterCN (binds := [(ofString "store", .ref st), (ofString "blocks", .ref bl), (ofString "values", .ref vl), (ofString "thing", .ref ta), (ofString "value", .ref x)]) X T keep (by rfl) (by rfl) (by decide) (BindsTo.of_eq rfl) (by rfl) (by decide +kernel) rfl rfl rfl ?_
  intro L' h₁ tk' cells' hL F' N' Y' X' T'
  k_cells Y'
  (try simp only [List.cons_append, List.nil_append] at N')
  with_reducible show wpAny _ _ _ _ _ _

  k_fold
  repeat' (first
    | ((with_reducible show wpAny _ _ (assign (Expr.Tuple _ _ _) _ (Value.ref ta)) _ _ _); k_dflt (refine' unpackN_ ?k1 ?k2 ?k3 ?k4 ?k5 ?k6 ?_; (case k1 => k_asm); (case k2 => k_asm); (case k3 => exact IsTup.keeps hT (by repeat (first | exact stays_refl | with_reducible assumption | refine stays_step (by with_reducible assumption) ?_))); (case k4 => exact rfl); (case k5 => exact rfl); (case k6 => exact rfl); k_whole); intro h' F' N'; (try k_sweep))
    | ((with_reducible show wpAny _ _ (assign (Expr.Tuple _ _ _) _ (Value.ref e)) _ _ _); k_dflt (refine' kun_list ?k1 ?k2 ?k3 ?k4 ?k5 ?k6 ?_; (case k1 => k_asm); (case k2 => k_asm); (case k3 => exact isList_stays he (by repeat (first | exact stays_refl | with_reducible assumption | refine stays_step (by with_reducible assumption) ?_))); (case k4 => exact rfl); (case k5 => exact rfl); (case k6 => exact rfl); k_whole); intro h' F' N'; (try k_sweep))
    | ((with_reducible show wpAny _ _ (subscriptTail _ _ (Value.ref bl) (Value.int _ _)) _ _ _); k_dflt (refine' item_base ?hl9 ?S9 hi0 hz hes ?s9 ?_; (case hl9 => exact hb); (case S9 => (repeat (first | exact stays_refl | with_reducible assumption | refine stays_step (by with_reducible assumption) ?_))); (case s9 => with_unfolding_all rfl)))
    | ((with_reducible show wpAny _ _ (execs [Stmt.If _ _ _ _, Stmt.If _ _ _ _, Stmt.Assign _ _ _, Stmt.If _ _ _ _, Stmt.Return _ _] _) _ _ _); k_dflt (refine' R ?x1 ?x2 ?x3 ?x4 ?x5 ?x6; (case x1 => k_asm); (case x2 => exact rev3 (by k_asm)); (case x3 => assumption); (case x4 => assumption); (case x5 => assumption)); exact fun h' tk S' => ret_mk S' rfl)
    | (k_extra "attr")
    | (k_extra "meth")
    | (k_extra "def")
    | (k_extra "combo")
    | (k_unfold; (try dsimp only))
    | (k_end; wrow_close)
    | walk1
    | (dsimp only; walk1)
    | (leave1; (try dsimp only))
    | fail "no step")

theorem tells_num {w : World} {mean : ExcName → Option Value} {mg mb : PySem.Str → Option Value} {base : Heap} {s : Shared} {st bl vl ta : Nat} {vs es : List Value} {bk : Nat → Nat} {k2 : Tok} {v : Value} {b : Nat} {y : PySem.Str} {i j : Int} {k5 k6 k7 : Tok}
    (X : (K w.params).In base) (T : Top q (looseW q loose) mean mg mb base) (keep : base.StaysIn s.heap) (hS : StoreAt w.params s.heap st) (hT : IsTup s.heap ta #[.str (ofString "number") k2, .ref b]) (hW : IsTup s.heap b #[.str y k5, .int i k6, .int j k7]) (hsh : PyData.strOk y = true)
    (C : ∀ {s' : Shared}, s.heap.StaysIn s'.heap → codeAny (model P0 w) (ad 850 8500) (.call (.ref 900) ⟨[v], []⟩) (Ret s' [] fun r h' => ∃ a o, r = .ref a ∧ s'.heap.get? a = none ∧ h'.get? a = some o ∧ ∃ (n : Nat) (k1 k2 k3 : Tok), o = tupO [.str y k1, .int i k2, .int j k3] n) s') :
    codeAny (model P0 w) (ad 700 7000) (.call (.ref 910) ⟨[.ref st, .ref bl, .ref vl, .ref ta, v], []⟩) (Ret s [] fun r _ => r = .bool true) s := by
  refine StoreAt.elim (hS) ?_; intro ds n' k0 tb' dt n' kk1 kk2 rw' bt y0 y1 t0 t1 u0 u1 I1 I2 I3 I4 I5
  refine enterCN (binds := [(ofString "store", .ref st), (ofString "blocks", .ref bl), (ofString "values", .ref vl), (ofString "thing", .ref ta), (ofString "value", v)]) X T keep (by rfl) (by rfl) (by decide) (BindsTo.of_eq rfl) (by rfl) (by decide +kernel) rfl rfl rfl ?_
  intro L' h₁ tk' cells' hL F' N' Y' X' T'
  k_cells Y'
  (try simp only [List.cons_append, List.nil_append] at N')
  with_reducible show wpAny _ _ _ _ _ _

  k_fold
  repeat' (first
    | ((with_reducible show wpAny _ _ (assign (Expr.Tuple _ _ _) _ (Value.ref ta)) _ _ _); k_dflt (refine' unpackN_ ?k1 ?k2 ?k3 ?k4 ?k5 ?k6 ?_; (case k1 => k_asm); (case k2 => k_asm); (case k3 => exact IsTup.keeps hT (by repeat (first | exact stays_refl | with_reducible assumption | refine stays_step (by with_reducible assumption) ?_))); (case k4 => exact rfl); (case k5 => exact rfl); (case k6 => exact rfl); k_whole); intro h' F' N'; (try k_sweep))
    | ((with_reducible show wpAny _ _ (call (Value.ref 900) _) _ _ _); k_dflt (refine' call_new (C ?S0) rfl ?zd ?zu ?F ?N ?_; (case F => k_asm); (case N => k_asm); (case S0 => exact stays_fr (by k_asm)); (case zd => exact Nat.le_of_ble_eq_true rfl); (case zu => exact Nat.le_of_ble_eq_true rfl)); intro a' o' h' tk' F' N' na' p'; (obtain ⟨n9', k91', k92', k93', e9'⟩ := p'); subst e9'; (try k_sweep))
    | ((with_reducible show wpAny _ _ (compareOp CmpOp.Eq (Value.ref _) (Value.ref _)) _ _ _); k_dflt (refine' eq_tup3 ?z1 ?z2 ?z3 hsh ?_; (case z1 => exact News.isTup (by k_asm) (by k_mem)); (case z2 => exact IsTup.keeps hW (by repeat (first | exact stays_refl | with_reducible assumption | refine stays_step (by with_reducible assumption) ?_))); (case z3 => ke_room)))
    | (k_extra "attr")
    | (k_extra "meth")
    | (k_extra "def")
    | (k_extra "combo")
    | (k_unfold; (try dsimp only))
    | (k_end; wrow_close)
    | walk1
    | (dsimp only; walk1)
    | (leave1; (try dsimp only))
    | fail "no step")
  all_goals (try k_unfold)
  all_goals exact ret_mk (by repeat (first | exact stays_refl | with_reducible assumption | refine stays_step (by with_reducible assumption) ?_)) (by first | rfl | (refine congrArg Value.bool (decide_eq_true ?_); rfl) | exact congrArg Value.bool (beq_self_eq_true _) | trace_state)

theorem tells_char {w : World} {mean : ExcName → Option Value} {mg mb : PySem.Str → Option Value} {base : Heap} {s : Shared} {st bl vl ta : Nat} {vs es : List Value} {bk : Nat → Nat} {k2 : Tok} {v : Value} {i : Int} {k3 : Tok}
    (X : (K w.params).In base) (T : Top q (looseW q loose) mean mg mb base) (keep : base.StaysIn s.heap) (hS : StoreAt w.params s.heap st) (hT : IsTup s.heap ta #[.str (ofString "char") k2, .int i k3]) (hva : Va w.params vs s.heap v (.char i)) (B : Blks w.params vs bk s.heap) :
    codeAny (model P0 w) (ad 700 7000) (.call (.ref 910) ⟨[.ref st, .ref bl, .ref vl, .ref ta, v], []⟩) (Ret s [] fun r _ => r = .bool true) s := by
  refine StoreAt.elim (hS) ?_; intro ds n' k0 tb' dt n' kk1 kk2 rw' bt y0 y1 t0 t1 u0 u1 I1 I2 I3 I4 I5
  refine enterCN (binds := [(ofString "store", .ref st), (ofString "blocks", .ref bl), (ofString "values", .ref vl), (ofString "thing", .ref ta), (ofString "value", v)]) X T keep (by rfl) (by rfl) (by decide) (BindsTo.of_eq rfl) (by rfl) (by decide +kernel) rfl rfl rfl ?_
  intro L' h₁ tk' cells' hL F' N' Y' X' T'
  k_cells Y'
  (try simp only [List.cons_append, List.nil_append] at N')
  with_reducible show wpAny _ _ _ _ _ _

  k_fold
  repeat' (first
    | ((with_reducible show wpAny _ _ (assign (Expr.Tuple _ _ _) _ (Value.ref ta)) _ _ _); k_dflt (refine' unpackN_ ?k1 ?k2 ?k3 ?k4 ?k5 ?k6 ?_; (case k1 => k_asm); (case k2 => k_asm); (case k3 => exact IsTup.keeps hT (by repeat (first | exact stays_refl | with_reducible assumption | refine stays_step (by with_reducible assumption) ?_))); (case k4 => exact rfl); (case k5 => exact rfl); (case k6 => exact rfl); k_whole); intro h' F' N'; (try k_sweep))
    | ((with_reducible show wpAny _ _ (getAttr _ _ _) _ _ _); k_dflt (refine' attr_any ?F ?X B hva ?S9 ?hk9 ?hC9 ?_; (case F => k_asm); (case X => k_asm); (case S9 => (repeat (first | exact stays_refl | with_reducible assumption | refine stays_step (by with_reducible assumption) ?_))); (case hk9 => exact rfl); (case hC9 => k_mem)); intro _ _; (try dsimp only))
    | (k_extra "attr")
    | (k_extra "meth")
    | (k_extra "def")
    | (k_extra "combo")
    | (k_unfold; (try dsimp only))
    | (k_end; wrow_close)
    | walk1
    | (dsimp only; walk1)
    | (leave1; (try dsimp only))
    | fail "no step")
  all_goals (try k_unfold)
  all_goals exact ret_mk (by repeat (first | exact stays_refl | with_reducible assumption | refine stays_step (by with_reducible assumption) ?_)) (by first | rfl | (refine congrArg Value.bool (decide_eq_true ?_); rfl) | exact congrArg Value.bool (beq_self_eq_true _) | trace_state)

theorem tells_symbol {w : World} {mean : ExcName → Option Value} {mg mb : PySem.Str → Option Value} {base : Heap} {s : Shared} {st bl vl ta : Nat} {vs es : List Value} {bk : Nat → Nat} {k2 : Tok} {v : Value} {i : Int} {k3 : Tok}
    (X : (K w.params).In base) (T : Top q (looseW q loose) mean mg mb base) (keep : base.StaysIn s.heap) (hS : StoreAt w.params s.heap st) (hT : IsTup s.heap ta #[.str (ofString "symbol") k2, .int i k3]) (hva : Va w.params vs s.heap v (.symbol i)) (B : Blks w.params vs bk s.heap) :
    codeAny (model P0 w) (ad 700 7000) (.call (.ref 910) ⟨[.ref st, .ref bl, .ref vl, .ref ta, v], []⟩) (Ret s [] fun r _ => r = .bool true) s := by
  refine StoreAt.elim (hS) ?_; intro ds n' k0 tb' dt n' kk1 kk2 rw' bt y0 y1 t0 t1 u0 u1 I1 I2 I3 I4 I5
  refine enterCN (binds := [(ofString "store", .ref st), (ofString "blocks", .ref bl), (ofString "values", .ref vl), (ofString "thing", .ref ta), (ofString "value", v)]) X T keep (by rfl) (by rfl) (by decide) (BindsTo.of_eq rfl) (by rfl) (by decide +kernel) rfl rfl rfl ?_
  intro L' h₁ tk' cells' hL F' N' Y' X' T'
  k_cells Y'
  (try simp only [List.cons_append, List.nil_append] at N')
  with_reducible show wpAny _ _ _ _ _ _

  k_fold
  repeat' (first
    | ((with_reducible show wpAny _ _ (assign (Expr.Tuple _ _ _) _ (Value.ref ta)) _ _ _); k_dflt (refine' unpackN_ ?k1 ?k2 ?k3 ?k4 ?k5 ?k6 ?_; (case k1 => k_asm); (case k2 => k_asm); (case k3 => exact IsTup.keeps hT (by repeat (first | exact stays_refl | with_reducible assumption | refine stays_step (by with_reducible assumption) ?_))); (case k4 => exact rfl); (case k5 => exact rfl); (case k6 => exact rfl); k_whole); intro h' F' N'; (try k_sweep))
    | ((with_reducible show wpAny _ _ (getAttr _ _ _) _ _ _); k_dflt (refine' attr_any ?F ?X B hva ?S9 ?hk9 ?hC9 ?_; (case F => k_asm); (case X => k_asm); (case S9 => (repeat (first | exact stays_refl | with_reducible assumption | refine stays_step (by with_reducible assumption) ?_))); (case hk9 => exact rfl); (case hC9 => k_mem)); intro _ _; (try dsimp only))
    | (k_extra "attr")
    | (k_extra "meth")
    | (k_extra "def")
    | (k_extra "combo")
    | (k_unfold; (try dsimp only))
    | (k_end; wrow_close)
    | walk1
    | (dsimp only; walk1)
    | (leave1; (try dsimp only))
    | fail "no step")
  all_goals (try k_unfold)
  all_goals exact ret_mk (by repeat (first | exact stays_refl | with_reducible assumption | refine stays_step (by with_reducible assumption) ?_)) (by first | rfl | (refine congrArg Value.bool (decide_eq_true ?_); rfl) | exact congrArg Value.bool (beq_self_eq_true _) | trace_state)

theorem tells_port {w : World} {mean : ExcName → Option Value} {mg mb : PySem.Str → Option Value} {base : Heap} {s : Shared} {st bl vl ta : Nat} {vs es : List Value} {bk : Nat → Nat} {k2 : Tok} {v : Value} {i : Int} {k3 : Tok}
    (X : (K w.params).In base) (T : Top q (looseW q loose) mean mg mb base) (keep : base.StaysIn s.heap) (hS : StoreAt w.params s.heap st) (hT : IsTup s.heap ta #[.str (ofString "port") k2, .int i k3]) (hva : Va w.params vs s.heap v (.port i)) (B : Blks w.params vs bk s.heap) :
    codeAny (model P0 w) (ad 700 7000) (.call (.ref 910) ⟨[.ref st, .ref bl, .ref vl, .ref ta, v], []⟩) (Ret s [] fun r _ => r = .bool true) s := by
  refine StoreAt.elim (hS) ?_; intro ds n' k0 tb' dt n' kk1 kk2 rw' bt y0 y1 t0 t1 u0 u1 I1 I2 I3 I4 I5
  refine enterCN (binds := [(ofString "store", .ref st), (ofString "blocks", .ref bl), (ofString "values", .ref vl), (ofString "thing", .ref ta), (ofString "value", v)]) X T keep (by rfl) (by rfl) (by decide) (BindsTo.of_eq rfl) (by rfl) (by decide +kernel) rfl rfl rfl ?_
  intro L' h₁ tk' cells' hL F' N' Y' X' T'
  k_cells Y'
  (try simp only [List.cons_append, List.nil_append] at N')
  with_reducible show wpAny _ _ _ _ _ _

  k_fold
  repeat' (first
    | ((with_reducible show wpAny _ _ (assign (Expr.Tuple _ _ _) _ (Value.ref ta)) _ _ _); k_dflt (refine' unpackN_ ?k1 ?k2 ?k3 ?k4 ?k5 ?k6 ?_; (case k1 => k_asm); (case k2 => k_asm); (case k3 => exact IsTup.keeps hT (by repeat (first | exact stays_refl | with_reducible assumption | refine stays_step (by with_reducible assumption) ?_))); (case k4 => exact rfl); (case k5 => exact rfl); (case k6 => exact rfl); k_whole); intro h' F' N'; (try k_sweep))
    | ((with_reducible show wpAny _ _ (getAttr _ _ _) _ _ _); k_dflt (refine' attr_any ?F ?X B hva ?S9 ?hk9 ?hC9 ?_; (case F => k_asm); (case X => k_asm); (case S9 => (repeat (first | exact stays_refl | with_reducible assumption | refine stays_step (by with_reducible assumption) ?_))); (case hk9 => exact rfl); (case hC9 => k_mem)); intro _ _; (try dsimp only))
    | (k_extra "attr")
    | (k_extra "meth")
    | (k_extra "def")
    | (k_extra "combo")
    | (k_unfold; (try dsimp only))
    | (k_end; wrow_close)
    | walk1
    | (dsimp only; walk1)
    | (leave1; (try dsimp only))
    | fail "no step")
  all_goals (try k_unfold)
  all_goals exact ret_mk (by repeat (first | exact stays_refl | with_reducible assumption | refine stays_step (by with_reducible assumption) ?_)) (by first | rfl | (refine congrArg Value.bool (decide_eq_true ?_); rfl) | exact congrArg Value.bool (beq_self_eq_true _) | trace_state)

theorem tells_other {w : World} {mean : ExcName → Option Value} {mg mb : PySem.Str → Option Value} {base : Heap} {s : Shared} {st bl vl ta : Nat} {vs es : List Value} {bk : Nat → Nat} {k2 : Tok} {v what : Value} {wd : PySem.Str}
    (X : (K w.params).In base) (T : Top q (looseW q loose) mean mg mb base) (keep : base.StaysIn s.heap) (hS : StoreAt w.params s.heap st) (hT : IsTup s.heap ta #[.str wd k2, what]) (h1 : (wd == ofString "number") = false) (h2 : (wd == ofString "char") = false) (h3 : (wd == ofString "symbol") = false) (h4 : (wd == ofString "port") = false) (h5 : (wd == ofString "block") = false) :
    codeAny (model P0 w) (ad 700 7000) (.call (.ref 910) ⟨[.ref st, .ref bl, .ref vl, .ref ta, v], []⟩) (Ret s [] fun r _ => r = .bool true) s := by
  refine StoreAt.elim (hS) ?_; intro ds n' k0 tb' dt n' kk1 kk2 rw' bt y0 y1 t0 t1 u0 u1 I1 I2 I3 I4 I5
  refine enterCN (binds := [(ofString "store", .ref st), (ofString "blocks", .ref bl), (ofString "values", .ref vl), (ofString "thing", .ref ta), (ofString "value", v)]) X T keep (by rfl) (by rfl) (by decide) (BindsTo.of_eq rfl) (by rfl) (by decide +kernel) rfl rfl rfl ?_
  intro L' h₁ tk' cells' hL F' N' Y' X' T'
  k_cells Y'
  (try simp only [List.cons_append, List.nil_append] at N')
  with_reducible show wpAny _ _ _ _ _ _

  k_fold
  repeat' (first
    | ((with_reducible show wpAny _ _ (assign (Expr.Tuple _ _ _) _ (Value.ref ta)) _ _ _); k_dflt (refine' unpackN_ ?k1 ?k2 ?k3 ?k4 ?k5 ?k6 ?_; (case k1 => k_asm); (case k2 => k_asm); (case k3 => exact IsTup.keeps hT (by repeat (first | exact stays_refl | with_reducible assumption | refine stays_step (by with_reducible assumption) ?_))); (case k4 => exact rfl); (case k5 => exact rfl); (case k6 => exact rfl); k_whole); intro h' F' N'; (try k_sweep))
    | ((with_reducible show ite ((_ != _) = true) _ _); rw [if_pos (by rw [bne, h5]; rfl)])
    | (k_extra "attr")
    | (k_extra "meth")
    | (k_extra "def")
    | (k_extra "combo")
    | (k_unfold; (try dsimp only))
    | (k_end; wrow_close)
    | walk1
    | (dsimp only; walk1)
    | (leave1; (try dsimp only))
    | fail "no step")
  all_goals (try k_unfold)
  all_goals exact ret_mk (by repeat (first | exact stays_refl | with_reducible assumption | refine stays_step (by with_reducible assumption) ?_)) (by first | rfl | (refine congrArg Value.bool (decide_eq_true ?_); rfl) | exact congrArg Value.bool (beq_self_eq_true _) | trace_state)
theorem handed_va {P : Params} {vs : List Value} {bk : Nat → Nat} {h : Heap} {v : Value} {t : Pl} (x : Va P vs h v t) (X : (K P).In h) (B : Blks P vs bk h) : handedIn v = true := by
  rcases (x.hasK X B).form with ⟨_, b, rfl⟩ | ⟨_, i, t, rfl⟩ | ⟨_, a, o, rfl, _⟩ <;> rfl
theorem pair_two {P : Params} {vs : List Value} {g : Heap} {N : Nat} {u1 u2 p1 p2 : Value} {a b : Pl} (h1 : ThAt g a p1) (h2 : ThAt g b p2) (v1 : Va P vs g u1 a) (v2 : Va P vs g u2 b) (o1 : OkT N a) (o2 : OkT N b) :
    ∀ (i : Nat) (x y : Value), [u1, u2].toArray[i]? = some x → [p1, p2].toArray[i]? = some y → ∃ t, ThAt g t y ∧ Va P vs g x t ∧ OkT N t := by
  intro i x y hx hy
  match i, hx, hy with
  | 0, hx, hy => cases Option.some.inj hx; cases Option.some.inj hy; exact ⟨a, h1, v1, o1⟩
  | 1, hx, hy => cases Option.some.inj hx; cases Option.some.inj hy; exact ⟨b, h2, v2, o2⟩
  | n + 2, hx, hy => simp at hx
theorem pair_one {P : Params} {vs : List Value} {g : Heap} {N : Nat} {u1 p1 : Value} {a : Pl} (h1 : ThAt g a p1) (v1 : Va P vs g u1 a) (o1 : OkT N a) :
    ∀ (i : Nat) (x y : Value), [u1].toArray[i]? = some x → [p1].toArray[i]? = some y → ∃ t, ThAt g t y ∧ Va P vs g x t ∧ OkT N t := by
  intro i x y hx hy
  match i, hx, hy with
  | 0, hx, hy => cases Option.some.inj hx; cases Option.some.inj hy; exact ⟨a, h1, v1, o1⟩
  | n + 1, hx, hy => simp at hx
/-- a block at rest -/
inductive BlkAt (P : Params) (vs es : List Value) (h : Heap) (i : Nat) : Prop
  | mk (e p x m : Nat) (po mo : Obj) (b : Bl) (k : Tok) (z0 : es[i]? = some (.ref e)) (z1 : vs[i]? = some (.ref x)) (z2 : h.IsList e #[.str b.word k, .ref p]) (z3 : h.get? p = some po) (z4 : h.get? m = some mo) (z5 : Po h po b) (z6 : Mo P vs h x m mo b) (z7 : b.Ok vs.length) : BlkAt P vs es h i
theorem tells_spec {w : World} {mean : ExcName → Option Value} {mg mb : PySem.Str → Option Value} {base : Heap} {s : Shared} {st bl vl ta : Nat} {vs es : List Value} {bk : Nat → Nat} {t : Pl} {v : Value}
    (X : (K w.params).In base) (T : Top q (looseW q loose) mean mg mb base) (keep : base.StaysIn s.heap) (hS : StoreAt w.params s.heap st) (hb : s.heap.IsList bl es.toArray) (hvl : s.heap.IsList vl vs.toArray) (hz : es.length ≤ 64) (hsz : vs.length ≤ 64) (hth : ThAt s.heap t (.ref ta)) (hva : Va w.params vs s.heap v t) (B : Blks w.params vs bk s.heap)
    (hblk : ∀ i, t = .block i → BlkAt w.params vs es s.heap i) :
    codeAny (model P0 w) (ad 700 7000) (.call (.ref 910) ⟨[.ref st, .ref bl, .ref vl, .ref ta, v], []⟩) (Ret s [] fun r _ => r = .bool true) s := by
  obtain ⟨a, xw, kw, what, e, hT, hW⟩ := hth
  obtain rfl : ta = a := Value.ref.inj e
  have oth : ∀ c, t.code = c → c ∈ [0, 7, 8, 9, 10, 11] → codeAny (model P0 w) (ad 700 7000) (.call (.ref 910) ⟨[.ref st, .ref bl, .ref vl, .ref ta, v], []⟩) (Ret s [] fun r _ => r = .bool true) s := fun c hc hm => by
    have tab : ∀ c ∈ [0, 7, 8, 9, 10, 11], ∀ x, wd[c]? = some x → (x == ofString "number") = false ∧ (x == ofString "char") = false ∧ (x == ofString "symbol") = false ∧ (x == ofString "port") = false ∧ (x == ofString "block") = false := by
      have : ([0, 7, 8, 9, 10, 11].all fun c => match wd[c]? with | some x => !(x == ofString "number") && !(x == ofString "char") && !(x == ofString "symbol") && !(x == ofString "port") && !(x == ofString "block") | none => true) = true := by decide +kernel
      intro c hc x hx
      have h := List.all_eq_true.mp this c hc
      rw [hx] at h
      simp only [Bool.and_eq_true, Bool.not_eq_true'] at h
      exact ⟨h.1.1.1.1, h.1.1.1.2, h.1.1.2, h.1.2, h.2⟩
    cases hW with
    | one k hn hx =>
      rw [hc] at hx
      obtain ⟨h1, h2, h3, h4, h5⟩ := tab c hm _ hx
      exact tells_other (vs := vs) (es := es) (bk := bk) X T keep hS hT h1 h2 h3 h4 h5
    | num hn => rw [hc] at hn; simp only [List.mem_cons, List.not_mem_nil, or_false] at hn hm; omega
  have hva0 := hva
  cases hva with
  | boolean => exact oth 0 rfl (by decide)
  | procedure => exact oth 7 rfl (by decide)
  | empty => exact oth 8 rfl (by decide)
  | unspecified => exact oth 9 rfl (by decide)
  | unassigned => exact oth 10 rfl (by decide)
  | eof => exact oth 11 rfl (by decide)
  | char I => cases hW with
    | one k hn hx => cases hx; exact tells_char (vs := vs) (es := es) X T keep hS hT hva0 B
    | num hn => exact absurd hn (by simp [Pl.code])
  | symbol I => cases hW with
    | one k hn hx => cases hx; exact tells_symbol (vs := vs) (es := es) X T keep hS hT hva0 B
    | num hn => exact absurd hn (by simp [Pl.code])
  | port I => cases hW with
    | one k hn hx => cases hx; exact tells_port (vs := vs) (es := es) X T keep hS hT hva0 B
    | num hn => exact absurd hn (by simp [Pl.code])
  | real I => cases hW with
    | one k hn => exact absurd hn (by simp [Pl.code])
    | num hn hy hd ht =>
      cases hy
      simp only [Pl.data, num, PyData.tuple.injEq, List.cons.injEq, PyData.str.injEq, PyData.int.injEq, true_and, and_true] at hd
      obtain ⟨_, rfl⟩ := hd
      exact tells_num (vs := vs) (es := es) (bk := bk) X T keep hS hT ht (by decide +kernel) fun S => num_real X T (fun x o e => S x o (keep x o e)) (I.stays S)
  | whole i tk => cases hW with
    | one k hn => exact absurd hn (by simp [Pl.code])
    | num hn hy hd ht =>
      cases hy
      simp only [Pl.data, num, PyData.tuple.injEq, List.cons.injEq, PyData.str.injEq, PyData.int.injEq, true_and, and_true] at hd
      obtain ⟨_, rfl⟩ := hd
      exact tells_num (vs := vs) (es := es) (bk := bk) X T keep hS hT ht (by decide +kernel) fun S => num_whole (x := 0) (k9 := tk) X T (fun x o e => S x o (keep x o e))
  | ratio I => cases hW with
    | one k hn => exact absurd hn (by simp [Pl.code])
    | num hn hy hd ht =>
      cases hy
      simp only [Pl.data, num, PyData.tuple.injEq, List.cons.injEq, PyData.str.injEq, PyData.int.injEq, true_and, and_true] at hd
      obtain ⟨_, rfl⟩ := hd
      exact tells_num (vs := vs) (es := es) (bk := bk) X T keep hS hT ht (by decide +kernel) fun S => num_ratio X T (fun x o e => S x o (keep x o e)) (I.stays S)
  | block hv =>
    rename_i i
    cases hW with
    | num hn => exact absurd hn (by simp [Pl.code])
    | one k3 hn hx =>
      cases hx
      obtain ⟨e, p, x, m, po, mo, b, k, h1, h2, h3, h4, h5, h6, h7, h8⟩ := hblk i rfl
      obtain rfl : v = .ref x := Option.some.inj (hv.symm.trans h2)
      have Xs := X.keeps keep
      have Ts := T.keeps keep
      refine tells_blk (vs := vs) (bk := bk) (wd := b.word) (k := k) X T keep hS hT hb (Int.natCast_nonneg i) hz h1 h3 ?_
      intro s' L o1 o2 o3 E Q F N c1 c2 c3 hQ
      cases h7 with
      | string I i2 => cases h6 with
        | string i1 =>
          have l2 := ints_len i2
          exact tb_string Xs Ts hS B hvl hsz F N c1 c2 c3 I ⟨_, h5, rfl, _, rfl⟩ i2 ⟨_, h4, rfl, _, rfl⟩ i1 (by rw [l2]; exact h8) hQ
      | pair I v1 v2 => cases h6 with
        | pair t1 t2 => exact tb_other (m := m) (wd := ofString "pair") Xs Ts hS B hvl hsz F N c1 c2 c3 (by decide +kernel) (by decide +kernel) (ps := [_, _]) ⟨_, h4, rfl, _, rfl⟩ (us := [_, _]) (fun S => parts_pair (n := 0) (d := true) Xs Ts S hS (handed_va v1 Xs B) (handed_va v2 Xs B) (S _ _ I) (S _ _ h5)) (by simp) (by simp) rfl (pair_two t1 t2 v1 v2 h8.1 h8.2) hQ
      | vector I v1 v2 => cases h6 with
        | vector t1 t2 => exact tb_other (m := m) (wd := ofString "vector") Xs Ts hS B hvl hsz F N c1 c2 c3 (by decide +kernel) (by decide +kernel) (ps := [_, _]) ⟨_, h4, rfl, _, rfl⟩ (us := [_, _]) (fun S => parts_vector (t1 := 0) (t2 := 0) (d := true) Xs Ts S hS (handed_va v1 Xs B) (handed_va v2 Xs B) (I.stays S) (S _ _ h5)) (by simp) (by simp) rfl (pair_two t1 t2 v1 v2 h8.1 h8.2) hQ
      | box I v1 => cases h6 with
        | box t1 => exact tb_other (m := m) (wd := ofString "box") Xs Ts hS B hvl hsz F N c1 c2 c3 (by decide +kernel) (by decide +kernel) (ps := [_]) ⟨_, h4, rfl, _, rfl⟩ (us := [_]) (fun S => parts_box (n := 0) (t2 := 0) (d := true) Xs Ts S hS (handed_va v1 Xs B) (handed_va v1 Xs B) (S _ _ I) (S _ _ h5)) (by simp) (by simp) rfl (pair_one t1 v1 h8) hQ
      | promise I v1 => cases h6 with
        | promise t1 => exact tb_promise Xs Ts hS B hvl hsz F N c1 c2 c3 I h5 ⟨_, h4, rfl, _, rfl⟩ (us := [_]) (fun S => parts_promise (n := 0) Xs Ts S hS (handed_va v1 Xs B) (handed_va v1 Xs B) (S _ _ I) (S _ _ h5)) (by simp) rfl (pair_one t1 v1 h8) hQ
theorem kw_blk (b : Bl) : words13.map (· == b.word) = ansOf b.cls := by
  have : ([(ofString "string", 197), (ofString "pair", 155), (ofString "vector", 218), (ofString "box", 239), (ofString "promise", 260)] : List (PySem.Str × Nat)).all (fun y => words13.map (· == y.1) == ansOf y.2) = true := by decide +kernel
  have h := fun y hy => beq_iff_eq.mp (List.all_eq_true.mp this y hy)
  cases b
  · exact h (_, _) (.head _)
  · exact h (_, _) (.tail _ (.head _))
  · exact h (_, _) (.tail _ (.tail _ (.head _)))
  · exact h (_, _) (.tail _ (.tail _ (.tail _ (.head _))))
  · exact h (_, _) (.tail _ (.tail _ (.tail _ (.tail _ (.head _)))))
theorem swap_map {v1 v2 : Value} {m : PySem.Str → Option Value} (y : PySem.Str) : (if y = ofString "many" then some v1 else if y = ofString "size" then some v2 else m y) = (if y = ofString "size" then some v2 else if y = ofString "many" then some v1 else m y) := by
  by_cases h : y = ofString "many"
  · rw [if_pos h, if_pos h, if_neg (by rw [h]; decide)]
  · rw [if_neg h, if_neg h]
theorem fr_swap {h₀ h : Heap} {L : Addr} {v1 v2 : Value} {m : PySem.Str → Option Value} (F : Fr h₀ L h (fun y => if y = ofString "many" then some v1 else if y = ofString "size" then some v2 else m y)) : Fr h₀ L h (fun y => if y = ofString "size" then some v2 else if y = ofString "many" then some v1 else m y) := by
  rwa [funext (swap_map (v1 := v1) (v2 := v2) (m := m))] at F
theorem fr_four {h₀ h : Heap} {L : Addr} {v1 v2 u1 u2 : Value} {m : PySem.Str → Option Value} (F : Fr h₀ L h (fun y => if y = ofString "many" then some v1 else if y = ofString "size" then some v2 else if y = ofString "size" then some u2 else if y = ofString "many" then some u1 else m y)) : Fr h₀ L h (fun y => if y = ofString "size" then some v2 else if y = ofString "many" then some v1 else m y) := by
  have : (fun y => if y = ofString "many" then some v1 else if y = ofString "size" then some v2 else if y = ofString "size" then some u2 else if y = ofString "many" then some u1 else m y) = (fun y => if y = ofString "size" then some v2 else if y = ofString "many" then some v1 else m y) := by
    funext y
    refine (swap_map (m := fun y => if y = ofString "size" then some u2 else if y = ofString "many" then some u1 else m y) y).trans ?_
    by_cases h : y = ofString "size"
    · simp [h]
    · by_cases h' : y = ofString "many" <;> simp [h, h']
  rwa [this] at F
theorem many_spec {w : World} {mean : ExcName → Option Value} {mg mb : PySem.Str → Option Value} {base : Heap} {s : Shared} {a : Nat} {vs : List Value} {ns : List Int}
    (X : (K w.params).In base) (T : Top q (looseW q loose) mean mg mb base) (keep : base.StaysIn s.heap) (hl : s.heap.IsList a vs.toArray) (hi : IntsAre vs ns) (hz : vs.length ≤ 63) :
    codeAny (model P0 w) (ad 800 8000) (.call (.ref 915) ⟨[.ref a], []⟩) (Ret s [] fun r _ => ∃ (n : Int) (t : Tok), r = .int n t ∧ 4 ≤ n ∧ n ≤ 14) s := by
  refine enterN (binds := [(ofString "script", .ref a)]) X T keep (by rfl) (by rfl) (by decide) (BindsTo.of_eq rfl) (locs rfl) (by decide) rfl rfl rfl ?_
  intro L' h₁ tk' hL F' N' X' T'

  k_fold
  repeat' (first
    | ((with_reducible show wpAny _ _ (exec (Stmt.While _ _ _ _) _) _ _ _); (have F9 := fr_swap (by k_asm)); refine While_inv (fun n m news => ∃ (z sz : Int) (t1 t2 : Tok), (∀ y, m y = if y = ofString "size" then some (.int sz t2) else if y = ofString "many" then some (.int z t1) else List.lookup y [(ofString "script", Value.ref a)].reverse) ∧ n = (14 - z).toNat ∧ 4 ≤ z ∧ z ≤ 14) F9 (by k_asm) ⟨4, _, _, _, fun y => rfl, rfl, by decide, by decide⟩ ?turn9; (case' turn9 => (intro n' m' news' h' tk' F' N' hJ'; (obtain ⟨z', sz', t1', t2', hm', hn', hz1', hz2'⟩ := hJ'); (obtain rfl := funext hm'); clear hm')))
    | (k_extra "attr")
    | (k_extra "meth")
    | (k_extra "def")
    | (k_extra "combo")
    | (k_unfold; (try dsimp only))
    | (k_end; wrow_close)
    | walk1
    | (dsimp only; walk1)
    | (leave1; (try dsimp only))
    | fail "no step")
  all_goals (try k_unfold)
  all_goals first
    | exact ret_mk (by repeat (first | exact stays_refl | with_reducible assumption | refine stays_step (by with_reducible assumption) ?_)) ⟨_, _, rfl, hz1', hz2'⟩
    | (have F9 := fr_four (by k_asm)); exact WhileStep.intro F9 (by k_asm) (n' := (14 - (z' + 1)).toNat) (by omega) ⟨z' + 1, _, _, _, fun y => rfl, rfl, by omega, by omega⟩

theorem rest_indT {prog : Program} {w : World} {A : Around} {h₀ : Heap} {L : Addr} {m : PySem.Str → Option Value} {env : Env} {ct elt : PySem.Expr} {x : PySem.Str} {scope : Scope} {cl : List (PySem.Str × Addr)} {s : Shared} {S : Led → Prop} {P : Nat → Value → Prop} {Fin : List Value → Led → Prop} {news : Led} {n : Nat} {R : Value → Prop}
    (step : ∀ (i : Nat) (ys : List Value) (v : Value) (I : Nat) (oI : Obj) (C : Nat) (oC : Obj) (D : Nat) (m₂ : PySem.Str → Option Value) (h : Heap) (tk : Nat) (E' : Value → Shared → Prop), i < n → P i v → LCg.NsObj oC m₂ → m₂ x = some v → Fr h₀ L h m → News h₀ L h ((I, oI) :: (C, oC) :: (D, LCg.lst ys) :: news) → LCg.Off3 I C D news → ((@Ne Nat I C) ∧ (@Ne Nat I D) ∧ (@Ne Nat C D)) →
      wpAny (model prog w) A (isTrue ct (compEnvC scope cl C env) (eval ct (compEnvC scope cl C env))) (fun ok s' => if ok = true then
        wpAny (model prog w) A (eval elt (compEnvC scope cl C env)) (LCg.CompEnd h₀ L m { s with heap := h, toks := tk } I oI C oC D (LCg.lst ys) S (fun y news' => R y ∧ news' = news)) E' s'
        else LCg.CompEnd h₀ L m { s with heap := h, toks := tk } I oI C oC D (LCg.lst ys) S (fun _ news' => news' = news) Value.none s') E' { s with heap := h, toks := tk })
    (fin : ∀ ys : List Value, (∀ y ∈ ys, R y) → ys.length ≤ n → Fin ys news) : LCt.CompRestT prog w A h₀ L m env ct elt x scope cl s S P Fin n 0 [] news := by
  have key : ∀ k i ys, i + k = n → ys.length ≤ i → (∀ y ∈ ys, R y) → LCt.CompRestT prog w A h₀ L m env ct elt x scope cl s S P Fin k i ys news := by
    intro k
    induction k with
    | zero => intro i ys e l r; obtain rfl : i = n := by omega
              exact fin ys r l
    | succ k ih =>
      intro i ys e l r
      refine LCt.CompRestT.succ fun v I oI C oC D m₂ h tk E' hv hC hx F N off ne => ?_
      refine wpAny_mono (step i _ v I oI C oC D m₂ h tk E' (by omega) hv hC hx F N off ne) (fun ok s₂ q => ?_) fun _ _ e => e
      cases ok with
      | true =>
        simp only [if_true] at q ⊢
        refine wpAny_mono q (fun y s₃ q => ?_) fun _ _ e => e
        obtain ⟨h', tk', news', a, b, c, d, e1, e2, rfl⟩ := q
        exact ⟨h', tk', _, a, b, c, d, e1, ih (i + 1) (ys ++ [y]) (by omega) (by simp; omega) fun z hz => by
          rcases List.mem_append.mp hz with hz | hz
          · exact r z hz
          · rw [List.mem_singleton.mp hz]; exact e2⟩
      | false =>
        simp only [Bool.false_eq_true, if_false] at q ⊢
        obtain ⟨h', tk', news', a, b, c, d, e1, rfl⟩ := q
        exact ⟨h', tk', _, a, b, c, d, e1, ih (i + 1) ys (by omega) (by omega) r⟩
  exact key n 0 [] (by omega) (by simp) (fun _ h => nomatch h)
theorem ys24 {ys : List Value} {ns : List Int} {f : Int → Int} (h : IntsAre ys (List.map f (List.take 24 ns))) : ys.length ≤ 24 := by
  have := ints_len h
  rw [List.length_map, List.length_take] at this
  omega
theorem ints_at {ys : List Value} {cs : List Int} (h : IntsAre ys cs) : ∀ {i : Nat} {v : Value}, ys.toArray[i]? = some v → ∃ (c : Int) (t : Tok), v = .int c t := by
  induction h with
  | nil => intro i v e; simp at e
  | cons n t _ ih =>
    intro i v e
    cases i with
    | zero => exact ⟨n, t, by simpa using e.symm⟩
    | succ i => exact ih (i := i) (by simpa using e)
theorem ints_ex : ∀ {ys : List Value}, (∀ y ∈ ys, ∃ (c : Int) (t : Tok), y = .int c t) → ∃ cs, IntsAre ys cs
  | [], _ => ⟨[], .nil⟩
  | y :: r, h => by
    obtain ⟨c, t, rfl⟩ := h y (.head _)
    obtain ⟨cs, i⟩ := ints_ex (ys := r) fun z hz => h z (.tail _ hz)
    exact ⟨c :: cs, .cons c t i⟩

theorem deck_spec {w : World} {mean : ExcName → Option Value} {mg mb : PySem.Str → Option Value} {base : Heap} {s : Shared} {a : Nat} {vs : List Value} {ns : List Int}
    (X : (K w.params).In base) (T : Top q (looseW q loose) mean mg mb base) (keep : base.StaysIn s.heap) (hl : s.heap.IsList a vs.toArray) (hi : IntsAre vs ns) (hz : vs.length ≤ 63) :
    codeAny (model P0 w) (ad 800 8000) (.call (.ref 841) ⟨[.ref a], []⟩) (Ret s [] fun r h' => ∃ (d c : Nat) (dO cO : Obj), r = .ref d ∧ d ≠ c ∧ s.heap.get? d = none ∧ s.heap.get? c = none ∧ h'.get? d = some dO ∧ h'.get? c = some cO ∧ Dk c dO cO) s := by
  refine enterN (binds := [(ofString "script", .ref a)]) X T keep (by rfl) (by rfl) (by decide) (BindsTo.of_eq rfl) (locs rfl) (by decide) rfl rfl rfl ?_
  intro L' h₁ tk' hL F' N' X' T'

  k_fold
  repeat' (first
    | ((with_reducible show wpAny _ _ (eval (Expr.ListComp _ [Comprehension.mk _ _ [_] _] _ _) _) _ _ _); k_dflt (refine LCt.ListComp_T (F₀ := by k_asm) (by with_unfolding_all rfl) (by decide) (by rfl) (by decide) (by rfl) ?_))
    | ((with_reducible show LCt.CompSrcT _ _ _ _ _ _ _ _ _ _ _ _ _ _ _); k_dflt (refine' LCt.CompSrcT.ledger ?y1 ?y2 ?y3 ?y4 ?y5 ?_; (case y1 => rfl); (case y2 => k_asm); (case y3 => k_asm); (case y4 => k_mem); (case y5 => exact Nat.le_trans (ys24 (by assumption)) (Nat.le_of_ble_eq_true rfl))); intro g'; refine rest_indT (R := fun y => ∃ (i : Int) (t : Tok), y = .int i t) ?st9 ?fin9; (case' st9 => (intro i' ys' v' I' oI' C' oC' D' m' h' tk' E' hi' hv' hC' hx' F' N' off' ne'; (obtain ⟨c9', t9', hv9'⟩ := ints_at (by assumption) hv'); subst hv9'; clear hv'; (obtain ⟨offI', offC', offD'⟩ := off_all (oC := oI') (oD := oI') off' ne'); clear off' ne'; (try dsimp only))); (case' fin9 => intro ys9 hr9 hl9))
    | ((with_reducible show LCg.CompEnd _ _ _ _ _ _ _ _ _ _ _ _ _ _); exact comp_end0 F' N' (offr2 offI' rfl) (offr1 offC' rfl) (offr0 offD' rfl) (.inr ⟨_, by k_mem, rfl, _, rfl⟩) (by first | exact rfl | exact ⟨⟨_, _, rfl⟩, rfl⟩))
    | ((with_reducible show LCg.FinE _ _ _ _ _ _ _); (unfold LCg.FinE); intro D' h' tk' F' N' o1'; replace o1' := off_one o1'; (try simp only [List.nil_append, List.cons_append] at N'); (try dsimp only))
    | (k_extra "attr")
    | (k_extra "meth")
    | (k_extra "def")
    | (k_extra "combo")
    | (k_unfold; (try dsimp only))
    | (k_end; wrow_close)
    | walk1
    | (dsimp only; walk1)
    | (leave1; (try dsimp only))
    | fail "no step")
  all_goals (try k_unfold)
  obtain ⟨cs, hcs⟩ := ints_ex hr9
  exact ret_mk (by repeat (first | exact stays_refl | with_reducible assumption | refine stays_step (by with_reducible assumption) ?_)) ⟨_, D', _, LCg.lst ys9, rfl, by k_ne, News.fresh (by k_asm) (by k_mem), News.fresh (by k_asm) (by k_mem), News.get (by k_asm) (by k_mem), News.get (by k_asm) (by k_mem), ⟨ys9, cs, _, _, _, _, _, _, rfl, rfl, hcs, Nat.le_trans hl9 (ys24 (by assumption))⟩⟩
/-- the law's state, seen past the objects ws that the loops change -/
noncomputable def View (P : Params) (base : Heap) (d c bl vl : Nat) (ws : List Nat) (h : Heap) (σ : List Rec) : Prop := ∃ hv, St P base d c bl vl hv σ ∧ hv.StaysIn h ∧ ∀ a ∈ ws, hv.get? a = none
theorem View.mono {P : Params} {base : Heap} {d c bl vl : Nat} {ws : List Nat} {h h' : Heap} {σ : List Rec} (V : View P base d c bl vl ws h σ) (k : ∀ b o, b ∉ ws → h.get? b = some o → h'.get? b = some o) : View P base d c bl vl ws h' σ := by
  obtain ⟨hv, S, Sv, n⟩ := V
  exact ⟨hv, S, fun b o e => k b o (fun q => by rw [n b q] at e; cases e) (Sv b o e), n⟩
theorem not_ws {hv : Heap} {ws : List Nat} (n : ∀ a ∈ ws, hv.get? a = none) {a : Nat} {o : Obj} (e : hv.get? a = some o) : a ∉ ws := fun q => by rw [n a q] at e; cases e
theorem fresh_ws {h0 : Heap} {ws : List Nat} (l : ∀ a ∈ ws, ∃ o, h0.get? a = some o) {a : Nat} (e : h0.get? a = none) : a ∉ ws := fun q => by obtain ⟨o, x⟩ := l a q; rw [x] at e; cases e
theorem none_sub {g h : Heap} (S : g.StaysIn h) {a : Nat} (e : h.get? a = none) : g.get? a = none := by
  cases q : g.get? a with
  | none => rfl
  | some o => rw [S _ _ q] at e; cases e
theorem view_change {P : Params} {base : Heap} {d c bl vl : Nat} {ws : List Nat} {h0 h' hv : Heap} {σ : List Rec} (S : St P base d c bl vl hv σ) (Sv : hv.StaysIn h0) (n : ∀ a ∈ ws, hv.get? a = none) (l : ∀ a ∈ ws, ∃ o, h0.get? a = some o) (M : ChOut P d c bl vl σ hv h0 h') :
    ∃ σ', View P base d c bl vl ws h' σ' ∧ σ'.length = σ.length := by
  refine ChOut.elim M ?_; rintro pre post r e' p' po' mo' b' imm dO' cO' n1 n2 k rfl D a1 a2 a3 a4 a5 a6 hp' im ok kp f
  obtain ⟨dO, cO, _, hd, hc⟩ := S.dk
  obtain ⟨_, hb⟩ := S.hb
  obtain ⟨_, hv'⟩ := S.hv
  have hr : r ∈ pre ++ r :: post := by simp
  have nd := not_ws n hd
  have nc := not_ws n hc
  have nb := not_ws n hb
  have nv := not_ws n hv'
  have nm := not_ws n (S.hp r hr).2
  have np : p' ∉ ws := by
    rcases hp' with rfl | e
    · exact not_ws n (S.hp r hr).1
    · exact fresh_ws l e
  have M' : ChOut P d c bl vl (pre ++ r :: post) hv hv (hideAll h' ws) := ⟨pre, post, r, e', p', po', mo', b', imm, dO', cO', n1, n2, k, rfl, D, hideAll_get _ a1 nd, hideAll_get _ a2 nc, hideAll_get _ a3 nb, hideAll_get _ a4 nv, hideAll_get _ a5 np, hideAll_get _ a6 nm,
    hp'.imp id (fun e => none_sub Sv e), fun q hq => ⟨hideAll_get _ (im q hq).1 (fresh_ws l (im q hq).2.1), none_sub Sv (im q hq).2.1, (im q hq).2.2⟩, ok, fun a o e na => hideAll_get _ (kp a o (Sv _ _ e) na) (not_ws n e), f⟩
  obtain ⟨σ', S', e⟩ := st_change S M'
  exact ⟨σ', ⟨_, S', fun b o e => of_hideAll _ e, fun a ha => hideAll_none _ ha⟩, e⟩
theorem view_make {P : Params} {base : Heap} {d c bl vl n1 n2 : Nat} {ws : List Nat} {h0 h' hv : Heap} {σ : List Rec} (S : St P base d c bl vl hv σ) (Sv : hv.StaysIn h0) (n : ∀ a ∈ ws, hv.get? a = none) (l : ∀ a ∈ ws, ∃ o, h0.get? a = some o) (M : MkOut P (xsOf σ) (esOf σ) base (hideAll h0 [d, c, bl, vl]) d c bl vl n1 n2 h') :
    ∃ r, View P base d c bl vl ws h' (σ ++ [r]) := by
  refine MkOut.elim M ?_; intro e x p m po mo imm b dO' cO' k D a1 a2 a3 a4 a5 a6 g1 g2 g3 ne npm im ok f kp
  obtain ⟨dO, cO, _, hd, hc⟩ := S.dk
  obtain ⟨_, hb⟩ := S.hb
  obtain ⟨_, hv'⟩ := S.hv
  have n4 : ∀ a ∈ ws, a ∉ ([d, c, bl, vl] : List Nat) := fun a ha q => by
    have := n a ha
    simp only [List.mem_cons, List.not_mem_nil, or_false] at q
    rcases q with rfl | rfl | rfl | rfl
    · rw [hd] at this; cases this
    · rw [hc] at this; cases this
    · rw [hb] at this; cases this
    · rw [hv'] at this; cases this
  have l4 : ∀ a ∈ ws, ∃ o, (hideAll h0 [d, c, bl, vl]).get? a = some o := fun a ha => by
    obtain ⟨o, e⟩ := l a ha
    exact ⟨o, hideAll_get _ e (n4 a ha)⟩
  have S4 : (hideAll hv [d, c, bl, vl]).StaysIn (hideAll h0 [d, c, bl, vl]) := fun a o e => hideAll_get _ (Sv _ _ (of_hideAll _ e)) (not_mem_hide e)
  obtain ⟨r, S'⟩ := st_make (h' := hideAll h' ws) S ⟨e, x, p, m, po, mo, imm, b, dO', cO', k, D, hideAll_get _ a1 (not_ws n hd), hideAll_get _ a2 (not_ws n hc), hideAll_get _ a3 (not_ws n hb), hideAll_get _ a4 (not_ws n hv'), hideAll_get _ a5 (fresh_ws l4 g1), hideAll_get _ a6 (fresh_ws l4 g2),
    none_sub S4 g1, none_sub S4 g2, none_sub S4 g3, ne, npm, fun q hq => ⟨hideAll_get _ (im q hq).1 (fresh_ws l4 (im q hq).2.1), none_sub S4 (im q hq).2.1, (im q hq).2.2⟩, ok, f, fun a o q => hideAll_get _ (kp _ _ (S4 _ _ q)) (not_ws n (of_hideAll _ q))⟩
  exact ⟨r, _, S', fun b o e => of_hideAll _ e, fun a ha => hideAll_none _ ha⟩
/-- a loop whose turns keep a fact of the heap -/
theorem for_inv {prog : Program} {w : World} {A : Around} {s : Shared} {env : Env} {target : PySem.Expr} {body : List Stmt} {R : Result → Shared → Prop} {I : Addr} {fp wr : List Addr} {n : Nat} {P Md : Nat → Value → Heap → Prop} {StI : Nat → Heap → Prop} (W : KTurns prog w A target I fp wr n P Md StI) (Inv : Nat → Heap → Prop)
    (hI : ∀ i h h', Inv i h → (∀ b o, b ∉ wr → h.get? b = some o → h'.get? b = some o) → Inv i h') (hst : StI 0 s.heap) (h0 : Inv 0 s.heap)
    (step : ∀ i v h tk, i < n → P i v h → StI (i + 1) h → Inv i h → wpAny (model prog w) A (assign target env v) (fun _ s₂ => wpAny (model prog w) A (execs body env) (fun f s₃ => match f with
        | .ret v => R (.ok (.ret v)) s₃
        | .brk => R (.ok .next) s₃
        | _ => ∃ h' tk', s₃ = { s with heap := h', toks := tk' } ∧ StI (i + 1) h' ∧ Inv (i + 1) h') (notedBy (model prog w) A env fun e s' => R (.error e) s') s₂) (notedBy (model prog w) A env fun e s' => R (.error e) s') { s with heap := h, toks := tk })
    (fin : ∀ h tk, Inv n h → R (.ok .next) { s with heap := h, toks := tk }) : codeAny (model prog w) A (.forLoop target (.ref I) body [] env) R s := by
  refine codeAny_forLoop_any (fun k s' => ∃ h' tk i, s' = { s with heap := h', toks := tk } ∧ StI i h' ∧ Inv i h' ∧ i ≤ n ∧ k = n + 1 - i) ?_ (n + 1) ⟨s.heap, s.toks, 0, rfl, hst, h0, Nat.zero_le _, rfl⟩
  rintro k s' ⟨h', tk, i, rfl, hst', hJ, hi, rfl⟩
  by_cases hlt : i < n
  · refine W.item i _ _ _ hlt hst' fun v h₁ tk₁ hMd hk₁ => ?_
    refine W.go i v _ _ _ hMd fun h₂ hP hst₂ hk₂ => ?_
    refine wpAny_mono (step i v h₂ tk₁ hlt hP hst₂ (hI _ _ _ hJ fun b o hb x => hk₂ b o hb (hk₁ b o hb x))) (fun _ s₂ h₂' => wpAny_mono h₂' (fun f s₃ h₃ => ?_) fun _ _ e => e) fun _ _ e => e
    cases f with
    | ret v => exact h₃
    | brk => exact h₃
    | cont =>
      obtain ⟨h₄, tk₄, rfl, st4, i4⟩ := h₃
      exact ⟨n + 1 - (i + 1), by omega, h₄, tk₄, i + 1, rfl, st4, i4, hlt, rfl⟩
    | next =>
      obtain ⟨h₄, tk₄, rfl, st4, i4⟩ := h₃
      exact ⟨n + 1 - (i + 1), by omega, h₄, tk₄, i + 1, rfl, st4, i4, hlt, rfl⟩
  · obtain rfl : i = n := Nat.le_antisymm hi (Nat.not_lt.mp hlt)
    refine W.done _ _ _ hst' fun h₁ tk₁ hk₁ => wpAny_execs_nil ?_
    exact fin h₁ tk₁ (hI _ _ _ hJ hk₁)
theorem view_led {P : Params} {b0 g h0 h1 hv : Heap} {d c bl vl L n n' : Nat} {ws : List Nat} {σ : List Rec} {m : PySem.Str → Option Value} {news tl : Led} {dO1 cO1 : Obj} (S : St P b0 d c bl vl hv σ) (Sv : hv.StaysIn h0) (nw : ∀ a ∈ ws, hv.get? a = none) (hL : L ∈ ws) (F : Fr g L h1 m) (N : News g L h1 news) (D : Dk c dO1 cO1)
    (m1 : (d, dO1) ∈ news) (m2 : (c, cO1) ∈ news) (m3 : (bl, listOf (esOf σ).toArray n) ∈ news) (m4 : (vl, listOf (xsOf σ).toArray n') ∈ news) (sub : ∀ q ∈ tl, q ∈ news) (ht : ∀ a o, h0.get? a = some o → g.get? a = none → a ∉ ([L, d, c, bl, vl] : List Nat) → (a, o) ∈ tl) (ge : g.StaysIn h0) :
    St P b0 d c bl vl (hideAll h1 ws) σ ∧ ∀ a o, h0.get? a = some o → a ∉ ([L, d, c, bl, vl] : List Nat) → h1.get? a = some o := by
  have k : ∀ a o, h0.get? a = some o → a ∉ ([L, d, c, bl, vl] : List Nat) → h1.get? a = some o := fun a o e na => by
    cases q : g.get? a with
    | some o' => have := ge _ _ q; rw [e] at this; cases this; exact F.keep _ _ q
    | none => exact N.get (sub _ (ht a o e q na))
  refine ⟨?_, k⟩
  have kv : ∀ a o, hv.get? a = some o → a ∉ ([d, c, bl, vl] : List Nat) → (hideAll h1 ws).get? a = some o := fun a o e na => by
    refine hideAll_get _ (k a o (Sv _ _ e) fun q => ?_) (not_ws nw e)
    rcases List.mem_cons.mp q with rfl | q
    · exact not_ws nw e hL
    · exact na q
  obtain ⟨dO, cO, _, hd, hc⟩ := S.dk
  obtain ⟨_, hb⟩ := S.hb
  obtain ⟨_, hx⟩ := S.hv
  have nd := S.nd
  rw [muts, List.nodup_append] at nd
  have off4 : ∀ r ∈ σ, r.p ∉ ([d, c, bl, vl] : List Nat) ∧ r.m ∉ ([d, c, bl, vl] : List Nat) := fun r hr =>
    ⟨fun w => nd.2.2 _ w _ (List.mem_flatMap.mpr ⟨r, hr, .head _⟩) rfl, fun w => nd.2.2 _ w _ (List.mem_flatMap.mpr ⟨r, hr, .tail _ (.head _)⟩) rfl⟩
  refine ⟨⟨_, _, D, hideAll_get _ (N.get m1) (not_ws nw hd), hideAll_get _ (N.get m2) (not_ws nw hc)⟩, ⟨_, hideAll_get _ (N.get m3) (not_ws nw hb)⟩, ⟨_, hideAll_get _ (N.get m4) (not_ws nw hx)⟩, fun r hr => ⟨kv _ _ (S.hp r hr).1 (off4 r hr).1, kv _ _ (S.hp r hr).2 (off4 r hr).2⟩, S.nd, S.nb, fun a o e => ?_, fun r hr => (S.gd r hr).stays fun a o e => ?_, S.xs⟩
  · refine kv _ _ (S.keep _ _ e) fun q => ?_
    rw [S.nb a (List.mem_append.mpr (.inl q))] at e; cases e
  · have n := not_mem_hide e
    exact hideAll_get _ (kv _ _ (of_hideAll _ e) fun q => n (List.mem_append.mpr (.inl q))) n
/-- what a turn hands on -/
noncomputable def Turned (P : Params) (b0 : Heap) (d c bl vl : Nat) (ws : List Nat) (h h' : Heap) (σ : List Rec) : Prop := (∃ σ', View P b0 d c bl vl ws h' σ' ∧ σ'.length ≤ σ.length + 1) ∧ ∀ a ∈ ws, ∀ o, h.get? a = some o → h'.get? a = some o
section
variable {w : World} {A : Around} {E : Value → Shared → Prop} {s : Shared} {Q : Value → Shared → Prop} {mean : ExcName → Option Value} {mg mb : PySem.Str → Option Value} {b0 : Heap} {d c bl vl st : Nat} {ws : List Nat} {σ : List Rec}
theorem no4 {P : Params} {hv h : Heap} (S : St P b0 d c bl vl hv σ) (n : ∀ a ∈ ws, hv.get? a = none) : ∀ a ∈ ws, a ∉ ([d, c, bl, vl] : List Nat) := fun a ha q => by
  obtain ⟨o, e⟩ := S.live a (List.mem_append.mpr (.inl q))
  rw [n a ha] at e; cases e
theorem call_make (Xb : (K w.params).In b0) (Tb : Top q (looseW q loose) mean mg mb b0) (hS : StoreAt w.params b0 st) (S : St w.params b0 d c bl vl (hideAll s.heap ws) σ) (lw : ∀ a ∈ ws, ∃ o, s.heap.get? a = some o) (hsz : σ.length ≤ 64)
    (hh : A.handled = none) (hd : A.depth ≤ 700) (hu : A.units ≤ 7000) (h : ∀ h' tk, Turned w.params b0 d c bl vl ws s.heap h' σ → Q .none { s with heap := h', toks := tk }) : wpAny (model P0 w) A (call (.ref 874) [.ref d, .ref st, .ref bl, .ref vl]) Q E s := by
  obtain ⟨dO, cO, D, e1, e2⟩ := S.dk
  obtain ⟨_, e3⟩ := S.hb
  obtain ⟨_, e4⟩ := S.hv
  have nn := S.nb
  have nd := S.nd
  rw [muts, List.nodup_append] at nd
  have nd4 := nd.1
  simp only [List.nodup_cons, List.mem_cons, List.not_mem_nil, or_false, not_or] at nd4
  obtain ⟨⟨dc, q2, q3⟩, ⟨q4, q5⟩, q6, _⟩ := nd4
  have hw : ∀ a ∈ ws, (hideAll s.heap ws).get? a = none := fun a ha => hideAll_none _ ha
  have sub : (hideAll s.heap ws).StaysIn s.heap := fun _ _ e => of_hideAll _ e
  have m4 : ∀ a ∈ ([d, c, bl, vl] : List Nat), a ∈ muts d c bl vl σ := fun a ha => List.mem_append.mpr (.inl ha)
  refine wpAny_call (codeAny_mono (code_weak (make_spec Xb Tb (fun _ _ e => sub _ _ (S.keep _ _ e)) dc D hS (sub _ _ e1) (sub _ _ e2) (sub _ _ e3) (sub _ _ e4) (nn d (m4 _ (by simp))) (nn c (m4 _ (by simp))) (nn bl (m4 _ (by simp))) (nn vl (m4 _ (by simp))) q2 q3 q4 q5 q6 (by simpa [xsOf] using hsz) (by simpa [esOf] using hsz) (by simp [esOf, xsOf])) hh hd hu) fun r s' hr => ?_)
  obtain ⟨h', tk, rfl, rfl, M⟩ := hr
  have kp : ∀ a ∈ ws, ∀ o, s.heap.get? a = some o → h'.get? a = some o := fun a ha o e => by
    refine MkOut.elim M ?_; intro _ _ _ _ _ _ _ _ _ _ _ _ _ _ _ _ _ _ _ _ _ _ _ _ _ _ kp
    exact kp _ _ (hideAll_get _ e (no4 (h := s.heap) S hw a ha))
  obtain ⟨r, V⟩ := view_make S sub hw lw M
  exact h h' tk ⟨⟨_, V, by simp⟩, kp⟩
theorem call_change (Xb : (K w.params).In b0) (Tb : Top q (looseW q loose) mean mg mb b0) (hS : StoreAt w.params b0 st) (S : St w.params b0 d c bl vl (hideAll s.heap ws) σ) (lw : ∀ a ∈ ws, ∃ o, s.heap.get? a = some o) (hsz : σ.length ≤ 64) (hne : σ ≠ [])
    (hh : A.handled = none) (hd : A.depth ≤ 700) (hu : A.units ≤ 7000) (h : ∀ h' tk, Turned w.params b0 d c bl vl ws s.heap h' σ → Q .none { s with heap := h', toks := tk }) : wpAny (model P0 w) A (call (.ref 881) [.ref d, .ref st, .ref bl, .ref vl]) Q E s := by
  have hw : ∀ a ∈ ws, (hideAll s.heap ws).get? a = none := fun a ha => hideAll_none _ ha
  have sub : (hideAll s.heap ws).StaysIn s.heap := fun _ _ e => of_hideAll _ e
  refine wpAny_call (codeAny_mono (code_weak (change_spec Xb Tb (fun _ _ e => sub _ _ (S.keep _ _ e)) hS S sub hne hsz) hh hd hu) fun r s' hr => ?_)
  obtain ⟨h', tk, rfl, rfl, M⟩ := hr
  have kp : ∀ a ∈ ws, ∀ o, s.heap.get? a = some o → h'.get? a = some o := fun a ha o e => by
    refine ChOut.elim M ?_; rintro pre post r _ _ _ _ _ _ _ _ _ _ _ rfl _ _ _ _ _ _ _ _ _ _ kp _
    have hr : r ∈ pre ++ r :: post := by simp
    have n4 := no4 (h := s.heap) S hw a ha
    refine kp _ _ e fun q => ?_
    have q : a ∈ ([d, c, bl, vl] : List Nat) ++ [r.p, r.m] := q
    rcases List.mem_append.mp q with q | q
    · exact n4 q
    · simp only [List.mem_cons, List.not_mem_nil, or_false] at q
      rcases q with rfl | rfl
      · have := (S.hp r hr).1; rw [hw _ ha] at this; cases this
      · have := (S.hp r hr).2; rw [hw _ ha] at this; cases this
  obtain ⟨σ', V, el⟩ := view_change S sub hw lw M
  exact h h' tk ⟨⟨_, V, by omega⟩, kp⟩
end
theorem eq_nil_led {w : World} {A : Around} {E : Value → Shared → Prop} {s : Shared} {h₀ : Heap} {L : Addr} {news : Led} {D e n n' : Nat} {pv : List Value} {Q : Value → Shared → Prop} (N : News h₀ L s.heap news) (hm : (D, listOf pv.toArray n) ∈ news) (he : (e, listOf #[] n') ∈ news) (hu : A.units < cLine) (h : Q (.bool (decide (pv.length = 0))) s) : wpAny (model P0 w) A (compareOp .Eq (.ref D) (.ref e)) Q E s := by
  have hb : s.heap.IsList e #[] := N.isList he
  have hl' : s.heap.IsList D pv.toArray := N.isList hm
  cases pv with
  | nil => exact PySem.SeqAt.RcAt.lists (e := fun _ => true) hl' hb rfl hu (fun j h1 => absurd h1 (by simp)) P0 w E Q h
  | cons x r => exact PySem.SeqAt.RcAt.lists_lengths hl' hb (by simp) hu P0 w E Q (by simpa using h)
theorem fr_ns {g h : Heap} {L : Addr} {m : PySem.Str → Option Value} (F : Fr g L h m) : h.Ns L m := F.ns
theorem lw_of {h0 h1 : Heap} {L d c bl vl : Nat} {ws : List Nat} {m : PySem.Str → Option Value} (k : ∀ a o, h0.get? a = some o → a ∉ ([L, d, c, bl, vl] : List Nat) → h1.get? a = some o) (F : h1.Ns L m) (n4 : ∀ a ∈ ws, a ∉ ([d, c, bl, vl] : List Nat)) (lw : ∀ a ∈ ws, ∃ o, h0.get? a = some o) : ∀ a ∈ ws, ∃ o, h1.get? a = some o := fun a ha => by
  by_cases e : a = L
  · obtain ⟨o, _, _, x, _⟩ := F; exact ⟨o, e ▸ x⟩
  · obtain ⟨o, x⟩ := lw a ha
    exact ⟨o, k a o x fun q => by rcases List.mem_cons.mp q with q | q; exact e q; exact n4 a ha q⟩
theorem turn_on {P : Params} {b0 h0 h1 h2 : Heap} {L d c bl vl : Nat} {ws : List Nat} {σ : List Rec} {m : PySem.Str → Option Value} (T : Turned P b0 d c bl vl ws h1 h2 σ) (k : ∀ a o, h0.get? a = some o → a ∉ ([L, d, c, bl, vl] : List Nat) → h1.get? a = some o) (F : h1.Ns L m) (n4 : ∀ a ∈ ws, a ∉ ([d, c, bl, vl] : List Nat)) (hL : L ∈ ws) :
    (∃ σ', View P b0 d c bl vl ws h2 σ' ∧ σ'.length ≤ σ.length + 1) ∧ (∀ a ∈ ws, a ≠ L → ∀ o, h0.get? a = some o → h2.get? a = some o) ∧ h2.Ns L m :=
  ⟨T.1, fun a ha e o x => T.2 a ha o (k a o x fun q => by rcases List.mem_cons.mp q with q | q; exact e q; exact n4 a ha q), F.at' fun o e => T.2 L hL o e⟩
noncomputable def forBody : Stmt → List Stmt
  | .For _ _ b _ _ => b
  | _ => []
noncomputable def lbody : List Stmt := forBody ((sBody (stm 55))[3]?.getD (.Pass default))

theorem law_turn {w : World} {mean : ExcName → Option Value} {mg mb : PySem.Str → Option Value} {g b0 hv : Heap} {s : Shared} {E : Value → Shared → Prop} {Q : Flow → Shared → Prop} {a fa L d c bl vl st th sy tb : Nat} {oS oV : Obj} {cd tv9 : Value} {ws : List Nat} {σ : List Rec}
    (X : (K w.params).In g) (T : Top q (looseW q loose) mean mg mb g) (Xb : (K w.params).In b0) (Tb : Top q (looseW q loose) mean mg mb b0) (hS : StoreAt w.params b0 st) (F : Fr g L s.heap (fun y => if y = ofString "turn" then some tv9 else if y = ofString "things" then some (.ref th) else if y = ofString "symbols" then some (.ref sy) else if y = ofString "table" then some (.ref tb) else if y = ofString "blocks" then some (.ref bl) else if y = ofString "deck" then some (.ref d) else bindL (envOfC (ofString "law") (sScope (stm 55)) L fa cd).kindOf [(ofString "script", Value.ref a)] (fun _ => none) y))
    (ge : g.StaysIn s.heap) (gb : g.StaysIn b0) (e1 : b0.get? (L + 1 + 1) = some oS) (e2 : b0.get? (L + 1) = some oV) (e3 : g.get? (L + 1 + 1) = none) (e4 : g.get? (L + 1) = none) (hoS : oS.data = .cell (some (.ref st))) (hoV : oV.data = .cell (some (.ref vl)))
    (S : St w.params b0 d c bl vl hv σ) (Sv : hv.StaysIn s.heap) (nw : ∀ a ∈ ws, hv.get? a = none) (hLw : L ∈ ws) (lw : ∀ a ∈ ws, ∃ o, s.heap.get? a = some o) (hsz : σ.length ≤ 14)
    (hQ : ∀ h' tk, (∃ σ', View w.params b0 d c bl vl ws h' σ' ∧ σ'.length ≤ σ.length + 1) → (∀ a ∈ ws, a ≠ L → ∀ o, s.heap.get? a = some o → h'.get? a = some o) → h'.Ns L (fun y => if y = ofString "turn" then some tv9 else if y = ofString "things" then some (.ref th) else if y = ofString "symbols" then some (.ref sy) else if y = ofString "table" then some (.ref tb) else if y = ofString "blocks" then some (.ref bl) else if y = ofString "deck" then some (.ref d) else bindL (envOfC (ofString "law") (sScope (stm 55)) L fa cd).kindOf [(ofString "script", Value.ref a)] (fun _ => none) y) → Q .next { s with heap := h', toks := tk }) :
    wpAny (model P0 w) (callerA.deeper (envOfC (ofString "law") (sScope (stm 55)) L fa cd)) (execs lbody (envOfC (ofString "law") (sScope (stm 55)) L fa cd)) Q E s := by
  have hsz64 : σ.length ≤ 64 := by omega
  have nw4 := no4 (h := hv) S nw
  obtain ⟨dO, cO, D, d1, c1⟩ := S.dk
  obtain ⟨nb, b1⟩ := S.hb
  obtain ⟨nv, v1⟩ := S.hv
  have nn := fun a ha => none_sub gb (S.nb a ha)
  have hd0 := nn d (by simp [muts]); have hc0 := nn c (by simp [muts]); have hb0 := nn bl (by simp [muts]); have hv0 := nn vl (by simp [muts])
  have nL : ∀ (y : Nat) (o : Obj), hv.get? y = some o → y ≠ L := fun y o e q => by rw [q, nw L hLw] at e; cases e
  have cS := S.keep _ _ e1
  have cV := S.keep _ _ e2
  have bd : ∀ y ∈ muts d c bl vl σ, y ≠ L + 1 + 1 ∧ y ≠ L + 1 := fun y hy => ⟨fun q => (by have := S.nb y hy; rw [q, e1] at this; cases this), fun q => (by have := S.nb y hy; rw [q, e2] at this; cases this)⟩
  have nd := S.nd
  rw [muts, List.nodup_append] at nd
  have nd4 := nd.1
  simp only [List.nodup_cons, List.mem_cons, List.not_mem_nil, or_false, not_or] at nd4
  obtain ⟨⟨dc, q2, q3⟩, ⟨q4, q5⟩, q6, _⟩ := nd4
  obtain ⟨k1, k2⟩ := bd d (by simp [muts])
  obtain ⟨k3, k4⟩ := bd c (by simp [muts])
  have htl : ∀ a o, s.heap.get? a = some o → g.get? a = none → a ∉ ([L, d, c, bl, vl] : List Nat) → (a, o) ∈ ownOf g ((List.range s.heap.objs.size).filter fun a => decide (a ∉ ([L, d, c, bl, vl] : List Nat))) s.heap := fun a o e n na =>
    mem_ownOf (List.mem_filter.mpr ⟨List.mem_range.mpr (Heap.lt_size e), by simpa using na⟩) n e
  have Ntl : News g L s.heap (ownOf g ((List.range s.heap.objs.size).filter fun a => decide (a ∉ ([L, d, c, bl, vl] : List Nat))) s.heap) := news_ownOf fun q => by
    have := (List.mem_filter.mp q).2
    simp at this
  have otl : ∀ p ∈ ownOf g ((List.range s.heap.objs.size).filter fun a => decide (a ∉ ([L, d, c, bl, vl] : List Nat))) s.heap, p.1 ∉ ([L, d, c, bl, vl] : List Nat) := fun p hp => by
    have := (List.mem_filter.mp (ownOf_sub p hp)).2
    simpa using this
  generalize ownOf g ((List.range s.heap.objs.size).filter fun a => decide (a ∉ ([L, d, c, bl, vl] : List Nat))) s.heap = tl at htl Ntl otl
  have td : Off tl d := fun p hp q => otl p hp (by simp [q])
  have tc : Off tl c := fun p hp q => otl p hp (by simp [q])
  have N : News g L s.heap ((L + 1 + 1, oS) :: (L + 1, oV) :: (d, dO) :: (c, cO) :: (bl, listOf (esOf σ).toArray nb) :: (vl, listOf (xsOf σ).toArray nv) :: tl) := by
    intro p hp
    rcases List.mem_cons.mp hp with rfl | hp
    · exact ⟨Sv _ _ cS, Nat.ne_of_gt (Nat.lt_succ_of_lt (Nat.lt_succ_self L)), e3⟩
    rcases List.mem_cons.mp hp with rfl | hp
    · exact ⟨Sv _ _ cV, Nat.succ_ne_self L, e4⟩
    rcases List.mem_cons.mp hp with rfl | hp
    · exact ⟨Sv _ _ d1, nL _ _ d1, hd0⟩
    rcases List.mem_cons.mp hp with rfl | hp
    · exact ⟨Sv _ _ c1, nL _ _ c1, hc0⟩
    rcases List.mem_cons.mp hp with rfl | hp
    · exact ⟨Sv _ _ b1, nL _ _ b1, hb0⟩
    rcases List.mem_cons.mp hp with rfl | hp
    · exact ⟨Sv _ _ v1, nL _ _ v1, hv0⟩
    exact Ntl p hp
  have f1 : ∀ p ∈ ([(L + 1 + 1, dO), (L + 1, dO), (bl, dO), (vl, dO)] : Led), p.1 ≠ d := by simp [Ne.symm k1, Ne.symm k2, Ne.symm q2, Ne.symm q3]
  have f2 : ∀ p ∈ ([(L + 1 + 1, dO), (L + 1, dO), (bl, dO), (vl, dO)] : Led), p.1 ≠ c := by simp [Ne.symm k3, Ne.symm k4, Ne.symm q4, Ne.symm q5]
  have el : (esOf σ).length = σ.length := by simp [esOf]
  clear nd nn hd0 hc0 hb0 hv0 nL cS cV bd q2 q3 q4 q5 q6 k1 k2 k3 k4 Ntl otl d1 c1 b1 v1 e1 e2 e3 e4
  show wpAny _ _ _ _ _ _
  (try k_fold)
  repeat' (first
    | ((with_reducible show wpAny _ _ (compareOp CmpOp.Eq (Value.ref bl) (Value.ref _)) _ _ _); k_dflt (refine' eq_nil_led ?N ?m9 ?e9 ?u9 ?_; (case N => k_asm); (case m9 => k_mem); (case e9 => k_mem); (case u9 => ke_room)))
    | ((with_reducible show wpAny _ _ (call (Value.ref 848) [_, Value.int _ _]) _ _ _); k_dflt (refine' call_draw ?X ?T ?F ?N ?dc ?D ?U ?hm ?hm2 rfl ?zd ?zu ?_; (case F => k_asm); (case N => k_asm); (case X => k_asm); (case T => k_asm); (case D => assumption); (case dc => assumption); (case U => (repeat' (first | (refine' UpD.head ?_ ?_ <;> k_all) | (refine' UpD.tail ?uu1 ?uu2 ?_; (case uu1 => k_ne); (case uu2 => k_ne))))); (case hm => first | decide | omega); (case hm2 => first | decide | omega); (case zd => exact Nat.le_of_ble_eq_true rfl); (case zu => exact Nat.le_of_ble_eq_true rfl)); intro r' t' dO' cO' h' tk' r0 r1 D' F' N'; (try dsimp only at N'); (try k_sweep))
    | ((with_reducible show wpAny _ _ (call (Value.ref 874) _) _ _ _); (have V9 := view_led S Sv nw hLw (by k_asm) (by k_asm) (by with_reducible assumption) (by k_mem) (by k_mem) (by k_mem) (by k_mem) (by intro p' hp'; repeat (first | exact hp' | apply List.Mem.tail)) htl ge); (have F9 := fr_ns (by k_asm)); k_dflt (refine' call_make Xb Tb hS V9.1 (lw_of V9.2 F9 nw4 lw) hsz64 rfl ?zd9 ?zu9 ?_; (case zd9 => exact Nat.le_of_ble_eq_true rfl); (case zu9 => exact Nat.le_of_ble_eq_true rfl)); intro h9 tk9 T9; replace T9 := turn_on T9 V9.2 F9 nw4 hLw; clear V9 F9)
    | ((with_reducible show wpAny _ _ (call (Value.ref 881) _) _ _ _); (have V9 := view_led S Sv nw hLw (by k_asm) (by k_asm) (by with_reducible assumption) (by k_mem) (by k_mem) (by k_mem) (by k_mem) (by intro p' hp'; repeat (first | exact hp' | apply List.Mem.tail)) htl ge); (have F9 := fr_ns (by k_asm)); k_dflt (refine' call_change Xb Tb hS V9.1 (lw_of V9.2 F9 nw4 lw) hsz64 (by intro q9; simp [q9, esOf] at *) rfl ?zd9 ?zu9 ?_; (case zd9 => exact Nat.le_of_ble_eq_true rfl); (case zu9 => exact Nat.le_of_ble_eq_true rfl)); intro h9 tk9 T9; replace T9 := turn_on T9 V9.2 F9 nw4 hLw; clear V9 F9)
    | (k_extra "attr")
    | (k_extra "meth")
    | (k_extra "combo")
    | (k_unfold; (try dsimp only))
    | (k_end; wrow_close)
    | walk1
    | (dsimp only; walk1)
    | (leave1; (try dsimp only))
    | fail "no step")
  all_goals (try k_unfold)
  all_goals exact hQ _ _ T9.1 T9.2.1 T9.2.2
theorem law_loop {w : World} {mean : ExcName → Option Value} {mg mb : PySem.Str → Option Value} {g b0 hv : Heap} {s : Shared} {R : Result → Shared → Prop} {a fa L d c bl vl st th sy tb I n : Nat} {oS oV : Obj} {cd : Value} {px : Pos}
    (X : (K w.params).In g) (T : Top q (looseW q loose) mean mg mb g) (Xb : (K w.params).In b0) (Tb : Top q (looseW q loose) mean mg mb b0) (hS : StoreAt w.params b0 st) (F : Fr g L s.heap (fun y => if y = ofString "things" then some (.ref th) else if y = ofString "symbols" then some (.ref sy) else if y = ofString "table" then some (.ref tb) else if y = ofString "blocks" then some (.ref bl) else if y = ofString "deck" then some (.ref d) else bindL (envOfC (ofString "law") (sScope (stm 55)) L fa cd).kindOf [(ofString "script", Value.ref a)] (fun _ => none) y))
    (gb : g.StaysIn b0) (e1 : b0.get? (L + 1 + 1) = some oS) (e2 : b0.get? (L + 1) = some oV) (e3 : g.get? (L + 1 + 1) = none) (e4 : g.get? (L + 1) = none) (hoS : oS.data = .cell (some (.ref st))) (hoV : oV.data = .cell (some (.ref vl)))
    (S : St w.params b0 d c bl vl hv []) (Sv : hv.StaysIn s.heap) (nL : hv.get? L = none) (nI : hv.get? I = none) (LI : L ≠ I) (hn : n ≤ 14) (hI : IsRangeIter s.heap I (0 + (0 : Nat) * 1) ((n : Int) - (0 : Nat)) 1)
    (fin : ∀ h tk σ m', View w.params b0 d c bl vl [L, I] h σ → σ.length ≤ 14 → Fr g L h m' → (∀ y, y ≠ ofString "turn" → m' y = if y = ofString "things" then some (.ref th) else if y = ofString "symbols" then some (.ref sy) else if y = ofString "table" then some (.ref tb) else if y = ofString "blocks" then some (.ref bl) else if y = ofString "deck" then some (.ref d) else bindL (envOfC (ofString "law") (sScope (stm 55)) L fa cd).kindOf [(ofString "script", Value.ref a)] (fun _ => none) y) → R (.ok .next) { s with heap := h, toks := tk }) :
    codeAny (model P0 w) (callerA.deeper (envOfC (ofString "law") (sScope (stm 55)) L fa cd)) (.forLoop (.Name (ofString "turn") px) (.ref I) lbody [] (envOfC (ofString "law") (sScope (stm 55)) L fa cd)) R s := by
  have W := KTurns.ofWalks (target := .Name (ofString "turn") px) (LCg.range_walks (prog := P0) (w := w) (A := callerA.deeper (envOfC (ofString "law") (sScope (stm 55)) L fa cd)) (I := I) rfl 0 n) (fun _ _ _ _ _ _ q => wpAny_pure q)
  have gI : ∀ b o, g.get? b = some o → b ∉ ([I] : List Nat) := fun b o e q => by
    have := S.keep _ _ (gb _ _ e)
    rw [List.mem_singleton.mp q, nI] at this; cases this
  refine for_inv W (fun i h => (∃ σ, View w.params b0 d c bl vl [L, I] h σ ∧ σ.length ≤ i) ∧ ∃ m', h.Ns L m' ∧ ∀ y, y ≠ ofString "turn" → m' y = if y = ofString "things" then some (.ref th) else if y = ofString "symbols" then some (.ref sy) else if y = ofString "table" then some (.ref tb) else if y = ofString "blocks" then some (.ref bl) else if y = ofString "deck" then some (.ref d) else bindL (envOfC (ofString "law") (sScope (stm 55)) L fa cd).kindOf [(ofString "script", Value.ref a)] (fun _ => none) y) ?_ hI ⟨⟨[], ⟨hv, S, Sv, fun a ha => ?_⟩, Nat.le_refl _⟩, _, F.ns, fun y _ => rfl⟩ ?_ ?_
  · rintro i h h' ⟨⟨σ, V, l⟩, m', N, hm⟩ k
    exact ⟨⟨σ, V.mono fun b o nb e => k b o (fun q => nb (.tail _ q)) e, l⟩, m', N.at' fun o e => k _ o (fun q => LI (List.mem_singleton.mp q)) e, hm⟩
  · simp only [List.mem_cons, List.not_mem_nil, or_false] at ha
    rcases ha with rfl | rfl
    · exact nL
    · exact nI
  · rintro i v h tk hi ⟨t, rfl⟩ hst ⟨⟨σ, ⟨hv', S', Sv', n'⟩, l⟩, m', N, hm⟩
    have keep : g.StaysIn h := fun b o e => Sv' _ _ (S'.keep _ _ (gb _ _ e))
    refine wpAny_assign_Name (wpAny_storeName_local (by rfl) N (fun h₂ hn₂ hs₂ => ?_) (by rfl))
    have kL : ∀ b o, b ≠ L → h.get? b = some o → h₂.get? b = some o := fun b o nb e => hs₂.extBut b o nb e
    have hvL : hv'.get? L = none := n' L (.head _)
    have hvI : hv'.get? I = none := n' I (.tail _ (.head _))
    have Sv2 : hv'.StaysIn h₂ := fun b o e => kL b o (fun q => by rw [q, hvL] at e; cases e) (Sv' _ _ e)
    have ge2 : g.StaysIn h₂ := fun b o e => Sv2 _ _ (S'.keep _ _ (gb _ _ e))
    have em : (fun y => if y = ofString "turn" then some (Value.int (0 + (i : Int)) t) else m' y) = (fun y => if y = ofString "turn" then some (Value.int (0 + (i : Int)) t) else if y = ofString "things" then some (.ref th) else if y = ofString "symbols" then some (.ref sy) else if y = ofString "table" then some (.ref tb) else if y = ofString "blocks" then some (.ref bl) else if y = ofString "deck" then some (.ref d) else bindL (envOfC (ofString "law") (sScope (stm 55)) L fa cd).kindOf [(ofString "script", Value.ref a)] (fun _ => none) y) := by
      funext y
      by_cases q : y = ofString "turn"
      · rw [if_pos q, if_pos q]
      · rw [if_neg q, if_neg q, hm y q]
    rw [em] at hn₂
    have F2 : Fr g L h₂ _ := ⟨hn₂, ge2, F.above⟩
    have hI2 : IsRangeIter h₂ I (0 + ((i + 1 : Nat) : Int) * 1) ((n : Int) - ((i + 1 : Nat) : Int)) 1 := kL _ _ (fun q => LI q.symm) hst
    refine law_turn X T Xb Tb hS F2 ge2 gb e1 e2 e3 e4 hoS hoV S' Sv2 n' (.head _) (fun a ha => ?_) (by omega) fun h' tk' V kw N' => ?_
    · simp only [List.mem_cons, List.not_mem_nil, or_false] at ha
      rcases ha with rfl | rfl
      · obtain ⟨o, _, _, x, _⟩ := hn₂; exact ⟨o, x⟩
      · exact ⟨_, hI2⟩
    · obtain ⟨σ', V, l'⟩ := V
      refine ⟨h', tk', rfl, kw I (.tail _ (.head _)) (fun q => LI q.symm) _ hI2, ⟨σ', V, by omega⟩, _, N', fun y hy => ?_⟩
      rw [if_neg hy]
  · rintro h tk ⟨⟨σ, V, l⟩, m', N, hm⟩
    have V' := V
    obtain ⟨hv', S', Sv', n'⟩ := V'
    exact fin h tk σ m' V (by omega) ⟨N, fun b o e => Sv' _ _ (S'.keep _ _ (gb _ _ e)), F.above⟩ hm
theorem comp_end1 {h₀ h' : Heap} {L I C D a : Nat} {m : PySem.Str → Option Value} {s₁ : Shared} {oI oC oD oa : Obj} {S : Led → Prop} {rest : Value → Led → Prop} {y : Value} {tk : Nat} {r : Led} (F : Fr h₀ L h' m) (N : News h₀ L h' ((a, oa) :: (I, oI) :: (C, oC) :: (D, oD) :: r)) (n1 : I ≠ a) (n2 : C ≠ a) (n3 : D ≠ a) (f1 : ∀ p ∈ r, p.1 ≠ I) (f2 : ∀ p ∈ r, p.1 ≠ C) (f3 : ∀ p ∈ r, p.1 ≠ D)
    (hS : S ((a, oa) :: r)) (k : rest y ((a, oa) :: r)) : LCg.CompEnd h₀ L m s₁ I oI C oC D oD S rest y { s₁ with heap := h', toks := tk } := by
  refine .intro F N _ (fun p hp => ?_) (.of fun p hp => ?_) hS k
  · simp only [List.mem_cons] at hp ⊢
    rcases hp with h | h | h | h | h <;> simp [h]
  · rcases List.mem_cons.mp hp with rfl | hp
    · exact ⟨n1.symm, n2.symm, n3.symm⟩
    exact ⟨f1 p hp, f2 p hp, f3 p hp⟩
theorem th_block {H : Heap} {a n i : Nat} {z : Int} {t1 t2 : Tok} (e : H.get? a = some (tupO [.str (ofString "block") t1, .int z t2] n)) (hz : z = (i : Int)) : ThAt H (.block i) (.ref a) := by
  subst hz
  exact ⟨a, _, t1, _, rfl, ⟨_, e, rfl, n, rfl⟩, Wh.one (t := .block i) (x := ofString "block") t2 (by simp only [Pl.code]; decide) (by rfl)⟩
theorem j_snoc2 {A : Nat → Value → Prop} {ys : List Value} {v : Value} {i : Nat} (hl : ys.length = i) (h : ∀ (j : Nat) (u : Value), ys[j]? = some u → A j u) (hv : A i v) : ∀ (j : Nat) (u : Value), (ys ++ [v])[j]? = some u → A j u := by
  intro j u e
  by_cases q : j < ys.length
  · rw [List.getElem?_append_left q] at e; exact h j u e
  · rw [List.getElem?_append_right (by omega)] at e
    have : j - ys.length = 0 := by
      have := (List.getElem?_eq_some_iff.mp e).1
      simp at this; omega
    rw [this] at e
    cases Option.some.inj e
    obtain rfl : j = i := by omega
    exact hv
theorem fr_th {g h : Heap} {L : Addr} {v : Value} {m : PySem.Str → Option Value} (F : Fr g L h (fun y => if y = ofString "things" then some v else m y)) : Fr g L h (fun y => if y = ofString "things" then some v else m y) := F
theorem z_stays {g z h : Heap} {L : Addr} {m : PySem.Str → Option Value} {news tl : Led} (ht : ∀ a o, z.get? a = some o → g.get? a = some o ∨ (a, o) ∈ tl) (F : Fr g L h m) (N : News g L h news) (sub : ∀ q ∈ tl, q ∈ news) : z.StaysIn h := fun a o e => by
  rcases ht a o e with e | e
  · exact F.keep _ _ e
  · exact N.get (sub _ e)

theorem law_p2 {w : World} {mean : ExcName → Option Value} {mg mb : PySem.Str → Option Value} {g z : Heap} {s : Shared} {E : Value → Shared → Prop} {Q : Flow → Shared → Prop} {a fa L d bl vl st th sy tb nth : Nat} {oS oV : Obj} {cd T1 T2 T3 : Value} {o9 : Option Value} {es vs : List Value} {tlz : Led}
    (X : (K w.params).In g) (T : Top q (looseW q loose) mean mg mb g) (F : Fr g L s.heap (fun y => if y = ofString "turn" then o9 else if y = ofString "things" then some (.ref th) else if y = ofString "symbols" then some (.ref sy) else if y = ofString "table" then some (.ref tb) else if y = ofString "blocks" then some (.ref bl) else if y = ofString "deck" then some (.ref d) else bindL (envOfC (ofString "law") (sScope (stm 55)) L fa cd).kindOf [(ofString "script", Value.ref a)] (fun _ => none) y)) (N : News g L s.heap ((L + 1 + 1, oS) :: (L + 1, oV) :: (th, listOf #[T1, T2, T3] nth) :: tlz)) (hoS : oS.data = .cell (some (.ref st))) (hoV : oV.data = .cell (some (.ref vl)))
    (htl : ∀ a o, z.get? a = some o → g.get? a = some o ∨ (a, o) ∈ tlz) (hbl : z.IsList bl es.toArray) (hes : es.length ≤ 14)
    (K5 : ∀ {D : Nat} {ys : List Value} {news9 : Led} {h' : Heap} {tk : Nat}, Fr g L h' (fun y => if y = ofString "things" then some (.ref D) else if y = ofString "turn" then o9 else if y = ofString "things" then some (.ref th) else if y = ofString "symbols" then some (.ref sy) else if y = ofString "table" then some (.ref tb) else if y = ofString "blocks" then some (.ref bl) else if y = ofString "deck" then some (.ref d) else bindL (envOfC (ofString "law") (sScope (stm 55)) L fa cd).kindOf [(ofString "script", Value.ref a)] (fun _ => none) y) → News g L h' ((D, listOf ([T1, T2, T3] ++ ys).toArray 0) :: news9) →
      ((∀ q ∈ ((L + 1 + 1, oS) :: (L + 1, oV) :: (th, listOf #[T1, T2, T3] nth) :: tlz), q ∈ news9) ∧ ys.length = es.length ∧ ∀ (j : Nat) (v : Value), ys[j]? = some v → ∀ H, Has H news9 → ThAt H (.block j) v) → wpAny (model P0 w) (callerA.deeper (envOfC (ofString "law") (sScope (stm 55)) L fa cd)) (execs ((sBody (stm 55)).drop 5) (envOfC (ofString "law") (sScope (stm 55)) L fa cd)) Q E { s with heap := h', toks := tk }) :
    wpAny (model P0 w) (callerA.deeper (envOfC (ofString "law") (sScope (stm 55)) L fa cd)) (execs ((sBody (stm 55)).drop 4) (envOfC (ofString "law") (sScope (stm 55)) L fa cd)) Q E s := by
  have hz64 : es.length ≤ 64 := Nat.le_trans hes (by decide)
  (try k_fold)
  repeat' (first
    | ((with_reducible show wpAny _ _ (execs [Stmt.Assign _ _ _, Stmt.For _ _ _ _ _, Stmt.Return _ _] _) _ _ _); k_dflt (refine' K5 ?f9 ?n9 ?s9; (case f9 => exact fr_th (by k_asm)); (case n9 => k_asm)); exact ⟨fun q hq => .tail _ (hJ9.1 q hq), hJ9.2.1, fun j v e H hA => hJ9.2.2 j v e H fun q hq => hA q (.tail _ hq)⟩)
    | ((with_reducible show wpAny _ _ (call (Value.builtin "len") [Value.ref bl]) _ _ _); k_dflt (refine' len_any hbl (z_stays htl (by k_asm) (by k_asm) (by intro p' hp'; repeat (first | exact hp' | apply List.Mem.tail))) hz64 ?_); intro tk9 tk9')
    | ((with_reducible show LCg.CompSrc _ _ _ _ _ _ _ _ _ _ _ _ _ _); k_dflt (refine' LCg.CompSrc.range ?y1 ?y2 ?y3 ?y4 ?y5 ?y6 ?y7 ?_; (case y1 => rfl); (case y2 => k_asm); (case y3 => k_asm); (case y4 => assumption); (case y5 => exact (range_n14 hes).1); (case y6 => exact (range_n14 hes).2); (case y7 => exact Nat.le_trans hes (by decide))); intro g'; refine rest_indJ (J := fun i ys news => (∀ q ∈ ((L + 1 + 1, oS) :: (L + 1, oV) :: (th, listOf #[T1, T2, T3] nth) :: tlz), q ∈ news) ∧ ys.length = i ∧ ∀ (j : Nat) (v : Value), ys[j]? = some v → ∀ H, Has H news → ThAt H (.block j) v) ?st9 ⟨fun _ h => h, rfl, fun _ _ e9 => by simp at e9⟩ ?fin9; (case' st9 => (intro i' ys' news' v' I' oI' C' oC' D' m' h' tk' E' hi' hJ' hv' hC' hx' F' N' off' ne'; (obtain ⟨t9', hv9'⟩ := hv'); subst hv9'; (obtain ⟨offI', offC', offD'⟩ := off_all (oC := oI') (oD := oI') off' ne'); (try dsimp only))); (case' fin9 => (intro ys9 news9 hJ9)))
    | ((with_reducible show wpAny _ _ (binaryOp Operator.Add (Value.ref th) (Value.ref D')) _ _ _); k_dflt (refine' kmk_add_lit (its := #[T1, T2, T3]) (its2 := ys9.toArray) (zs := [T1, T2, T3] ++ ys9) ?F ?N ?a9 ?b9 ?e9 ?_ ?z9; (case F => k_asm); (case N => k_asm); (case a9 => exact News.isList N' (.tail _ (hJ9.1 _ (.tail _ (.tail _ (.head _)))))); (case b9 => exact News.isList N' (.head _)); (case e9 => rfl); (case z9 => (simp only [List.length_cons, List.length_nil]; rw [hJ9.2.1]; exact Nat.le_trans (Nat.add_le_add_left hes 3) (by decide)))); intro D9 h9 F9 N9 l9)
    | ((with_reducible show LCg.CompEnd _ _ _ _ _ _ _ _ _ _ _ _ _ _); (obtain ⟨hJ1, hJ2, hJ3⟩ := hJ'); exact comp_end1 (by k_asm) (by k_asm) (by k_ne) (by k_ne) (by k_ne) (offr2 offI' rfl) (offr1 offC' rfl) (offr0 offD' rfl) trivial ⟨fun q hq => .tail _ (hJ1 q hq), by simp [hJ2], j_snoc2 (A := fun j v => ∀ H, Has H _ → ThAt H (.block j) v) hJ2 (fun j u e H hA => hJ3 j u e H fun q hq => hA q (.tail _ hq)) (fun H hA => th_block (hA _ (.head _)) (by omega))⟩)
    | ((with_reducible show wpAny _ _ (eval (Expr.ListComp _ _ _ _) _) _ _ _); k_dflt (refine LCg.ListComp_U (F₀ := by k_asm) (by with_unfolding_all rfl) (by decide) (by rfl) (by decide) (by rfl) ?_))
    | ((with_reducible show wpAny _ _ (exec (Stmt.Assign [Expr.Name _ _] (Expr.ListComp _ _ _ _) _) _) _ _ _); k_dflt (refine LCg.Assign_ListComp_U (F₀ := by k_asm) (by rfl) (by with_unfolding_all rfl) (by with_unfolding_all rfl) (by decide) (by rfl) (by decide) (by rfl) (by rfl) (by rfl) ?_))
    | ((with_reducible show LCg.FinE _ _ _ _ _ _ _); (unfold LCg.FinE); intro D' h' tk' F' N' o1'; replace o1' := off_one o1'; (try simp only [List.nil_append, List.cons_append] at N'); (try dsimp only))
    | ((with_reducible show LCg.FinA _ _ _ _ _ _ _ _); (unfold LCg.FinA); intro D' h' tk' F' N' o1'; replace o1' := off_one o1'; (try simp only [List.nil_append, List.cons_append] at N'); (try dsimp only))
    | (k_extra "combo")
    | (k_unfold; (try dsimp only))
    | (k_end; wrow_close)
    | walk1
    | (dsimp only; walk1)
    | (leave1; (try dsimp only))
    | fail "no step")
  all_goals (try k_unfold)
theorem j_snoc {A : Nat → Value → Prop} {ys : List Value} {v : Value} {i : Nat} (hl : ys.length = i) (h : ∀ (j : Nat) (u : Value), ys[j]? = some u → A j u) (hv : A i v) : ∀ (j : Nat) (u : Value), (ys ++ [v])[j]? = some u → A j u := by
  intro j u e
  by_cases q : j < ys.length
  · rw [List.getElem?_append_left q] at e; exact h j u e
  · rw [List.getElem?_append_right (by omega)] at e
    have : j - ys.length = 0 := by
      have := (List.getElem?_eq_some_iff.mp e).1
      simp at this; omega
    rw [this] at e
    cases Option.some.inj e
    obtain rfl : j = i := by omega
    exact hv
theorem call_value3 {w : World} {A : Around} {E : Value → Shared → Prop} {s : Shared} {h₀ : Heap} {L : Addr} {news : Led} {m : PySem.Str → Option Value} {Q : Value → Shared → Prop} {dd u : Nat} {f : Addr} {vs args : List Value} {base : Heap} {e0 : Addr × Obj} {t : Pl}
    (hz : e0 ∈ news) (C : codeAny (model P0 w) (ad dd u) (.call (.ref f) ⟨args, []⟩) (Ret s [] fun r h => VaN w.params vs base s.heap h r t) s) (hh : A.handled = none) (hd : A.depth ≤ dd) (hu : A.units ≤ u)
    (F : Fr h₀ L s.heap m) (N : News h₀ L s.heap news)
    (h : ∀ (v : Value) (a b : Nat) (oa ob : Obj) (h' : Heap) (tk' : Nat), Fr h₀ L h' m → News h₀ L h' ((a, oa) :: (b, ob) :: news) → (∀ p ∈ news, p.1 ≠ e0.1 → p.1 ≠ a) → (∀ p ∈ news, p.1 ≠ e0.1 → p.1 ≠ b) → (∀ H, base.StaysIn H → H.get? a = some oa → H.get? b = some ob → Va w.params vs H v t) → Q v { s with heap := h', toks := tk' }) :
    wpAny (model P0 w) A (call (.ref f) args) Q E s := by
  refine call_spec C hh hd hu F N fun v h' tk F' N' S p => ?_
  obtain ⟨o, ⟨l, fo⟩, k⟩ := p
  obtain ⟨oL, es, ep, hL, _⟩ := F.ns
  have nn : ∀ x, s.heap.get? x = none → x ≠ L ∧ h₀.get? x = none := fun x e => ⟨(fun q => by rw [q, hL] at e; cases e), by
    cases q : h₀.get? x with
    | none => rfl
    | some o' => rw [F.keep _ _ q] at e; cases e⟩
  have one : ∀ a, (a ∈ o ∨ a = e0) → (h'.get? a.1 = some a.2 ∧ a.1 ≠ L ∧ h₀.get? a.1 = none) ∧ ∀ p ∈ news, p.1 ≠ e0.1 → p.1 ≠ a.1 := fun a ha => by
    rcases ha with ha | rfl
    · exact ⟨⟨(fo a ha).2, nn _ (fo a ha).1⟩, fun p hp _ q => by have := (fo a ha).1; rw [← q, (N p hp).1] at this; cases this⟩
    · exact ⟨N' _ hz, fun p _ n => n⟩
  have two : ∀ a b : Addr × Obj, (a ∈ o ∨ a = e0) → (b ∈ o ∨ b = e0) → News h₀ L h' (a :: b :: news) := fun a b ha hb => by
    intro p hp
    rcases List.mem_cons.mp hp with rfl | hp
    · exact (one _ ha).1
    rcases List.mem_cons.mp hp with rfl | hp
    · exact (one _ hb).1
    · exact N' p hp
  cases o with
  | nil => exact h v _ _ _ _ h' tk F' (two e0 e0 (.inr rfl) (.inr rfl)) (one e0 (.inr rfl)).2 (one e0 (.inr rfl)).2 (fun H B _ _ => k H B fun _ q => nomatch q)
  | cons p r =>
    cases r with
    | nil => exact h v _ _ _ _ h' tk F' (two p p (.inl (.head _)) (.inl (.head _))) (one p (.inl (.head _))).2 (one p (.inl (.head _))).2 (fun H B e _ => k H B fun q hq => by rw [List.mem_singleton.mp hq]; exact e)
    | cons p' r' =>
      cases r' with
      | cons _ _ => simp at l
      | nil => exact h v _ _ _ _ h' tk F' (two p p' (.inl (.head _)) (.inl (.tail _ (.head _)))) (one p (.inl (.head _))).2 (one p' (.inl (.tail _ (.head _)))).2 (fun H B e e' => k H B fun q hq => by
          rcases List.mem_cons.mp hq with rfl | hq
          · exact e
          · rw [List.mem_singleton.mp hq]; exact e')

theorem law_p3 {w : World} {mean : ExcName → Option Value} {mg mb : PySem.Str → Option Value} {g z : Heap} {s : Shared} {E : Value → Shared → Prop} {Q : Flow → Shared → Prop} {a fa L d bl vl st th sy tb n0 D : Nat} {oS oV : Obj} {cd : Value} {o9 : Option Value} {zs vs : List Value} {tl : Led} {Tt : Nat → Pl}
    (X : (K w.params).In g) (T : Top q (looseW q loose) mean mg mb g) (Xz : (K w.params).In z) (Tz : Top q (looseW q loose) mean mg mb z) (hS : StoreAt w.params z st) (hvl : z.IsList vl vs.toArray) (hsz : vs.length ≤ 64)
    (F : Fr g L s.heap (fun y => if y = ofString "things" then some (.ref D) else if y = ofString "turn" then o9 else if y = ofString "things" then some (.ref th) else if y = ofString "symbols" then some (.ref sy) else if y = ofString "table" then some (.ref tb) else if y = ofString "blocks" then some (.ref bl) else if y = ofString "deck" then some (.ref d) else bindL (envOfC (ofString "law") (sScope (stm 55)) L fa cd).kindOf [(ofString "script", Value.ref a)] (fun _ => none) y)) (N : News g L s.heap ((D, listOf zs.toArray n0) :: (L + 1 + 1, oS) :: (L + 1, oV) :: tl)) (hoS : oS.data = .cell (some (.ref st))) (hoV : oV.data = .cell (some (.ref vl)))
    (hzt : ∀ a o, z.get? a = some o → g.get? a = some o ∨ (a, o) ∈ tl) (hTh : ∀ (i : Nat) (v : Value), zs[i]? = some v → (∀ H, z.StaysIn H → Has H tl → ThAt H (Tt i) v) ∧ OkT vs.length (Tt i)) (hzs : zs.length ≤ 17)
    (K4 : ∀ {D9 : Nat} {ys : List Value} {news9 : Led} {h' : Heap} {tk : Nat}, Fr g L h' (fun y => if y = ofString "told" then some (.ref D9) else if y = ofString "things" then some (.ref D) else if y = ofString "turn" then o9 else if y = ofString "things" then some (.ref th) else if y = ofString "symbols" then some (.ref sy) else if y = ofString "table" then some (.ref tb) else if y = ofString "blocks" then some (.ref bl) else if y = ofString "deck" then some (.ref d) else bindL (envOfC (ofString "law") (sScope (stm 55)) L fa cd).kindOf [(ofString "script", Value.ref a)] (fun _ => none) y) → News g L h' ((D9, LCg.lst ys) :: news9) →
      ((∀ q ∈ ((D, listOf zs.toArray n0) :: (L + 1 + 1, oS) :: (L + 1, oV) :: tl), q ∈ news9) ∧ ys.length = zs.length ∧ ∀ (j : Nat) (v : Value), ys[j]? = some v → ∀ H, z.StaysIn H → Has H news9 → Va w.params vs H v (Tt j)) →
      wpAny (model P0 w) (callerA.deeper (envOfC (ofString "law") (sScope (stm 55)) L fa cd)) (execs ((sBody (stm 55)).drop 6) (envOfC (ofString "law") (sScope (stm 55)) L fa cd)) Q E { s with heap := h', toks := tk }) :
    wpAny (model P0 w) (callerA.deeper (envOfC (ofString "law") (sScope (stm 55)) L fa cd)) (execs ((sBody (stm 55)).drop 5) (envOfC (ofString "law") (sScope (stm 55)) L fa cd)) Q E s := by
  have hzs' : zs.toArray.size ≤ sizeLine := by rw [List.size_toArray]; exact Nat.le_trans hzs (by decide)
  (try k_fold)
  repeat' (first
    | ((with_reducible show wpAny _ _ (execs [Stmt.For _ _ _ _ _, Stmt.Return _ _] _) _ _ _); k_dflt (refine' K4 ?f9 ?n9 ?s9; (case f9 => k_asm); (case n9 => k_asm)); exact ⟨hJ9.1, by rw [hJ9.2.1, List.size_toArray], hJ9.2.2⟩)
    | ((with_reducible show LCg.CompSrc _ _ _ _ _ _ _ _ _ _ _ _ _ _); k_dflt (refine' LCg.CompSrc.ledger ?y1 ?y2 ?y3 ?y4 ?y5 ?_; (case y1 => rfl); (case y2 => k_asm); (case y3 => k_asm); (case y4 => k_mem); (case y5 => exact hzs')); intro g'; refine rest_indJ (J := (fun i ys news => (∀ q ∈ ((D, listOf zs.toArray n0) :: (L + 1 + 1, oS) :: (L + 1, oV) :: tl), q ∈ news) ∧ ys.length = i ∧ ∀ (j : Nat) (v : Value), ys[j]? = some v → ∀ H, z.StaysIn H → Has H news → Va w.params vs H v (Tt j))) ?st9 ⟨fun _ h => h, rfl, fun _ _ e9 => by simp at e9⟩ ?fin9; (case' st9 => (intro i' ys' news' v' I' oI' C' oC' D' m' h' tk' E' hi' hJ' hv' hC' hx' F' N' off' ne'; (obtain ⟨hJ1, hJ2, hJ3⟩ := hJ'); (obtain ⟨hT9, hO9⟩ := hTh i' v' (by simpa using hv')); (have S9 := z_stays hzt F' N' (fun q hq => List.Mem.tail _ (.tail _ (.tail _ (hJ1 q (.tail _ (.tail _ (.tail _ hq)))))))); (have hth9 := hT9 _ S9 (fun q hq => N'.get (.tail _ (.tail _ (.tail _ (hJ1 q (.tail _ (.tail _ (.tail _ hq))))))))); (obtain ⟨tz, ez⟩ := th_ref hth9); subst ez; (have m9 := hJ1 _ (.tail _ (.head _))); (have m8 := hJ1 _ (.tail _ (.tail _ (.head _)))); (obtain ⟨offI', offC', offD'⟩ := off_all (oC := oI') (oD := oI') off' ne'); (try dsimp only))); (case' fin9 => (intro ys9 news9 hJ9)))
    | ((with_reducible show wpAny _ _ (call (Value.ref 869) [_, _, Value.ref _]) _ _ _); (have Z9 := z_stays hzt (by k_asm) (by k_asm) (fun q hq => List.Mem.tail _ (.tail _ (.tail _ (hJ1 q (.tail _ (.tail _ (.tail _ hq)))))))); k_dflt (refine' call_value3 (base := z) (vs := vs) (e0 := (L + 1, oV)) (List.Mem.tail _ (.tail _ (.tail _ m8))) (value_spec Xz Tz Z9 hS (isList_stays hvl Z9) ?th9 hO9 hsz) rfl ?zd ?zu ?F ?N ?_; (case F => k_asm); (case N => k_asm); (case th9 => exact hT9 _ Z9 (fun q hq => News.get (by k_asm) (List.Mem.tail _ (.tail _ (.tail _ (hJ1 q (.tail _ (.tail _ (.tail _ hq))))))))); (case zd => exact Nat.le_of_ble_eq_true rfl); (case zu => exact Nat.le_of_ble_eq_true rfl)); intro v' a' b' oa' ob' h' tk' F' N' na' nb' k'; (try k_sweep))
    | ((with_reducible show LCg.CompEnd _ _ _ _ _ _ _ _ _ _ _ _ _ _); exact comp_end2 F' N' ⟨na' _ (.head _) (Ne.symm (offI' _ (.tail _ (.tail _ m8)))), nb' _ (.head _) (Ne.symm (offI' _ (.tail _ (.tail _ m8))))⟩ ⟨na' _ (.tail _ (.head _)) (Ne.symm (offC' _ (.tail _ m8))), nb' _ (.tail _ (.head _)) (Ne.symm (offC' _ (.tail _ m8)))⟩ ⟨na' _ (.tail _ (.tail _ (.head _))) (Ne.symm (offD' _ m8)), nb' _ (.tail _ (.tail _ (.head _))) (Ne.symm (offD' _ m8))⟩ (offr2 offI' rfl) (offr1 offC' rfl) (offr0 offD' rfl) (.inr ⟨_, .tail _ (.tail _ (hJ1 _ (.head _))), rfl, _, rfl⟩) ⟨fun q hq => .tail _ (.tail _ (hJ1 q hq)), by simp [hJ2], j_snoc (A := fun j v => ∀ H, z.StaysIn H → Has H _ → Va w.params vs H v (Tt j)) hJ2 (fun j u e H hH hA => hJ3 j u e H hH fun q hq => hA q (.tail _ (.tail _ hq))) (fun H hH hA => k' H hH (hA _ (.head _)) (hA _ (.tail _ (.head _))))⟩)
    | ((with_reducible show wpAny _ _ (eval (Expr.ListComp _ _ _ _) _) _ _ _); k_dflt (refine LCg.ListComp_U (F₀ := by k_asm) (by with_unfolding_all rfl) (by decide) (by rfl) (by decide) (by rfl) ?_))
    | ((with_reducible show wpAny _ _ (exec (Stmt.Assign [Expr.Name _ _] (Expr.ListComp _ _ _ _) _) _) _ _ _); k_dflt (refine LCg.Assign_ListComp_U (F₀ := by k_asm) (by rfl) (by with_unfolding_all rfl) (by with_unfolding_all rfl) (by decide) (by rfl) (by decide) (by rfl) (by rfl) (by rfl) ?_))
    | ((with_reducible show LCg.FinE _ _ _ _ _ _ _); (unfold LCg.FinE); intro D' h' tk' F' N' o1'; replace o1' := off_one o1'; (try simp only [List.nil_append, List.cons_append] at N'); (try dsimp only))
    | ((with_reducible show LCg.FinA _ _ _ _ _ _ _ _); (unfold LCg.FinA); intro D' h' tk' F' N' o1'; replace o1' := off_one o1'; (try simp only [List.nil_append, List.cons_append] at N'); (try dsimp only))
    | (k_extra "combo")
    | (k_unfold; (try dsimp only))
    | (k_end; wrow_close)
    | walk1
    | (dsimp only; walk1)
    | (leave1; (try dsimp only))
    | fail "no step")
  all_goals (try k_unfold)
theorem zip_loop {prog : Program} {w : World} {A : Around} {s : Shared} {env : Env} {R : Result → Shared → Prop} {x x₂ : PySem.Str} {px px₂ tp : Pos} {kk : Nat} {body : List Stmt} {Z l1 l2 L : Nat} {xs ys : Array Value} {k : Heap} {m0 : PySem.Str → Option Value} {names : List PySem.Str}
    (hh : A.handled = none) (hL : env.locals = L) (hx : env.kindOf x = some .local) (hx₂ : env.kindOf x₂ = some .local) (hp : (env.scope.kind == .class || (env.scope.kind == .module && env.locals != env.globals)) = false) (n1 : x ∈ names) (n2 : x₂ ∈ names)
    (hz : IsZip s.heap (Z + 4) (Z + 2) (Z + 3) .none) (hTI : IsPair s.heap (Z + 2) (.ref Z) (.ref (Z + 1))) (hTO : IsPair s.heap (Z + 3) .none .none) (hi1 : s.heap.IsListIter Z l1 0) (hi2 : s.heap.IsListIter (Z + 1) l2 0) (hl1 : s.heap.IsList l1 xs) (hl2 : s.heap.IsList l2 ys) (lt1 : l1 < Z) (lt2 : l2 < Z) (ltL : L < Z) (nl1 : l1 ≠ L) (nl2 : l2 ≠ L)
    (hk : k.StaysIn s.heap) (ks : ∀ a o, k.get? a = some o → a ≠ L ∧ @LT.lt Nat _ a Z) (hN : ∃ m', s.heap.Ns L m' ∧ ∀ q, q ∉ names → m' q = m0 q)
    (turn : ∀ (i : Nat) (a b : Value) (h : Heap) (tk : Nat) (m₁ : PySem.Str → Option Value) (E' : Value → Shared → Prop) (Q' : Flow → Shared → Prop), xs[i]? = some a → ys[i]? = some b → k.StaysIn h → h.Ns L (fun q => if q = x₂ then some b else if q = x then some a else m₁ q) → (∀ q, q ∉ names → m₁ q = m0 q) →
      (∀ h' tk', (∀ a o, a ≠ L → h.get? a = some o → h'.get? a = some o) → (∃ m', h'.Ns L m' ∧ ∀ q, q ∉ names → m' q = m0 q) → Q' .next { s with heap := h', toks := tk' }) → wpAny (model prog w) A (execs body env) Q' E' { s with heap := h, toks := tk })
    (fin : ∀ h tk, k.StaysIn h → (∃ m', h.Ns L m' ∧ ∀ q, q ∉ names → m' q = m0 q) → R (.ok .next) { s with heap := h, toks := tk }) :
    codeAny (model prog w) A (.forLoop (.Tuple [.Name x px, .Name x₂ px₂] kk tp) (.ref (Z + 4)) body [] env) R s := by
  subst hL
  have hLn : @LT.lt Nat _ env.locals Z := ltL
  have DA := ktu_apart Z l1 l2 lt1 lt2
  have W := KTurns.ofWalksU (elts := [.Name x px, .Name x₂ px₂]) (k := kk) (pos := tp) (WalksT.zip2 (prog := prog) (w := w) hh (Z + 4) (Z + 2) (Z + 3) Z (Z + 1) l1 l2 DA xs ys).toU
  have wrZ : ∀ b ∈ [Z + 4, Z + 3, Z, Z + 1], @LE.le Nat _ Z b := fun b hb => by
    simp only [List.mem_cons, List.not_mem_nil, or_false] at hb
    rcases hb with rfl | rfl | rfl | rfl
    · exact Nat.le_add_right _ _
    · exact Nat.le_add_right _ _
    · exact Nat.le_refl _
    · exact Nat.le_add_right _ _
  have wrL : env.locals ∉ [Z + 4, Z + 3, Z, Z + 1] := fun q => absurd (Nat.lt_of_lt_of_le hLn (wrZ _ q)) (Nat.lt_irrefl _)
  have fpL : ∀ b ∈ [Z + 4, Z + 2, Z + 3, Z, Z + 1, l1, l2], b ≠ env.locals := fun b hb q => by
    rw [q] at hb
    simp only [List.mem_cons, List.not_mem_nil, or_false] at hb
    have big : ∀ j : Nat, env.locals ≠ Z + j := fun j e => by rw [e] at hLn; exact absurd (Nat.lt_of_le_of_lt (Nat.le_add_right Z j) hLn) (Nat.lt_irrefl _)
    rcases hb with e | e | e | e | e | e | e
    · exact big 4 e
    · exact big 2 e
    · exact big 3 e
    · exact big 0 e
    · exact big 1 e
    · exact nl1 e.symm
    · exact nl2 e.symm
  refine for_inv W (fun i h => k.StaysIn h ∧ ∃ m', h.Ns env.locals m' ∧ ∀ q, q ∉ names → m' q = m0 q) ?_ ⟨hz, hTI, ⟨_, _, hTO⟩, hi1, hi2, hl1, hl2⟩ ⟨hk, hN⟩ ?_ ?_
  · rintro i h h' ⟨a, m', b, c⟩ kp
    exact ⟨fun y o e => kp y o (fun q => by have := wrZ _ q; exact absurd (Nat.lt_of_lt_of_le (ks _ _ e).2 this) (Nat.lt_irrefl _)) (a _ _ e), m', b.at' fun o e => kp _ o wrL e, c⟩
  · rintro i v h tk hi ⟨T, vals, rfl, ⟨a, b, ha, hb, rfl⟩, hT⟩ hst ⟨kh, m', N, hm⟩
    have hT' : IsTup h T #[a, b] := hT
    refine assign_Tuple_tuple hh hT' rfl rfl fun h₅ he => ?_
    have he' : ∀ b o, h.get? b = some o → h₅.get? b = some o := fun b o e => he b o (Nat.ne_of_lt (Heap.lt_size e)) e
    refine assignInOrder_cons (wpAny_assign_Name (wpAny_storeName_local hx (N.at' fun o e => he' _ o e) (fun h₆ hn₆ hs₆ => ?_) hp))
    refine assignInOrder_cons (wpAny_assign_Name (wpAny_storeName_local hx₂ hn₆ (fun h₇ hn₇ hs₇ => ?_) hp))
    refine assignInOrder_nil ?_
    have old7 : ∀ b o, b ≠ env.locals → h.get? b = some o → h₇.get? b = some o := fun b o nb e => hs₇.extBut b o nb (hs₆.extBut b o nb (he' b o e))
    refine turn i a b h₇ _ m' _ _ ha hb (fun y o e => old7 _ _ (ks _ _ e).1 (kh _ _ e)) hn₇ hm fun h' tk' kp N' => ?_
    exact ⟨h', tk', rfl, W.frame _ _ _ hst fun y hy o e => kp y o (fpL y hy) (old7 y o (fpL y hy) e), fun y o e => kp y o (ks _ _ e).1 (old7 _ _ (ks _ _ e).1 (kh _ _ e)), N'⟩
  · rintro h tk ⟨a, b⟩
    exact fin h tk a b
noncomputable def lst6 : Stmt := (sBody (stm 55))[6]?.getD (.Pass default)
noncomputable def obody : List Stmt := forBody lst6
noncomputable def ibody : List Stmt := forBody (obody[2]?.getD (.Pass default))
theorem eq_things {w : World} {A : Around} {E : Value → Shared → Prop} {s : Shared} {Q : Value → Shared → Prop} {a b : Value} {t u : Pl} (h1 : ThAt s.heap t a) (h2 : ThAt s.heap u b) (hu : A.units + 64 < cLine) (h : Q (.bool (PyData.eqv t.data u.data)) s) : wpAny (model P0 w) A (compareOp .Eq a b) Q E s := by
  obtain ⟨as, r⟩ := h1.reads
  obtain ⟨bs, r'⟩ := h2.reads
  exact SeqAt.compareEq_shaped r r' (shaped_pl _) (shaped_pl _) hu h

theorem law_ibody {w : World} {mean : ExcName → Option Value} {mg mb : PySem.Str → Option Value} {g z : Heap} {s : Shared} {E : Value → Shared → Prop} {Q : Flow → Shared → Prop} {fa L st t1 t2 : Nat} {oS : Obj} {cd v u : Value} {m9 : PySem.Str → Option Value} {vs : List Value} {tl : Led} {TA TB : Pl} {bk : Nat → Nat}
    (X : (K w.params).In g) (T : Top q (looseW q loose) mean mg mb g) (F : Fr g L s.heap (fun y => if y = ofString "own" then some u else if y = ofString "other" then some (.ref t2) else if y = ofString "value" then some v else if y = ofString "thing" then some (.ref t1) else m9 y)) (N : News g L s.heap ((L + 1 + 1, oS) :: tl)) (hoS : oS.data = .cell (some (.ref st)))
    (htz : ∀ a o, z.get? a = some o → g.get? a = some o ∨ (a, o) ∈ tl) (hS : StoreAt w.params z st) (B : Blks w.params vs bk z) (hva : Va w.params vs z v TA) (hvb : Va w.params vs z u TB) (h1 : ThAt z TA (.ref t1)) (h2 : ThAt z TB (.ref t2))
    (hQ : ∀ h' tk, Fr g L h' (fun y => if y = ofString "own" then some u else if y = ofString "other" then some (.ref t2) else if y = ofString "value" then some v else if y = ofString "thing" then some (.ref t1) else m9 y) → News g L h' ((L + 1 + 1, oS) :: tl) → Q .next { s with heap := h', toks := tk }) :
    wpAny (model P0 w) (callerA.deeper (envOfC (ofString "law") (sScope (stm 55)) L fa cd)) (execs ibody (envOfC (ofString "law") (sScope (stm 55)) L fa cd)) Q E s := by
  refine StoreAt.elim (hS.stays (z_stays htz F N (by intro p' hp'; repeat (first | exact hp' | apply List.Mem.tail)))) ?_; intro ds n' k0 tb' dt n' k1 k2 rw' bt y0 y1 t0 t1' u0 u1 I1 I2 I3 I4 I5
  (try k_fold)
  repeat' (first
    | ((with_reducible show Q _ _); exact hQ _ _ (by k_asm) (by k_asm))
    | ((with_reducible show ite ((_ != _) = true) _ _); rw [if_neg (by simp)])
    | ((with_reducible show wpAny _ _ (call (Value.ref 801) _) _ _ _); (have Z9 := z_stays htz (by k_asm) (by k_asm) (by intro p' hp'; repeat (first | exact hp' | apply List.Mem.tail))); k_dflt (refine' call_spec (same_spec (vs := vs) (bk := bk) (t := TA) (t' := TB) ?X ?T ?S ?B ?hv ?hu) rfl ?zd ?zu ?F ?N ?_; (case F => k_asm); (case N => k_asm); (case S => exact stays_fr (by k_asm)); (case X => k_asm); (case T => k_asm); (case B => exact B.stays Z9); (case hv => exact Va.stays (by assumption) Z9); (case hu => exact Va.stays (by assumption) Z9); (case zd => exact Nat.le_of_ble_eq_true rfl); (case zu => exact Nat.le_of_ble_eq_true rfl)); intro r' h' tk' F' N' S' p'; subst p'; (try clear Z9); (try k_sweep))
    | ((with_reducible show wpAny _ _ (compareOp CmpOp.Eq (Value.ref t1) (Value.ref t2)) _ _ _); (have Z9 := z_stays htz (by k_asm) (by k_asm) (by intro p' hp'; repeat (first | exact hp' | apply List.Mem.tail))); k_dflt (refine' eq_things (h1.stays Z9) (h2.stays Z9) ?u9 ?_; (case u9 => ke_room)); clear Z9)
    | (k_extra "attr")
    | (k_extra "meth")
    | (k_extra "combo")
    | (k_unfold; (try dsimp only))
    | (k_end; wrow_close)
    | walk1
    | (dsimp only; walk1)
    | (leave1; (try dsimp only))
    | fail "no step")
  all_goals (try k_unfold)
theorem zip_for {prog : Program} {w : World} {A : Around} {s : Shared} {E E₁ : Value → Shared → Prop} {env : Env} {R : Result → Shared → Prop} {x x₂ : PySem.Str} {px px₂ tp : Pos} {kk : Nat} {body : List Stmt} {l1 l2 L : Nat} {xs ys : Array Value} {m0 : PySem.Str → Option Value} {names : List PySem.Str}
    (hh : A.handled = none) (hL : env.locals = L) (hx : env.kindOf x = some .local) (hx₂ : env.kindOf x₂ = some .local) (hp : (env.scope.kind == .class || (env.scope.kind == .module && env.locals != env.globals)) = false) (n1 : x ∈ names) (n2 : x₂ ∈ names) (hl1 : s.heap.IsList l1 xs) (hl2 : s.heap.IsList l2 ys) (nl1 : l1 ≠ L) (nl2 : l2 ≠ L)
    (hN : ∃ m', s.heap.Ns L m' ∧ ∀ q, q ∉ names → m' q = m0 q)
    (turn : ∀ (i : Nat) (a b : Value) (h : Heap) (tk : Nat) (m₁ : PySem.Str → Option Value) (E' : Value → Shared → Prop) (Q' : Flow → Shared → Prop), xs[i]? = some a → ys[i]? = some b → (hideAll s.heap [L]).StaysIn h → h.Ns L (fun q => if q = x₂ then some b else if q = x then some a else m₁ q) → (∀ q, q ∉ names → m₁ q = m0 q) →
      (∀ h' tk', (∀ a o, a ≠ L → h.get? a = some o → h'.get? a = some o) → (∃ m', h'.Ns L m' ∧ ∀ q, q ∉ names → m' q = m0 q) → Q' .next { s with heap := h', toks := tk' }) → wpAny (model prog w) A (execs body env) Q' E' { s with heap := h, toks := tk })
    (fin : ∀ h tk, (hideAll s.heap [L]).StaysIn h → (∃ m', h.Ns L m' ∧ ∀ q, q ∉ names → m' q = m0 q) → R (.ok .next) { s with heap := h, toks := tk }) :
    wpAny (model prog w) A (call (.type "zip") [.ref l1, .ref l2]) (fun xv s₁ => wpAny (model prog w) A (pyIter xv) (fun it s₂ => codeAny (model prog w) A (.forLoop (.Tuple [.Name x px, .Name x₂ px₂] kk tp) it body [] env) R s₂) E₁ s₁) E s := by
  obtain ⟨m', N, hm⟩ := hN
  have lt : ∀ {a : Nat} {xs : Array Value}, s.heap.IsList a xs → a < s.heap.objs.size := fun hl => by obtain ⟨_, e, _⟩ := hl; exact Heap.lt_size e
  refine call_zip_2 hl1 hl2 fun h' hz hTI hTO hi1 hi2 hsz hk => ?_
  refine wpAny_pyIter_zip hz ?_
  exact zip_loop (k := hideAll s.heap [L]) (s := { s with heap := h' }) hh hL hx hx₂ hp n1 n2 hz hTI hTO hi1 hi2 (hl1.at fun o e => hk _ o e) (hl2.at fun o e => hk _ o e) (lt hl1) (lt hl2) N.lt nl1 nl2 (fun a o e => hk _ _ (of_hideAll _ e)) (fun a o e => ⟨fun q => not_mem_hide e (by rw [q]; exact .head _), Heap.lt_size (of_hideAll _ e)⟩) ⟨m', N.at' fun o e => hk _ o e, hm⟩ turn fin
theorem fr_keep {g h : Heap} {L : Addr} {m : PySem.Str → Option Value} (F : Fr g L h m) : g.StaysIn h := F.keep
theorem fr_above {g h : Heap} {L : Addr} {m : PySem.Str → Option Value} (F : Fr g L h m) : g.objs.size ≤ L := F.above
noncomputable def allB (g : Heap) (L : Nat) (h : Heap) : Led := ownOf g ((List.range h.objs.size).filter fun a => decide (a ≠ L)) h
theorem allB_news {g h : Heap} {L : Nat} : News g L h (allB g L h) := news_ownOf fun q => by
  have := (List.mem_filter.mp q).2
  simp at this
theorem allB_mem {g h : Heap} {L a : Nat} {o : Obj} (e : h.get? a = some o) (n : g.get? a = none) (na : a ≠ L) : (a, o) ∈ allB g L h := mem_ownOf (List.mem_filter.mpr ⟨List.mem_range.mpr (Heap.lt_size e), by simpa using na⟩) n e
theorem allB_or {g h : Heap} {L a : Nat} {o : Obj} (S : g.StaysIn h) (e : h.get? a = some o) (na : a ≠ L) : g.get? a = some o ∨ (a, o) ∈ allB g L h := by
  cases q : g.get? a with
  | none => exact .inr (allB_mem e q na)
  | some o' => have := S _ _ q; rw [e] at this; cases this; exact .inl rfl
theorem fin_keep {g h h' : Heap} {L : Addr} {m : PySem.Str → Option Value} {news : Led} (F : Fr g L h m) (N : News g L h news) (k : (hideAll h [L]).StaysIn h') : g.StaysIn h' ∧ ∀ q ∈ news, h'.get? q.1 = some q.2 := by
  have nL : ∀ a o, g.get? a = some o → a ≠ L := fun a o e q => by have := Heap.lt_size e; rw [q] at this; exact absurd (Nat.lt_of_lt_of_le this F.above) (Nat.lt_irrefl _)
  exact ⟨fun a o e => k _ _ (hideAll_get _ (F.keep _ _ e) fun q => nL a o e (List.mem_singleton.mp q)), fun q hq => k _ _ (hideAll_get _ (N q hq).1 fun x => (N q hq).2.1 (List.mem_singleton.mp x))⟩

theorem ibody_turn {w : World} {mean : ExcName → Option Value} {mg mb : PySem.Str → Option Value} {g z h0 h : Heap} {s : Shared} {E : Value → Shared → Prop} {Q : Flow → Shared → Prop} {fa L st t1 D D9 bl i tk : Nat} {oS : Obj} {cd v a b : Value} {m9 m₁ : PySem.Str → Option Value} {vs zs ys : List Value} {tl news : Led} {TA : Pl} {Tt : Nat → Pl} {bk : Nat → Nat}
    (X : (K w.params).In g) (T : Top q (looseW q loose) mean mg mb g) (gk : g.StaysIn h0) (ga : g.objs.size ≤ L) (Z9 : z.StaysIn h0) (htz : ∀ a o, z.get? a = some o → g.get? a = some o ∨ (a, o) ∈ tl) (hoS : oS.data = .cell (some (.ref st))) (hS : StoreAt w.params z st) (B : Blks w.params vs bk z) (hva : Va w.params vs z v TA) (h1 : ThAt z TA (.ref t1))
    (N0 : News g L h0 news) (hmS : (L + 1 + 1, oS) ∈ news) (htl : ∀ q ∈ tl, q ∈ news) (hth : ∀ (i : Nat) (v : Value), zs[i]? = some v → ThAt z (Tt i) v) (hvas : ∀ (i : Nat) (v : Value), ys[i]? = some v → Va w.params vs z v (Tt i)) (ha : zs.toArray[i]? = some a) (hb : ys.toArray[i]? = some b)
    (kh : (hideAll h0 [L]).StaysIn h) (hN : h.Ns L (fun q => if q = ofString "own" then some b else if q = ofString "other" then some a else m₁ q)) (hm : ∀ q, q ∉ [ofString "other", ofString "own"] → m₁ q = (fun y => if y = ofString "value" then some v else if y = ofString "thing" then some (.ref t1) else if y = ofString "told" then some (.ref D9) else if y = ofString "things" then some (.ref D) else if y = ofString "blocks" then some (.ref bl) else m9 y) q)
    (hQ : ∀ h' tk', (∀ a o, a ≠ L → h.get? a = some o → h'.get? a = some o) → (∃ m', h'.Ns L m' ∧ ∀ q, q ∉ [ofString "other", ofString "own"] → m' q = (fun y => if y = ofString "value" then some v else if y = ofString "thing" then some (.ref t1) else if y = ofString "told" then some (.ref D9) else if y = ofString "things" then some (.ref D) else if y = ofString "blocks" then some (.ref bl) else m9 y) q) → Q .next { s with heap := h', toks := tk' }) :
    wpAny (model P0 w) (callerA.deeper (envOfC (ofString "law") (sScope (stm 55)) L fa cd)) (execs ibody (envOfC (ofString "law") (sScope (stm 55)) L fa cd)) Q E { s with heap := h, toks := tk } := by
  have nL : ∀ a o, g.get? a = some o → a ≠ L := fun a o e q => by have := Heap.lt_size e; rw [q] at this; exact absurd (Nat.lt_of_lt_of_le this ga) (Nat.lt_irrefl _)
  have gh : g.StaysIn h := fun a o e => kh _ _ (hideAll_get _ (gk _ _ e) fun q => nL a o e (List.mem_singleton.mp q))
  have nh : ∀ q ∈ news, h.get? q.1 = some q.2 := fun q hq => kh _ _ (hideAll_get _ (N0 q hq).1 fun x => (N0 q hq).2.1 (List.mem_singleton.mp x))
  have em : (fun q => if q = ofString "own" then some b else if q = ofString "other" then some a else m₁ q) = (fun q => if q = ofString "own" then some b else if q = ofString "other" then some a else (fun y => if y = ofString "value" then some v else if y = ofString "thing" then some (.ref t1) else if y = ofString "told" then some (.ref D9) else if y = ofString "things" then some (.ref D) else if y = ofString "blocks" then some (.ref bl) else m9 y) q) := by
    funext y
    by_cases q1 : y = ofString "own"
    · rw [if_pos q1, if_pos q1]
    · rw [if_neg q1, if_neg q1]
      by_cases q2 : y = ofString "other"
      · rw [if_pos q2, if_pos q2]
      · rw [if_neg q2, if_neg q2, hm y (by simp [q1, q2])]
  rw [em] at hN
  have h2 := hth i a (by simpa using ha)
  obtain ⟨t2, rfl⟩ := th_ref h2
  have NN : News g L h ((L + 1 + 1, oS) :: allB g L h) := fun p hp => by
    rcases List.mem_cons.mp hp with rfl | hp
    · exact ⟨nh _ hmS, (N0 _ hmS).2⟩
    · exact allB_news p hp
  refine law_ibody (s := { s with heap := h, toks := tk }) (TB := Tt i) X T ⟨hN, gh, ga⟩ NN hoS (fun y o e => ?_) hS B hva (hvas i b (by simpa using hb)) h1 h2 fun h' tk' F' N' => ?_
  · rcases htz y o e with e' | e'
    · exact .inl e'
    · exact allB_or gh (nh _ (htl _ e')) (N0 _ (htl _ e')).2.1
  · refine hQ h' tk' (fun y o ny e => ?_) ⟨_, F'.ns, fun q hq => ?_⟩
    · rcases allB_or gh e ny with e' | e'
      · exact F'.keep _ _ e'
      · exact N'.get (.tail _ e')
    · simp only [List.mem_cons, List.not_mem_nil, or_false, not_or] at hq
      dsimp only
      rw [if_neg hq.2, if_neg hq.1]

theorem blk_stays {P : Params} {vs es : List Value} {z h : Heap} {i : Nat} (x : BlkAt P vs es z i) (S : z.StaysIn h) : BlkAt P vs es h i := by
  obtain ⟨e, p, x, m, po, mo, b, k, h1, h2, h3, h4, h5, h6, h7, h8⟩ := x
  exact ⟨e, p, x, m, po, mo, b, k, h1, h2, isList_stays h3 S, S _ _ h4, S _ _ h5, h6.stays S, h7.stays S, h8⟩
theorem blk_kw {P : Params} {vs es : List Value} {z h : Heap} {i : Nat} {bk : Nat → Nat} (x : BlkAt P vs es z i) (hbk : ∀ (i : Nat) (x : Nat) (c : Nat), vs[i]? = some (.ref x) → (∃ dx, z.get? x = some (instObj c dx)) → bk i = c) (S : z.StaysIn h) : ∃ (e p : Nat) (wd : PySem.Str) (k : Tok), es[i]? = some (.ref e) ∧ h.IsList e #[.str wd k, .ref p] ∧ words13.map (· == wd) = ansOf (bk i) := by
  obtain ⟨e, p, x, m, po, mo, b, k, h1, h2, h3, h4, h5, h6, h7, h8⟩ := x
  exact ⟨e, p, b.word, k, h1, isList_stays h3 S, by rw [hbk i x b.cls h2 h7.inst]; exact kw_blk b⟩

theorem law_obody {w : World} {mean : ExcName → Option Value} {mg mb : PySem.Str → Option Value} {g z : Heap} {s : Shared} {E : Value → Shared → Prop} {Q : Flow → Shared → Prop} {fa L st t1 bl vl D D9 : Nat} {oS oV : Obj} {cd v : Value} {m9 : PySem.Str → Option Value} {vs es zs ys : List Value} {tl : Led} {TA : Pl} {Tt : Nat → Pl} {bk : Nat → Nat}
    (X : (K w.params).In g) (T : Top q (looseW q loose) mean mg mb g) (F : Fr g L s.heap (fun y => if y = ofString "value" then some v else if y = ofString "thing" then some (.ref t1) else if y = ofString "told" then some (.ref D9) else if y = ofString "things" then some (.ref D) else if y = ofString "blocks" then some (.ref bl) else m9 y)) (N : News g L s.heap ((L + 1 + 1, oS) :: (L + 1, oV) :: tl)) (hoS : oS.data = .cell (some (.ref st))) (hoV : oV.data = .cell (some (.ref vl)))
    (htz : ∀ a o, z.get? a = some o → g.get? a = some o ∨ (a, o) ∈ tl) (hS : StoreAt w.params z st) (B : Blks w.params vs bk z) (hva : Va w.params vs z v TA) (h1 : ThAt z TA (.ref t1)) (hbl : z.IsList bl es.toArray) (hvl : z.IsList vl vs.toArray) (hes : es.length ≤ 64) (hsz : vs.length ≤ 64) (hblk : ∀ i, TA = .block i → BlkAt w.params vs es z i) (hbk : ∀ (i : Nat) (x : Nat) (c : Nat), vs[i]? = some (.ref x) → (∃ dx, z.get? x = some (instObj c dx)) → bk i = c) (hD : z.IsList D zs.toArray) (hD9 : z.IsList D9 ys.toArray) (nD : D ≠ L) (nD9 : D9 ≠ L) (hth : ∀ (i : Nat) (v : Value), zs[i]? = some v → ThAt z (Tt i) v) (hvas : ∀ (i : Nat) (v : Value), ys[i]? = some v → Va w.params vs z v (Tt i)) (hQ : ∀ h' tk, g.StaysIn h' → Has h' tl → (∃ m', h'.Ns L m' ∧ ∀ q, q ∉ [ofString "other", ofString "own"] → m' q = (fun y => if y = ofString "value" then some v else if y = ofString "thing" then some (.ref t1) else if y = ofString "told" then some (.ref D9) else if y = ofString "things" then some (.ref D) else if y = ofString "blocks" then some (.ref bl) else m9 y) q) → Q .next { s with heap := h', toks := tk }) :
    wpAny (model P0 w) (callerA.deeper (envOfC (ofString "law") (sScope (stm 55)) L fa cd)) (execs obody (envOfC (ofString "law") (sScope (stm 55)) L fa cd)) Q E s := by
  refine StoreAt.elim (id hS) ?_; intro ds n' k0 tb' dt n' k1 k2 rw' bt y0 y1 t0 t1' u0 u1 I1 I2 I3 I4 I5
  (try k_fold)
  repeat' (first
    | ((with_reducible show wpAny _ _ (exec (Stmt.For _ _ _ _ _) _) _ _ _); refine wpAny_For ?_)
    | ((with_reducible show wpAny _ _ (call (Value.type "zip") [Value.ref D, Value.ref D9]) _ _ _); (have Z9 := z_stays htz (by k_asm) (by k_asm) (by intro p' hp'; repeat (first | exact hp' | apply List.Mem.tail))); refine zip_for (L := L) (m0 := (fun y => if y = ofString "value" then some v else if y = ofString "thing" then some (.ref t1) else if y = ofString "told" then some (.ref D9) else if y = ofString "things" then some (.ref D) else if y = ofString "blocks" then some (.ref bl) else m9 y)) (names := [ofString "other", ofString "own"]) rfl rfl (by rfl) (by rfl) (by rfl) (by decide) (by decide) (isList_stays hD Z9) (isList_stays hD9 Z9) nD nD9 ⟨_, fr_ns (by k_asm), fun _ _ => rfl⟩ ?zt9 ?zf9; (case' zt9 => (intro i9 a9 b9 h9 tk9 m9' E9 Q9 ha9 hb9 kh9 hN9 hm9 hQ9; exact ibody_turn X T (fr_keep (by k_asm)) (fr_above (by k_asm)) Z9 htz hoS hS B hva h1 (by k_asm) (by k_mem) (by intro p' hp'; repeat (first | exact hp' | apply List.Mem.tail)) hth hvas ha9 hb9 kh9 hN9 hm9 hQ9)); (case' zf9 => (intro h9 tk9 kh9 hN9; (have k9 := fin_keep (by k_asm) (by k_asm) kh9); exact wpAny_execs_nil (hQ _ _ k9.1 (fun q hq => k9.2 q (.tail _ (.tail _ hq))) hN9))))
    | ((with_reducible show wpAny _ _ (call (Value.ref 893) _) _ _ _); (have Z9 := z_stays htz (by k_asm) (by k_asm) (by intro p' hp'; repeat (first | exact hp' | apply List.Mem.tail))); k_dflt (refine' call_spec (is_kind_spec (t := TA) (bk := bk) (vs := vs) (es := es) ?X ?T ?S ?hS9 ?hb9 ?th9 ?va9 ?B9 ?z9 ?k9) rfl ?zd ?zu ?F ?N ?_; (case F => k_asm); (case N => k_asm); (case S => exact stays_fr (by k_asm)); (case X => k_asm); (case T => k_asm); (case hS9 => exact hS.stays Z9); (case hb9 => exact isList_stays hbl Z9); (case th9 => exact h1.stays Z9); (case va9 => exact hva.stays Z9); (case B9 => exact B.stays Z9); (case z9 => exact hes); (case k9 => exact fun i e => blk_kw (hblk i e) hbk Z9); (case zd => exact Nat.le_of_ble_eq_true rfl); (case zu => exact Nat.le_of_ble_eq_true rfl)); intro r' h' tk' F' N' S' p'; subst p'; (try clear Z9); (try k_sweep))
    | ((with_reducible show wpAny _ _ (call (Value.ref 910) _) _ _ _); (have Z9 := z_stays htz (by k_asm) (by k_asm) (by intro p' hp'; repeat (first | exact hp' | apply List.Mem.tail))); k_dflt (refine' call_spec (tells_spec (t := TA) (bk := bk) (vs := vs) (es := es) ?X ?T ?S ?hS9 ?hb9 ?hv9 ?z9 ?z8 ?th9 ?va9 ?B9 ?k9) rfl ?zd ?zu ?F ?N ?_; (case F => k_asm); (case N => k_asm); (case S => exact stays_fr (by k_asm)); (case X => k_asm); (case T => k_asm); (case hS9 => exact hS.stays Z9); (case hb9 => exact isList_stays hbl Z9); (case hv9 => exact isList_stays hvl Z9); (case z9 => exact hes); (case z8 => exact hsz); (case th9 => exact h1.stays Z9); (case va9 => exact hva.stays Z9); (case B9 => exact B.stays Z9); (case k9 => exact fun i e => blk_stays (hblk i e) Z9); (case zd => exact Nat.le_of_ble_eq_true rfl); (case zu => exact Nat.le_of_ble_eq_true rfl)); intro r' h' tk' F' N' S' p'; subst p'; (try clear Z9); (try k_sweep))
    | ((with_reducible show wpAny _ _ (call (Value.ref 801) _) _ _ _); (have Z9 := z_stays htz (by k_asm) (by k_asm) (by intro p' hp'; repeat (first | exact hp' | apply List.Mem.tail))); k_dflt (refine' call_spec (same_spec (vs := vs) (bk := bk) (t := TA) (t' := TA) ?X ?T ?S ?B ?hv ?hu) rfl ?zd ?zu ?F ?N ?_; (case F => k_asm); (case N => k_asm); (case S => exact stays_fr (by k_asm)); (case X => k_asm); (case T => k_asm); (case B => exact B.stays Z9); (case hv => exact hva.stays Z9); (case hu => exact hva.stays Z9); (case zd => exact Nat.le_of_ble_eq_true rfl); (case zu => exact Nat.le_of_ble_eq_true rfl)); intro r' h' tk' F' N' S' p'; subst p'; (try rw [eqv_self]); (try clear Z9); (try k_sweep))
    | (k_extra "attr")
    | ((with_reducible show wpAny _ _ (getMethod (Value.ref _) _ _) _ _ _); (have Z9 := z_stays htz (by k_asm) (by k_asm) (by intro p' hp'; repeat (first | exact hp' | apply List.Mem.tail))); k_dflt (refine' method_inst ?k1 ?k2 ?k3 ?k4 ?k5 ?k6 ?k7 ?_; (case k1 => k_asm); (case k2 => k_asm); (case k3 => exact instAt_stays I1 Z9); (case k4 => k_is); (case k5 => k_is); (case k6 => k_is); (case k7 => k_get); k_whole); (try clear Z9))
    | (k_extra "def")
    | (k_extra "combo")
    | (k_unfold; (try dsimp only))
    | (k_end; wrow_close)
    | walk1
    | (dsimp only; walk1)
    | (leave1; (try dsimp only))
    | fail "no step")
  all_goals (try k_unfold)
theorem law_ret {w : World} {mean : ExcName → Option Value} {mg mb : PySem.Str → Option Value} {g z : Heap} {s : Shared} {E : Value → Shared → Prop} {Q : Flow → Shared → Prop} {fa L sy y0 y1 n : Nat} {cd u0 u1 : Value} {t0 t1 : Tok} {m9 : PySem.Str → Option Value} {tl : Led}
    (X : (K w.params).In g) (T : Top q (looseW q loose) mean mg mb g) (F : Fr g L s.heap (fun y => if y = ofString "symbols" then some (.ref sy) else m9 y)) (N : News g L s.heap ((sy, listOf #[.ref y0, .ref y1] n) :: tl)) (htz : ∀ a o, z.get? a = some o → g.get? a = some o ∨ (a, o) ∈ tl)
    (I4 : Inst2 w.params z y0 71 (ofString "number") (.int 0 t0) (ofString "text") u0) (I5 : Inst2 w.params z y1 71 (ofString "number") (.int 1 t1) (ofString "text") u1) (hQ : ∀ h' tk, g.StaysIn h' → Q (.ret (.bool true)) { s with heap := h', toks := tk }) :
    wpAny (model P0 w) (callerA.deeper (envOfC (ofString "law") (sScope (stm 55)) L fa cd)) (execs ((sBody (stm 55)).drop 7) (envOfC (ofString "law") (sScope (stm 55)) L fa cd)) Q E s := by
  obtain ⟨_, _, _, _, J1⟩ := I4
  obtain ⟨_, _, _, _, J2⟩ := I5
  (try k_fold)
  repeat' (first
    | ((with_reducible show LCg.CompSrc _ _ _ _ _ _ _ _ _ _ _ _ _ _); k_dflt (refine' LCg.CompSrc.ledger ?y1 ?y2 ?y3 ?y4 ?y5 ?_; (case y1 => rfl); (case y2 => k_asm); (case y3 => k_asm); (case y4 => k_mem); (case y5 => exact Nat.le_of_ble_eq_true rfl)); intro g'; lcg_lit)
    | ((with_reducible show wpAny _ _ (getAttr (Value.ref _) _ _) _ _ _); (have Z9 := z_stays htz (by k_asm) (by k_asm) (by intro p' hp'; repeat (first | exact hp' | apply List.Mem.tail))); k_dflt (first | (refine' get_own ?k1 ?k2 ?k3 ?k4 ?k5 ?k6 ?k7 ?k8 ?k9 ?_; (case k1 => k_asm); (case k2 => k_asm); (case k3 => exact instAt_stays J1 Z9); (case k4 => k_is); (case k5 => k_is); (case k6 => k_is); (case k7 => k_is); (case k8 => k_get); (case k9 => k_handed); k_whole) | (refine' get_own ?k1 ?k2 ?k3 ?k4 ?k5 ?k6 ?k7 ?k8 ?k9 ?_; (case k1 => k_asm); (case k2 => k_asm); (case k3 => exact instAt_stays J2 Z9); (case k4 => k_is); (case k5 => k_is); (case k6 => k_is); (case k7 => k_is); (case k8 => k_get); (case k9 => k_handed); k_whole)); (try clear Z9))
    | ((with_reducible show wpAny _ _ (eval (Expr.ListComp _ _ _ _) _) _ _ _); k_dflt (refine LCg.ListComp_U (F₀ := by k_asm) (by with_unfolding_all rfl) (by decide) (by rfl) (by decide) (by rfl) ?_))
    | ((with_reducible show wpAny _ _ (exec (Stmt.Assign [Expr.Name _ _] (Expr.ListComp _ _ _ _) _) _) _ _ _); k_dflt (refine LCg.Assign_ListComp_U (F₀ := by k_asm) (by rfl) (by with_unfolding_all rfl) (by with_unfolding_all rfl) (by decide) (by rfl) (by decide) (by rfl) (by rfl) (by rfl) ?_))
    | ((with_reducible show LCg.CompRest _ _ _ _ _ _ _ _ _ _ _ _ _ _ _ _ _ _ _); first | ((with_unfolding_all refine LCg.CompRest.succ ?_); intro v' I' oI' C' oC' D' m' h' tk' E' hv' hC' hx' F' N' off' ne'; (first | lcg_open hv' | (obtain ⟨t9', hv9'⟩ := hv'; subst hv9')); (obtain ⟨offI', offC', offD'⟩ := off_all (oC := oI') (oD := oI') off' ne'); clear off' ne'; (try dsimp only)) | ((with_unfolding_all refine LCg.CompRest.zero ?_); (try dsimp only)))
    | ((with_reducible show LCg.FinE _ _ _ _ _ _ _); (unfold LCg.FinE); intro D' h' tk' F' N' o1'; replace o1' := off_one o1'; (try simp only [List.nil_append, List.cons_append] at N'); (try dsimp only))
    | ((with_reducible show LCg.FinA _ _ _ _ _ _ _ _); (unfold LCg.FinA); intro D' h' tk' F' N' o1'; replace o1' := off_one o1'; (try simp only [List.nil_append, List.cons_append] at N'); (try dsimp only))
    | ((with_reducible show LCg.CompEnd _ _ _ _ _ _ _ _ _ _ _ _ _ _); k_dflt (refine' comp_end0 F' N' (offr2 offI' rfl) (offr1 offC' rfl) (offr0 offD' rfl) (by lcg_src) ?_); clear offI' offC' offD')
    | (k_extra "combo")
    | (k_unfold; (try dsimp only))
    | (k_end; wrow_close)
    | walk1
    | (dsimp only; walk1)
    | (leave1; (try dsimp only))
    | fail "no step")
  all_goals (try k_unfold)
  all_goals exact hQ _ _ (stays_fr (by k_asm))

theorem obody_turn {w : World} {mean : ExcName → Option Value} {mg mb : PySem.Str → Option Value} {g z h0 h : Heap} {s : Shared} {E : Value → Shared → Prop} {Q : Flow → Shared → Prop} {a0 fa L st D D9 bl vl d th sy tb i tk : Nat} {oS oV : Obj} {cd a b : Value} {o9 : Option Value} {m₁ : PySem.Str → Option Value} {vs es zs ys : List Value} {tl news : Led} {Tt : Nat → Pl} {bk : Nat → Nat}
    (X : (K w.params).In g) (T : Top q (looseW q loose) mean mg mb g) (gk : g.StaysIn h0) (ga : g.objs.size ≤ L) (htz : ∀ a o, z.get? a = some o → g.get? a = some o ∨ (a, o) ∈ tl) (hS : StoreAt w.params z st) (B : Blks w.params vs bk z) (hbl : z.IsList bl es.toArray) (hvl : z.IsList vl vs.toArray) (hes : es.length ≤ 64) (hsz : vs.length ≤ 64) (hblk : ∀ i t, i < zs.length → Tt i = .block t → BlkAt w.params vs es z t) (hbk : ∀ (i : Nat) (x : Nat) (c : Nat), vs[i]? = some (.ref x) → (∃ dx, z.get? x = some (instObj c dx)) → bk i = c) (hD : z.IsList D zs.toArray) (hD9 : z.IsList D9 ys.toArray) (nD : D ≠ L) (nD9 : D9 ≠ L) (hth : ∀ (i : Nat) (v : Value), zs[i]? = some v → ThAt z (Tt i) v) (hvas : ∀ (i : Nat) (v : Value), ys[i]? = some v → Va w.params vs z v (Tt i)) (hoS : oS.data = .cell (some (.ref st))) (hoV : oV.data = .cell (some (.ref vl)))
    (N0 : News g L h0 news) (mS : (L + 1 + 1, oS) ∈ news) (mV : (L + 1, oV) ∈ news) (htl : ∀ q ∈ tl, q ∈ news) (ha : zs.toArray[i]? = some a) (hb : ys.toArray[i]? = some b)
    (kh : (hideAll h0 [L]).StaysIn h) (hN : h.Ns L (fun q => if q = ofString "value" then some b else if q = ofString "thing" then some a else m₁ q)) (hm : ∀ q, q ∉ [ofString "thing", ofString "value", ofString "other", ofString "own"] → m₁ q = (fun y => if y = ofString "told" then some (.ref D9) else if y = ofString "things" then some (.ref D) else if y = ofString "turn" then o9 else if y = ofString "things" then some (.ref th) else if y = ofString "symbols" then some (.ref sy) else if y = ofString "table" then some (.ref tb) else if y = ofString "blocks" then some (.ref bl) else if y = ofString "deck" then some (.ref d) else bindL (envOfC (ofString "law") (sScope (stm 55)) L fa cd).kindOf [(ofString "script", Value.ref a0)] (fun _ => none) y) q)
    (hQ : ∀ h' tk', (∀ a o, a ≠ L → h.get? a = some o → h'.get? a = some o) → (∃ m', h'.Ns L m' ∧ ∀ q, q ∉ [ofString "thing", ofString "value", ofString "other", ofString "own"] → m' q = (fun y => if y = ofString "told" then some (.ref D9) else if y = ofString "things" then some (.ref D) else if y = ofString "turn" then o9 else if y = ofString "things" then some (.ref th) else if y = ofString "symbols" then some (.ref sy) else if y = ofString "table" then some (.ref tb) else if y = ofString "blocks" then some (.ref bl) else if y = ofString "deck" then some (.ref d) else bindL (envOfC (ofString "law") (sScope (stm 55)) L fa cd).kindOf [(ofString "script", Value.ref a0)] (fun _ => none) y) q) → Q .next { s with heap := h', toks := tk' }) :
    wpAny (model P0 w) (callerA.deeper (envOfC (ofString "law") (sScope (stm 55)) L fa cd)) (execs obody (envOfC (ofString "law") (sScope (stm 55)) L fa cd)) Q E { s with heap := h, toks := tk } := by
  have nL : ∀ a o, g.get? a = some o → a ≠ L := fun a o e q => by have := Heap.lt_size e; rw [q] at this; exact absurd (Nat.lt_of_lt_of_le this ga) (Nat.lt_irrefl _)
  have gh : g.StaysIn h := fun a o e => kh _ _ (hideAll_get _ (gk _ _ e) fun q => nL a o e (List.mem_singleton.mp q))
  have nh : ∀ q ∈ news, h.get? q.1 = some q.2 := fun q hq => kh _ _ (hideAll_get _ (N0 q hq).1 fun x => (N0 q hq).2.1 (List.mem_singleton.mp x))
  have f1 : m₁ (ofString "told") = some (.ref D9) := hm _ (by decide)
  have f2 : m₁ (ofString "things") = some (.ref D) := hm _ (by decide)
  have f3 : m₁ (ofString "blocks") = some (.ref bl) := hm _ (by decide)
  have h2 := hth i a (by simpa using ha)
  obtain ⟨t2, rfl⟩ := th_ref h2
  have em : (fun q => if q = ofString "value" then some b else if q = ofString "thing" then some (Value.ref t2) else m₁ q) = (fun q => if q = ofString "value" then some b else if q = ofString "thing" then some (Value.ref t2) else if q = ofString "told" then some (.ref D9) else if q = ofString "things" then some (.ref D) else if q = ofString "blocks" then some (.ref bl) else m₁ q) := by
    funext y
    by_cases q1 : y = ofString "value"
    · rw [if_pos q1, if_pos q1]
    rw [if_neg q1, if_neg q1]
    by_cases q2 : y = ofString "thing"
    · rw [if_pos q2, if_pos q2]
    rw [if_neg q2, if_neg q2]
    by_cases q3 : y = ofString "told"
    · rw [if_pos q3, q3, f1]
    rw [if_neg q3]
    by_cases q4 : y = ofString "things"
    · rw [if_pos q4, q4, f2]
    rw [if_neg q4]
    by_cases q5 : y = ofString "blocks"
    · rw [if_pos q5, q5, f3]
    rw [if_neg q5]
  rw [em] at hN
  have hi : i < zs.length := by
    have := (List.getElem?_eq_some_iff.mp (show zs[i]? = _ by simpa using ha)).1
    exact this
  have NN : News g L h ((L + 1 + 1, oS) :: (L + 1, oV) :: allB g L h) := fun p hp => by
    rcases List.mem_cons.mp hp with rfl | hp
    · exact ⟨nh _ mS, (N0 _ mS).2⟩
    rcases List.mem_cons.mp hp with rfl | hp
    · exact ⟨nh _ mV, (N0 _ mV).2⟩
    · exact allB_news p hp
  refine law_obody (s := { s with heap := h, toks := tk }) (TA := Tt i) (Tt := Tt) (zs := zs) (ys := ys) X T ⟨hN, gh, ga⟩ NN hoS hoV (fun y o e => ?_) hS B (hvas i b (by simpa using hb)) h2 hbl hvl hes hsz (fun t e => hblk i t hi e) hbk hD hD9 nD nD9 hth hvas fun h' tk' g' F' N' => ?_
  · rcases htz y o e with e' | e'
    · exact .inl e'
    · exact allB_or gh (nh _ (htl _ e')) (N0 _ (htl _ e')).2.1
  · obtain ⟨m', Nm, hm'⟩ := N'
    refine hQ h' tk' (fun y o ny e => ?_) ⟨m', Nm, fun q hq => ?_⟩
    · rcases allB_or gh e ny with e' | e'
      · exact g' _ _ e'
      · exact F' _ e'
    · have hq0 := hq
      simp only [List.mem_cons, List.not_mem_nil, or_false, not_or] at hq
      rw [hm' q (by simp [hq]), ← hm q hq0, ← em]
      dsimp only
      rw [if_neg hq.2.1, if_neg hq.1]

theorem p4_ret {w : World} {mean : ExcName → Option Value} {mg mb : PySem.Str → Option Value} {g z h h0 : Heap} {s : Shared} {E : Value → Shared → Prop} {Q : Flow → Shared → Prop} {a fa L d bl th tb D D9 sy y0 y1 n tk : Nat} {cd u0 u1 : Value} {o9 : Option Value} {t0 t1 : Tok} {tl news : Led}
    (X : (K w.params).In g) (T : Top q (looseW q loose) mean mg mb g) (gh : g.StaysIn h) (ga : g.objs.size ≤ L) (N0 : News g L h0 news) (nh : ∀ q ∈ news, h.get? q.1 = some q.2) (hN : ∃ m', h.Ns L m' ∧ ∀ q, q ∉ [ofString "thing", ofString "value", ofString "other", ofString "own"] → m' q = (fun y => if y = ofString "told" then some (.ref D9) else if y = ofString "things" then some (.ref D) else if y = ofString "turn" then o9 else if y = ofString "things" then some (.ref th) else if y = ofString "symbols" then some (.ref sy) else if y = ofString "table" then some (.ref tb) else if y = ofString "blocks" then some (.ref bl) else if y = ofString "deck" then some (.ref d) else bindL (envOfC (ofString "law") (sScope (stm 55)) L fa cd).kindOf [(ofString "script", Value.ref a)] (fun _ => none) y) q) (mY : (sy, listOf #[.ref y0, .ref y1] n) ∈ news) (htl : ∀ q ∈ tl, q ∈ news) (htz : ∀ a o, z.get? a = some o → g.get? a = some o ∨ (a, o) ∈ tl)
    (J4 : Inst2 w.params z y0 71 (ofString "number") (.int 0 t0) (ofString "text") u0) (J5 : Inst2 w.params z y1 71 (ofString "number") (.int 1 t1) (ofString "text") u1) (hQ : ∀ h' tk, g.StaysIn h' → Q (.ret (.bool true)) { s with heap := h', toks := tk }) :
    wpAny (model P0 w) (callerA.deeper (envOfC (ofString "law") (sScope (stm 55)) L fa cd)) (execs ((sBody (stm 55)).drop 7) (envOfC (ofString "law") (sScope (stm 55)) L fa cd)) Q E { s with heap := h, toks := tk } := by
  obtain ⟨m', N', hm⟩ := hN
  have f1 : m' (ofString "symbols") = some (.ref sy) := hm _ (by decide)
  have em : m' = (fun y => if y = ofString "symbols" then some (.ref sy) else m' y) := by
    funext y
    by_cases q1 : y = ofString "symbols"
    · rw [if_pos q1, q1, f1]
    rw [if_neg q1]
  rw [em] at N'
  exact law_ret (s := { s with heap := h, toks := tk }) X T ⟨N', gh, ga⟩ (tl := news) (fun p hp => by
    rcases List.mem_cons.mp hp with rfl | hp
    · exact ⟨nh _ mY, (N0 _ mY).2⟩
    · exact ⟨nh _ hp, (N0 _ hp).2⟩) (fun y o e => (htz y o e).imp id fun q => htl _ q) J4 J5 hQ
theorem law_p4 {w : World} {mean : ExcName → Option Value} {mg mb : PySem.Str → Option Value} {g z : Heap} {s : Shared} {E : Value → Shared → Prop} {Q : Flow → Shared → Prop} {a fa L st D D9 bl vl d th sy tb y0 y1 n : Nat} {oS oV : Obj} {cd u0 u1 : Value} {o9 : Option Value} {t0 t1 : Tok} {vs es zs ys : List Value} {tl : Led} {Tt : Nat → Pl} {bk : Nat → Nat}
    (X : (K w.params).In g) (T : Top q (looseW q loose) mean mg mb g) (F : Fr g L s.heap (fun y => if y = ofString "told" then some (.ref D9) else if y = ofString "things" then some (.ref D) else if y = ofString "turn" then o9 else if y = ofString "things" then some (.ref th) else if y = ofString "symbols" then some (.ref sy) else if y = ofString "table" then some (.ref tb) else if y = ofString "blocks" then some (.ref bl) else if y = ofString "deck" then some (.ref d) else bindL (envOfC (ofString "law") (sScope (stm 55)) L fa cd).kindOf [(ofString "script", Value.ref a)] (fun _ => none) y)) (N : News g L s.heap ((L + 1 + 1, oS) :: (L + 1, oV) :: (sy, listOf #[.ref y0, .ref y1] n) :: tl)) (htz : ∀ a o, z.get? a = some o → g.get? a = some o ∨ (a, o) ∈ tl) (hS : StoreAt w.params z st) (B : Blks w.params vs bk z) (hbl : z.IsList bl es.toArray) (hvl : z.IsList vl vs.toArray) (hes : es.length ≤ 64) (hsz : vs.length ≤ 64) (hblk : ∀ i t, i < zs.length → Tt i = .block t → BlkAt w.params vs es z t) (hbk : ∀ (i : Nat) (x : Nat) (c : Nat), vs[i]? = some (.ref x) → (∃ dx, z.get? x = some (instObj c dx)) → bk i = c) (hD : z.IsList D zs.toArray) (hD9 : z.IsList D9 ys.toArray) (nD : D ≠ L) (nD9 : D9 ≠ L) (hth : ∀ (i : Nat) (v : Value), zs[i]? = some v → ThAt z (Tt i) v) (hvas : ∀ (i : Nat) (v : Value), ys[i]? = some v → Va w.params vs z v (Tt i)) (hoS : oS.data = .cell (some (.ref st))) (hoV : oV.data = .cell (some (.ref vl)))
    (J4 : Inst2 w.params z y0 71 (ofString "number") (.int 0 t0) (ofString "text") u0) (J5 : Inst2 w.params z y1 71 (ofString "number") (.int 1 t1) (ofString "text") u1) (hQ : ∀ h' tk, g.StaysIn h' → Q (.ret (.bool true)) { s with heap := h', toks := tk }) :
    wpAny (model P0 w) (callerA.deeper (envOfC (ofString "law") (sScope (stm 55)) L fa cd)) (execs ((sBody (stm 55)).drop 6) (envOfC (ofString "law") (sScope (stm 55)) L fa cd)) Q E s := by
  (try k_fold)
  repeat' (first
    | ((with_reducible show wpAny _ _ (exec (Stmt.For _ _ _ _ _) _) _ _ _); refine wpAny_For ?_)
    | ((with_reducible show wpAny _ _ (call (Value.type "zip") [Value.ref D, Value.ref D9]) _ _ _); (have Z9 := z_stays htz (by k_asm) (by k_asm) (by intro p' hp'; repeat (first | exact hp' | apply List.Mem.tail))); refine zip_for (L := L) (m0 := (fun y => if y = ofString "told" then some (.ref D9) else if y = ofString "things" then some (.ref D) else if y = ofString "turn" then o9 else if y = ofString "things" then some (.ref th) else if y = ofString "symbols" then some (.ref sy) else if y = ofString "table" then some (.ref tb) else if y = ofString "blocks" then some (.ref bl) else if y = ofString "deck" then some (.ref d) else bindL (envOfC (ofString "law") (sScope (stm 55)) L fa cd).kindOf [(ofString "script", Value.ref a)] (fun _ => none) y)) (names := [ofString "thing", ofString "value", ofString "other", ofString "own"]) rfl rfl (by rfl) (by rfl) (by rfl) (by decide) (by decide) (isList_stays hD Z9) (isList_stays hD9 Z9) nD nD9 ⟨_, fr_ns (by k_asm), fun _ _ => rfl⟩ ?zt9 ?zf9; (case' zt9 => (intro i9 a9 b9 h9 tk9 m9' E9 Q9 ha9 hb9 kh9 hN9 hm9 hQ9; exact obody_turn (a0 := a) X T (fr_keep (by k_asm)) (fr_above (by k_asm)) htz hS B hbl hvl hes hsz hblk hbk hD hD9 nD nD9 hth hvas hoS hoV (by k_asm) (by k_mem) (by k_mem) (by intro p' hp'; repeat (first | exact hp' | apply List.Mem.tail)) ha9 hb9 kh9 hN9 hm9 hQ9)); (case' zf9 => (intro h9 tk9 kh9 hN9; (have k9 := fin_keep (by k_asm) (by k_asm) kh9); (have a9 := fr_above (by k_asm)); exact p4_ret X T k9.1 a9 (by k_asm) k9.2 hN9 (by k_mem) (by intro p' hp'; repeat (first | exact hp' | apply List.Mem.tail)) htz J4 J5 hQ)))
    | (k_extra "combo")
    | (k_unfold; (try dsimp only))
    | (k_end; wrow_close)
    | walk1
    | (dsimp only; walk1)
    | (leave1; (try dsimp only))
    | fail "no step")
  all_goals (try k_unfold)
theorem blk_of {P : Params} {base hv z : Heap} {d c bl vl i : Nat} {σ : List Rec} (S : St P base d c bl vl hv σ) (Z : hv.StaysIn z) (hi : i < σ.length) : BlkAt P (xsOf σ) (esOf σ) z i := by
  have hr : σ[i] ∈ σ := List.getElem_mem hi
  obtain ⟨ok, k, h3, h6, h7⟩ := S.gd _ hr
  have Sh : (hideAll hv (muts d c bl vl σ)).StaysIn z := fun a o e => Z _ _ (of_hideAll _ e)
  obtain ⟨h4, h5⟩ := S.hp _ hr
  exact ⟨σ[i].e, σ[i].p, σ[i].x, σ[i].m, σ[i].po, σ[i].mo, σ[i].b, k, by simp [esOf, hi], by simp [xsOf, hi], isList_stays h3 Sh, Z _ _ h4, Z _ _ h5, h6.stays Sh, h7.stays Sh, ok⟩
theorem cls_mem (b : Bl) : b.cls ∈ [155, 197, 218, 239, 260] := by cases b <;> simp [Bl.cls]
theorem mo_hasK {P : Params} {vs : List Value} {z : Heap} {x m : Nat} {mo : Obj} {b : Bl} (X : (K P).In z) (y : Mo P vs z x m mo b) (hm : z.get? m = some mo) : HasK P z (.ref x) b.cls := by
  cases y with
  | string I i => exact I.hasK X (by decide)
  | pair I _ _ => exact hasK_inst X (inst_get I hm) (by simp [Bl.cls])
  | vector I _ _ => exact I.hasK X (by decide)
  | box I _ => exact hasK_inst X (inst_get I hm) (by simp [Bl.cls])
  | promise I _ => exact hasK_inst X (inst_get I hm) (by simp [Bl.cls])
theorem blks_of {P : Params} {base hv z : Heap} {d c bl vl : Nat} {σ : List Rec} (X : (K P).In z) (S : St P base d c bl vl hv σ) (Z : hv.StaysIn z) : Blks P (xsOf σ) (fun i => match σ[i]? with | some r => r.b.cls | none => 155) z := by
  constructor
  · intro i v hv'
    have hi : i < σ.length := by have := (List.getElem?_eq_some_iff.mp hv').1; simpa [xsOf] using this
    have e : σ[i]? = some σ[i] := List.getElem?_eq_getElem hi
    have ex : v = .ref σ[i].x := by
      have : (xsOf σ)[i]? = some (.ref σ[i].x) := by simp [xsOf, hi]
      rw [this] at hv'; exact (Option.some.inj hv').symm
    have hr : σ[i] ∈ σ := List.getElem_mem hi
    obtain ⟨ok, k, h3, h6, h7⟩ := S.gd _ hr
    have Sh : (hideAll hv (muts d c bl vl σ)).StaysIn z := fun a o e => Z _ _ (of_hideAll _ e)
    simp only [e]
    exact ⟨ex ▸ mo_hasK X (h7.stays Sh) (Z _ _ (S.hp _ hr).2), cls_mem _⟩
  · intro i j v h1 h2
    have hi : i < σ.length := by have := (List.getElem?_eq_some_iff.mp h1).1; simpa [xsOf] using this
    have hj : j < σ.length := by have := (List.getElem?_eq_some_iff.mp h2).1; simpa [xsOf] using this
    have e1 : σ[i].x = v := by
      have : (xsOf σ)[i]? = some (.ref σ[i].x) := by simp [xsOf, hi]
      rw [this] at h1; exact Value.ref.inj (Option.some.inj h1)
    have e2 : σ[j].x = v := by
      have : (xsOf σ)[j]? = some (.ref σ[j].x) := by simp [xsOf, hj]
      rw [this] at h2; exact Value.ref.inj (Option.some.inj h2)
    have nd := S.xs
    have hi' : i < (σ.map (·.x)).length := by simpa using hi
    have hj' : j < (σ.map (·.x)).length := by simpa using hj
    have pw := List.pairwise_iff_getElem.mp nd
    rcases Nat.lt_trichotomy i j with q | q | q
    · exact absurd (by simp [e1, e2]) (pw i j hi' hj' q)
    · exact q
    · exact absurd (by simp [e1, e2]) (pw j i hj' hi' q)
theorem bk_of {P : Params} {base hv z : Heap} {d c bl vl : Nat} {σ : List Rec} (S : St P base d c bl vl hv σ) (Z : hv.StaysIn z) : ∀ (i : Nat) (x : Nat) (k : Nat), (xsOf σ)[i]? = some (.ref x) → (∃ dx, z.get? x = some (instObj k dx)) → (fun i => match σ[i]? with | some r => r.b.cls | none => 155) i = k := by
  intro i x k h1 ⟨dx, hd⟩
  have hi : i < σ.length := by have := (List.getElem?_eq_some_iff.mp h1).1; simpa [xsOf] using this
  have e : σ[i]? = some σ[i] := List.getElem?_eq_getElem hi
  have e1 : σ[i].x = x := by
    have : (xsOf σ)[i]? = some (.ref σ[i].x) := by simp [xsOf, hi]
    rw [this] at h1; exact Value.ref.inj (Option.some.inj h1)
  have hr : σ[i] ∈ σ := List.getElem_mem hi
  obtain ⟨ok, _, h3, h6, h7⟩ := S.gd _ hr
  obtain ⟨dx', h8⟩ := h7.inst
  have h9 := Z _ _ (of_hideAll _ h8)
  rw [e1, hd] at h9
  simp only [e]
  have := Option.some.inj h9
  simp only [instObj, Obj.mk.injEq, Value.ref.injEq] at this
  exact this.1.symm
theorem after_loop {w : World} {mean : ExcName → Option Value} {mg mb : PySem.Str → Option Value} {g b0 h : Heap} {s : Shared} {E : Value → Shared → Prop} {Q : Flow → Shared → Prop} {a fa L d c bl vl st th sy tb nth nsy y0 y1 tk : Nat} {oS oV : Obj} {cd T1 T2 T3 u0 u1 : Value} {t0 t1 : Tok} {m' : PySem.Str → Option Value} {ws : List Nat} {σ : List Rec} {C1 C2 C3 : Pl}
    (X : (K w.params).In g) (T : Top q (looseW q loose) mean mg mb g) (gb : g.StaysIn b0) (F : Fr g L h m') (hm : ∀ y, y ≠ ofString "turn" → m' y = if y = ofString "things" then some (.ref th) else if y = ofString "symbols" then some (.ref sy) else if y = ofString "table" then some (.ref tb) else if y = ofString "blocks" then some (.ref bl) else if y = ofString "deck" then some (.ref d) else bindL (envOfC (ofString "law") (sScope (stm 55)) L fa cd).kindOf [(ofString "script", Value.ref a)] (fun _ => none) y) (V : View w.params b0 d c bl vl ws h σ) (hLw : L ∈ ws) (hl : σ.length ≤ 14)
    (hS : StoreAt w.params b0 st) (e1 : b0.get? (L + 1 + 1) = some oS) (e2 : b0.get? (L + 1) = some oV) (e3 : g.get? (L + 1 + 1) = none) (e4 : g.get? (L + 1) = none) (hoS : oS.data = .cell (some (.ref st))) (hoV : oV.data = .cell (some (.ref vl)))
    (eth : b0.get? th = some (listOf #[T1, T2, T3] nth)) (gth : g.get? th = none) (esy : b0.get? sy = some (listOf #[.ref y0, .ref y1] nsy)) (gsy : g.get? sy = none) (q1 : ThAt b0 C1 T1) (q2 : ThAt b0 C2 T2) (q3 : ThAt b0 C3 T3) (p1 : OkT 0 C1) (p2 : OkT 0 C2) (p3 : OkT 0 C3) (r1 : ∀ i, C1 ≠ .block i) (r2 : ∀ i, C2 ≠ .block i) (r3 : ∀ i, C3 ≠ .block i)
    (J4 : Inst2 w.params b0 y0 71 (ofString "number") (.int 0 t0) (ofString "text") u0) (J5 : Inst2 w.params b0 y1 71 (ofString "number") (.int 1 t1) (ofString "text") u1) (hQ : ∀ h' tk, g.StaysIn h' → Q (.ret (.bool true)) { s with heap := h', toks := tk }) :
    wpAny (model P0 w) (callerA.deeper (envOfC (ofString "law") (sScope (stm 55)) L fa cd)) (execs ((sBody (stm 55)).drop 4) (envOfC (ofString "law") (sScope (stm 55)) L fa cd)) Q E { s with heap := h, toks := tk } := by
  obtain ⟨hv, S, Sv, nw⟩ := V
  have nLv : ∀ y o, hv.get? y = some o → y ≠ L := fun y o e q => by rw [q, nw L hLw] at e; cases e
  obtain ⟨nb, eb⟩ := S.hb
  obtain ⟨nv, ev⟩ := S.hv
  have Xz := X.keeps (fun a o e => S.keep _ _ (gb _ _ e))
  have Tz := T.keeps (fun a o e => S.keep _ _ (gb _ _ e))
  have em : m' = (fun y => if y = ofString "turn" then m' (ofString "turn") else if y = ofString "things" then some (.ref th) else if y = ofString "symbols" then some (.ref sy) else if y = ofString "table" then some (.ref tb) else if y = ofString "blocks" then some (.ref bl) else if y = ofString "deck" then some (.ref d) else bindL (envOfC (ofString "law") (sScope (stm 55)) L fa cd).kindOf [(ofString "script", Value.ref a)] (fun _ => none) y) := by
    funext y
    by_cases q : y = ofString "turn"
    · rw [if_pos q, q]
    · rw [if_neg q, hm y q]
  rw [em] at F
  have gh : g.StaysIn h := fun y o e => Sv _ _ (S.keep _ _ (gb _ _ e))
  have ent : ∀ y o, b0.get? y = some o → g.get? y = none → h.get? y = some o ∧ y ≠ L ∧ g.get? y = none := fun y o e n => ⟨Sv _ _ (S.keep _ _ e), nLv _ _ (S.keep _ _ e), n⟩
  have N : News g L h ((L + 1 + 1, oS) :: (L + 1, oV) :: (th, listOf #[T1, T2, T3] nth) :: allB g L h) := fun p hp => by
    rcases List.mem_cons.mp hp with rfl | hp
    · exact ent _ _ e1 e3
    rcases List.mem_cons.mp hp with rfl | hp
    · exact ent _ _ e2 e4
    rcases List.mem_cons.mp hp with rfl | hp
    · exact ent _ _ eth gth
    · exact allB_news p hp
  have htl : ∀ a o, hv.get? a = some o → g.get? a = some o ∨ (a, o) ∈ allB g L h := fun y o e => allB_or gh (Sv _ _ e) (nLv _ _ e)
  have le : (esOf σ).length = σ.length := by simp [esOf]
  have lx : (xsOf σ).length = σ.length := by simp [xsOf]
  refine law_p2 (vs := []) (s := { s with heap := h, toks := tk }) X T F N hoS hoV htl ⟨_, eb, rfl, _, rfl⟩ (by rw [le]; exact hl) fun {D ys news9 h2 tk2} F2 N2 ⟨sub, hlen, hTh⟩ => ?_
  have htl2 : ∀ a o, hv.get? a = some o → g.get? a = some o ∨ (a, o) ∈ news9 := fun y o e => (htl y o e).imp id fun q => sub _ (.tail _ (.tail _ (.tail _ q)))
  have hT : ∀ (i : Nat) (v : Value), ([T1, T2, T3] ++ ys)[i]? = some v → (∀ H, hv.StaysIn H → Has H news9 → ThAt H ((fun i => ([C1, C2, C3][i]?).getD (.block (i - 3))) i) v) ∧ OkT (xsOf σ).length ((fun i => ([C1, C2, C3][i]?).getD (.block (i - 3))) i) := fun i v e => by
    match i, e with
    | 0, e => cases Option.some.inj e; exact ⟨fun H Z _ => (q1.stays S.keep).stays Z, okT_more (Nat.zero_le _) p1⟩
    | 1, e => cases Option.some.inj e; exact ⟨fun H Z _ => (q2.stays S.keep).stays Z, okT_more (Nat.zero_le _) p2⟩
    | 2, e => cases Option.some.inj e; exact ⟨fun H Z _ => (q3.stays S.keep).stays Z, okT_more (Nat.zero_le _) p3⟩
    | j + 3, e =>
      have e : ys[j]? = some v := by simpa using e
      have hj : j < σ.length := by have := (List.getElem?_eq_some_iff.mp e).1; omega
      exact ⟨fun H Z hA => hTh j v e H hA, by rw [lx]; exact hj⟩
  have N2' : News g L h2 ((D, listOf ([T1, T2, T3] ++ ys).toArray 0) :: (L + 1 + 1, oS) :: (L + 1, oV) :: news9) := fun p hp => by
    rcases List.mem_cons.mp hp with rfl | hp
    · exact N2 _ (.head _)
    rcases List.mem_cons.mp hp with rfl | hp
    · exact N2 _ (.tail _ (sub _ (.head _)))
    rcases List.mem_cons.mp hp with rfl | hp
    · exact N2 _ (.tail _ (sub _ (.tail _ (.head _))))
    · exact N2 p (.tail _ hp)
  refine law_p3 (z := hv) (Tt := (fun i => ([C1, C2, C3][i]?).getD (.block (i - 3)))) X T Xz Tz (hS.stays S.keep) ⟨_, ev, rfl, _, rfl⟩ (by rw [lx]; omega) F2 N2' hoS hoV htl2 hT (by simp; omega) fun {D9 ys9 news10 h3 tk3} F3 N3 ⟨sub3, len3, hVa⟩ => ?_
  have nL3 : ∀ q ∈ news10, h3.get? q.1 = some q.2 ∧ q.1 ≠ L := fun q hq => ⟨(N3 q (.tail _ hq)).1, (N3 q (.tail _ hq)).2.1⟩
  have s9 : ∀ q ∈ news9, q ∈ news10 := fun q hq => sub3 _ (.tail _ (.tail _ (.tail _ hq)))
  have gL : ∀ y o, g.get? y = some o → y ≠ L := fun y o e => nLv _ _ (S.keep _ _ (gb _ _ e))
  have Z3 : hv.StaysIn (hideAll h3 [L]) := fun y o e => by
    refine hideAll_get _ ?_ fun q => nLv _ _ e (List.mem_singleton.mp q)
    rcases htl2 y o e with e' | e'
    · exact F3.keep _ _ e'
    · exact (nL3 _ (s9 _ e')).1
  have H10 : Has (hideAll h3 [L]) news10 := fun q hq => hideAll_get _ (nL3 q hq).1 fun x => (nL3 q hq).2 (List.mem_singleton.mp x)
  have H9 : Has (hideAll h3 [L]) news9 := fun q hq => H10 q (s9 q hq)
  have nD := N3 (D9, _) (.head _)
  have nD0 := nL3 _ (sub3 _ (.head _))
  have N4 : News g L h3 ((L + 1 + 1, oS) :: (L + 1, oV) :: (sy, listOf #[.ref y0, .ref y1] nsy) :: allB g L h3) := fun p hp => by
    rcases List.mem_cons.mp hp with rfl | hp
    · exact N3 _ (.tail _ (sub3 _ (.tail _ (.head _))))
    rcases List.mem_cons.mp hp with rfl | hp
    · exact N3 _ (.tail _ (sub3 _ (.tail _ (.tail _ (.head _)))))
    rcases List.mem_cons.mp hp with rfl | hp
    · exact ⟨of_hideAll _ (Z3 _ _ (S.keep _ _ esy)), (ent _ _ esy gsy).2⟩
    · exact allB_news p hp
  refine law_p4 (s := { s with heap := h3, toks := tk3 }) (z := hideAll h3 [L]) (Tt := (fun i => ([C1, C2, C3][i]?).getD (.block (i - 3)))) (bk := (fun i => match σ[i]? with | some r => r.b.cls | none => 155)) (vs := xsOf σ) (es := esOf σ) (zs := [T1, T2, T3] ++ ys) (ys := ys9) X T F3 N4 (fun y o e => allB_or F3.keep (of_hideAll _ e) fun q => not_mem_hide e (by rw [q]; exact .head _)) ((hS.stays S.keep).stays Z3) (blks_of (Xz.keeps Z3) S Z3) ⟨_, Z3 _ _ eb, rfl, _, rfl⟩ ⟨_, Z3 _ _ ev, rfl, _, rfl⟩ (by rw [le]; omega) (by rw [lx]; omega) ?_ (bk_of S Z3) ⟨_, H10 _ (sub3 _ (.head _)), rfl, _, rfl⟩ ⟨_, hideAll_get _ nD.1 (fun x => nD.2.1 (List.mem_singleton.mp x)), rfl, _, rfl⟩ nD0.2 nD.2.1 (fun i v e => (hT i v e).1 _ Z3 H9) (fun i v e => hVa i v e _ Z3 H10) hoS hoV ((J4.stays S.keep).stays Z3) ((J5.stays S.keep).stays Z3) hQ
  intro i t hi e
  match i, e with
  | 0, e => exact absurd e (r1 t)
  | 1, e => exact absurd e (r2 t)
  | 2, e => exact absurd e (r3 t)
  | j + 3, e =>
    have e : Pl.block j = .block t := e
    cases e
    refine blk_of S Z3 ?_
    simp at hi; omega
theorem loop_go {w : World} {mean : ExcName → Option Value} {mg mb : PySem.Str → Option Value} {g h0 : Heap} {s : Shared} {E : Value → Shared → Prop} {Q : Flow → Shared → Prop} {a fa L d c bl vl st th sy tb nth nsy y0 y1 n1 n2 : Nat} {dO cO oS oV : Obj} {cd T1 T2 T3 u0 u1 : Value} {t0 t1 : Tok} {C1 C2 C3 : Pl} {s1 : Shared} {E₁ : Value → Shared → Prop} {RR : Result → Shared → Prop} {px : Pos} {R : Nat} {n : Int} {t u v : Tok} {tl news1 : Led}
    (X : (K w.params).In g) (T : Top q (looseW q loose) mean mg mb g) (g0 : g.StaysIn h0) (F1 : Fr g L s1.heap (fun y => if y = ofString "things" then some (.ref th) else if y = ofString "symbols" then some (.ref sy) else if y = ofString "table" then some (.ref tb) else if y = ofString "blocks" then some (.ref bl) else if y = ofString "deck" then some (.ref d) else bindL (envOfC (ofString "law") (sScope (stm 55)) L fa cd).kindOf [(ofString "script", Value.ref a)] (fun _ => none) y)) (N1 : News g L s1.heap news1) (sub : ∀ q ∈ tl, q ∈ news1) (hk : ∀ a o, h0.get? a = some o → a ≠ L → g.get? a = some o ∨ (a, o) ∈ tl) (hr : IsRange s1.heap R 0 n 1 t u v) (n4 : 4 ≤ n) (n14 : n ≤ 14)
    (D0 : Dk c dO cO) (ed : h0.get? d = some dO) (ec : h0.get? c = some cO) (ebl : h0.get? bl = some (listOf #[] n1)) (evl : h0.get? vl = some (listOf #[] n2)) (nd : ([d, c, bl, vl] : List Nat).Nodup) (gd : g.get? d = none) (gc : g.get? c = none) (gbl : g.get? bl = none) (gvl : g.get? vl = none) (dL : d ≠ L) (cL : c ≠ L) (bL : bl ≠ L) (vL : vl ≠ L)
    (hS : StoreAt w.params (hideAll h0 [L, d, c, bl, vl]) st) (e1 : (hideAll h0 [L, d, c, bl, vl]).get? (L + 1 + 1) = some oS) (e2 : (hideAll h0 [L, d, c, bl, vl]).get? (L + 1) = some oV) (e3 : g.get? (L + 1 + 1) = none) (e4 : g.get? (L + 1) = none) (hoS : oS.data = .cell (some (.ref st))) (hoV : oV.data = .cell (some (.ref vl)))
    (eth : (hideAll h0 [L, d, c, bl, vl]).get? th = some (listOf #[T1, T2, T3] nth)) (gth : g.get? th = none) (esy : (hideAll h0 [L, d, c, bl, vl]).get? sy = some (listOf #[.ref y0, .ref y1] nsy)) (gsy : g.get? sy = none) (q1 : ThAt (hideAll h0 [L, d, c, bl, vl]) C1 T1) (q2 : ThAt (hideAll h0 [L, d, c, bl, vl]) C2 T2) (q3 : ThAt (hideAll h0 [L, d, c, bl, vl]) C3 T3) (p1 : OkT 0 C1) (p2 : OkT 0 C2) (p3 : OkT 0 C3) (r1 : ∀ i, C1 ≠ .block i) (r2 : ∀ i, C2 ≠ .block i) (r3 : ∀ i, C3 ≠ .block i)
    (J4 : Inst2 w.params (hideAll h0 [L, d, c, bl, vl]) y0 71 (ofString "number") (.int 0 t0) (ofString "text") u0) (J5 : Inst2 w.params (hideAll h0 [L, d, c, bl, vl]) y1 71 (ofString "number") (.int 1 t1) (ofString "text") u1) (hQ : ∀ h' tk, g.StaysIn h' → Q (.ret (.bool true)) { s with heap := h', toks := tk }) (hs1 : ∀ h tk, ({ s1 with heap := h, toks := tk } : Shared) = { s with heap := h, toks := tk })
    (hRR : ∀ s', wpAny (model P0 w) (callerA.deeper (envOfC (ofString "law") (sScope (stm 55)) L fa cd)) (execs ((sBody (stm 55)).drop 4) (envOfC (ofString "law") (sScope (stm 55)) L fa cd)) Q E s' → RR (.ok .next) s') :
    wpAny (model P0 w) (callerA.deeper (envOfC (ofString "law") (sScope (stm 55)) L fa cd)) (pyIter (.ref R)) (fun it s₂ => codeAny (model P0 w) (callerA.deeper (envOfC (ofString "law") (sScope (stm 55)) L fa cd)) (.forLoop (.Name (ofString "turn") px) it lbody [] (envOfC (ofString "law") (sScope (stm 55)) L fa cd)) RR s₂) E₁ s1 := by
  obtain ⟨k, rfl⟩ := Int.eq_ofNat_of_zero_le (by omega : 0 ≤ n)
  have hk14 : k ≤ 14 := by omega
  obtain ⟨hsm, hrs⟩ := range_n14 hk14
  have h01 : ∀ y o, h0.get? y = some o → y ≠ L → s1.heap.get? y = some o := fun y o e ny => by
    rcases hk y o e ny with e' | e'
    · exact F1.keep _ _ e'
    · exact (N1 _ (sub _ e')).1
  refine wpAny_pyIter_range hr hsm ?_
  have gL : ∀ y o, g.get? y = some o → y ≠ L := fun y o e q => by have := Heap.lt_size e; rw [q] at this; exact absurd (Nat.lt_of_lt_of_le this F1.above) (Nat.lt_irrefl _)
  have gb : g.StaysIn (hideAll h0 [L, d, c, bl, vl]) := fun y o e => hideAll_get _ (g0 _ _ e) fun q => by
    simp only [List.mem_cons, List.not_mem_nil, or_false] at q
    rcases q with rfl | rfl | rfl | rfl | rfl
    · exact gL _ _ e rfl
    · rw [gd] at e; cases e
    · rw [gc] at e; cases e
    · rw [gbl] at e; cases e
    · rw [gvl] at e; cases e
  have up : ∀ y o, h0.get? y = some o → y ≠ L → (hideAll s1.heap [L]).get? y = some o := fun y o e ny => hideAll_get _ (h01 y o e ny) fun q => ny (List.mem_singleton.mp q)
  have S : St w.params (hideAll h0 [L, d, c, bl, vl]) d c bl vl (hideAll s1.heap [L]) [] := by
    refine ⟨⟨dO, cO, D0, up _ _ ed dL, up _ _ ec cL⟩, ⟨n1, up _ _ ebl bL⟩, ⟨n2, up _ _ evl vL⟩, (fun r hr => nomatch hr), ?_, (fun y hy => ?_), (fun y o e => ?_), (fun r hr => nomatch hr), List.nodup_nil⟩
    · simpa [muts] using nd
    · have hy : y ∈ ([d, c, bl, vl] : List Nat) := by simpa [muts] using hy
      exact hideAll_none _ (.tail _ hy)
    · exact up _ _ (of_hideAll _ e) fun q => not_mem_hide e (by rw [q]; exact .head _)
  have hp : ∀ y o, s1.heap.get? y = some o → (s1.heap.push { cls := .type "range_iterator", data := .fields #[rawInt 0, rawInt (Builtin.Range.rangeSize 0 k 1), rawInt 1] }).get? y = some o := fun y o e => Heap.get?_push_of_some _ e
  have fresh : s1.heap.get? s1.heap.objs.size = none := by
    cases e : s1.heap.get? s1.heap.objs.size with
    | none => rfl
    | some o => exact absurd (Heap.lt_size e) (Nat.lt_irrefl _)
  have Xb := X.keeps gb
  have Tb := T.keeps gb
  refine law_loop (n := k) X T Xb Tb hS (F1.push _) gb e1 e2 e3 e4 hoS hoV S (fun y o e => hp _ _ (of_hideAll _ e)) (hideAll_none _ (.head _)) ?_ (Nat.ne_of_lt F1.ns.lt) hk14 ?_ fun h tk σ m' V hl F' hm => ?_
  · cases e : (hideAll s1.heap [L]).get? s1.heap.objs.size with
    | none => rfl
    | some o => have := of_hideAll _ e; rw [fresh] at this; cases this
  · show Heap.get? _ _ = _
    rw [hrs]
    simpa using Heap.get?_push_size _ rfl
  · refine hRR _ ?_
    have := after_loop (s := s) (E := E) (Q := Q) (tk := tk) X T gb F' hm V (.head _) hl hS e1 e2 e3 e4 hoS hoV eth gth esy gsy q1 q2 q3 p1 p2 p3 r1 r2 r3 J4 J5 hQ
    rw [← hs1] at this
    exact this

theorem law_rest {w : World} {mean : ExcName → Option Value} {mg mb : PySem.Str → Option Value} {g h0 : Heap} {s : Shared} {E : Value → Shared → Prop} {Q : Flow → Shared → Prop} {a fa L d c bl vl st th sy tb nth nsy y0 y1 n1 n2 : Nat} {dO cO oS oV : Obj} {cd T1 T2 T3 u0 u1 : Value} {t0 t1 : Tok} {C1 C2 C3 : Pl} {vs : List Value} {ns : List Int}
    (X : (K w.params).In g) (T : Top q (looseW q loose) mean mg mb g) (hl : g.IsList a vs.toArray) (hi : IntsAre vs ns) (hz : vs.length ≤ 63) (hh0 : s.heap = h0) (F : Fr g L s.heap (fun y => if y = ofString "things" then some (.ref th) else if y = ofString "symbols" then some (.ref sy) else if y = ofString "table" then some (.ref tb) else if y = ofString "blocks" then some (.ref bl) else if y = ofString "deck" then some (.ref d) else bindL (envOfC (ofString "law") (sScope (stm 55)) L fa cd).kindOf [(ofString "script", Value.ref a)] (fun _ => none) y))
    (D0 : Dk c dO cO) (ed : h0.get? d = some dO) (ec : h0.get? c = some cO) (ebl : h0.get? bl = some (listOf #[] n1)) (evl : h0.get? vl = some (listOf #[] n2)) (nd : ([d, c, bl, vl] : List Nat).Nodup) (gd : g.get? d = none) (gc : g.get? c = none) (gbl : g.get? bl = none) (gvl : g.get? vl = none) (dL : d ≠ L) (cL : c ≠ L) (bL : bl ≠ L) (vL : vl ≠ L)
    (hS : StoreAt w.params (hideAll h0 [L, d, c, bl, vl]) st) (e1 : (hideAll h0 [L, d, c, bl, vl]).get? (L + 1 + 1) = some oS) (e2 : (hideAll h0 [L, d, c, bl, vl]).get? (L + 1) = some oV) (e3 : g.get? (L + 1 + 1) = none) (e4 : g.get? (L + 1) = none) (hoS : oS.data = .cell (some (.ref st))) (hoV : oV.data = .cell (some (.ref vl)))
    (eth : (hideAll h0 [L, d, c, bl, vl]).get? th = some (listOf #[T1, T2, T3] nth)) (gth : g.get? th = none) (esy : (hideAll h0 [L, d, c, bl, vl]).get? sy = some (listOf #[.ref y0, .ref y1] nsy)) (gsy : g.get? sy = none) (q1 : ThAt (hideAll h0 [L, d, c, bl, vl]) C1 T1) (q2 : ThAt (hideAll h0 [L, d, c, bl, vl]) C2 T2) (q3 : ThAt (hideAll h0 [L, d, c, bl, vl]) C3 T3) (p1 : OkT 0 C1) (p2 : OkT 0 C2) (p3 : OkT 0 C3) (r1 : ∀ i, C1 ≠ .block i) (r2 : ∀ i, C2 ≠ .block i) (r3 : ∀ i, C3 ≠ .block i)
    (J4 : Inst2 w.params (hideAll h0 [L, d, c, bl, vl]) y0 71 (ofString "number") (.int 0 t0) (ofString "text") u0) (J5 : Inst2 w.params (hideAll h0 [L, d, c, bl, vl]) y1 71 (ofString "number") (.int 1 t1) (ofString "text") u1) (hQ : ∀ h' tk, g.StaysIn h' → Q (.ret (.bool true)) { s with heap := h', toks := tk }) :
    wpAny (model P0 w) (callerA.deeper (envOfC (ofString "law") (sScope (stm 55)) L fa cd)) (execs ((sBody (stm 55)).drop 3) (envOfC (ofString "law") (sScope (stm 55)) L fa cd)) Q E s := by
  have g0 : g.StaysIn h0 := hh0 ▸ F.keep
  have N : News g L s.heap (allB g L s.heap) := allB_news
  have hk : ∀ a o, h0.get? a = some o → a ≠ L → g.get? a = some o ∨ (a, o) ∈ allB g L s.heap := fun y o e ny => allB_or F.keep (hh0 ▸ e) ny
  generalize allB g L s.heap = tl at N hk
  repeat' (first
    | ((with_reducible show wpAny _ _ (exec (Stmt.For _ _ _ _ _) _) _ _ _); refine wpAny_For ?_)
    | ((with_reducible show wpAny _ _ (call (Value.ref 915) _) _ _ _); k_dflt (refine' call_spec (many_spec ?X ?T ?S (isList_stays hl (stays_fr (by k_asm))) hi hz) rfl ?zd ?zu ?F ?N ?_; (case F => k_asm); (case N => k_asm); (case S => exact stays_fr (by k_asm)); (case X => k_asm); (case T => k_asm); (case zd => exact Nat.le_of_ble_eq_true rfl); (case zu => exact Nat.le_of_ble_eq_true rfl)); intro r' h' tk' F' N' S' p'; (obtain ⟨n9, t9, e9, n91, n92⟩ := p'); subst e9; (try k_sweep))
    | ((with_reducible show wpAny _ _ (pyIter (Value.ref _)) _ _ _); exact loop_go (s := s) (Q := Q) (E := E) X T g0 (by k_asm) (by k_asm) (by intro p' hp'; repeat (first | exact hp' | apply List.Mem.tail)) hk (by assumption) n91 n92 D0 ed ec ebl evl nd gd gc gbl gvl dL cL bL vL hS e1 e2 e3 e4 hoS hoV eth gth esy gsy q1 q2 q3 p1 p2 p3 r1 r2 r3 J4 J5 hQ (fun _ _ => rfl) (fun _ h => h))
    | (k_extra "combo")
    | (k_unfold; (try dsimp only))
    | (k_end; wrow_close)
    | walk1
    | (dsimp only; walk1)
    | (leave1; (try dsimp only))
    | fail "no step")
theorem code12 {t : Pl} (h : OkP t) : ∀ i, t ≠ .block i := fun i e => h.1 (by rw [e]; rfl)
theorem law_fin {w : World} {mean : ExcName → Option Value} {mg mb : PySem.Str → Option Value} {g : Heap} {s : Shared} {E : Value → Shared → Prop} {Q : Flow → Shared → Prop} {a fa L : Nat} {cd : Value} {vs : List Value} {ns : List Int} {th sy tb st d c bl vl A1 a2 a3 b2 b3 ds y0 y1 dy0 dy1 dt rw nth nA nds nsy n0 n1 ndt nrw nb nv : Nat} {oS oV oa2 ob2 oa3 ob3 dO cO : Obj} {kA kr k j0 i0 j1 i1 k1 k2 t0 t1 : Tok} {u0 u1 bt : Value} {r : Int} {C2 C3 : Pl} {news : Led}
    (X : (K w.params).In g) (T : Top q (looseW q loose) mean mg mb g) (hl : g.IsList a vs.toArray) (hi : IntsAre vs ns) (hz : vs.length ≤ 63) (F : Fr g L s.heap (fun y => if y = ofString "things" then some (.ref th) else if y = ofString "symbols" then some (.ref sy) else if y = ofString "table" then some (.ref tb) else if y = ofString "blocks" then some (.ref bl) else if y = ofString "deck" then some (.ref d) else bindL (envOfC (ofString "law") (sScope (stm 55)) L fa cd).kindOf [(ofString "script", Value.ref a)] (fun _ => none) y)) (N : News g L s.heap news) (D : Dk c dO cO) (md : (d, dO) ∈ news) (mc : (c, cO) ∈ news) (mb : (bl, listOf #[] nb) ∈ news) (mv : (vl, listOf #[] nv) ∈ news) (nd : ([d, c, bl, vl] : List Nat).Nodup)
    (hoS : oS.data = .cell (some (.ref st))) (hoV : oV.data = .cell (some (.ref vl)))
    (mt : (th, listOf #[.ref A1, .ref a2, .ref a3] nth) ∈ news) (q2 : ∀ H, H.get? a2 = some oa2 → H.get? b2 = some ob2 → ThAt H C2 (.ref a2)) (q3 : ∀ H, H.get? a3 = some oa3 → H.get? b3 = some ob3 → ThAt H C3 (.ref a3)) (I : ∀ p ∈ ([(L + 1 + 1, oS), (L + 1, oV), (th, listOf #[.ref A1, .ref a2, .ref a3] nth), (A1, tupO [.str (ofString "boolean") kA, .int r kr] nA), (a2, oa2), (b2, ob2), (a3, oa3), (b3, ob3), (st, instObj 818 ds), (ds, dictOf [en w.params (ofString "table") k (.ref tb)] nds), (sy, listOf #[.ref y0, .ref y1] nsy), (y0, instObj 71 dy0), (dy0, dictOf [en w.params (ofString "number") j0 (.int 0 t0), en w.params (ofString "text") i0 u0] n0), (y1, instObj 71 dy1), (dy1, dictOf [en w.params (ofString "number") j1 (.int 1 t1), en w.params (ofString "text") i1 u1] n1), (tb, instObj 134 dt), (dt, dictOf [en w.params (ofString "rows") k1 (.ref rw), en w.params (ofString "by_text") k2 bt] ndt), (rw, listOf #[.ref y0, .ref y1] nrw)] : Led), p ∈ news ∧ p.1 ≠ d ∧ p.1 ≠ c ∧ p.1 ≠ bl ∧ p.1 ≠ vl) (r0 : 0 ≤ r) (r1 : r < 2) (o2 : OkP C2) (o3 : OkP C3) (hQ : ∀ h' tk, g.StaysIn h' → Q (.ret (.bool true)) { s with heap := h', toks := tk }) : wpAny (model P0 w) (callerA.deeper (envOfC (ofString "law") (sScope (stm 55)) L fa cd)) (execs ((sBody (stm 55)).drop 3) (envOfC (ofString "law") (sScope (stm 55)) L fa cd)) Q E s := by
  have z : ∀ p ∈ ([(L + 1 + 1, oS), (L + 1, oV), (th, listOf #[.ref A1, .ref a2, .ref a3] nth), (A1, tupO [.str (ofString "boolean") kA, .int r kr] nA), (a2, oa2), (b2, ob2), (a3, oa3), (b3, ob3), (st, instObj 818 ds), (ds, dictOf [en w.params (ofString "table") k (.ref tb)] nds), (sy, listOf #[.ref y0, .ref y1] nsy), (y0, instObj 71 dy0), (dy0, dictOf [en w.params (ofString "number") j0 (.int 0 t0), en w.params (ofString "text") i0 u0] n0), (y1, instObj 71 dy1), (dy1, dictOf [en w.params (ofString "number") j1 (.int 1 t1), en w.params (ofString "text") i1 u1] n1), (tb, instObj 134 dt), (dt, dictOf [en w.params (ofString "rows") k1 (.ref rw), en w.params (ofString "by_text") k2 bt] ndt), (rw, listOf #[.ref y0, .ref y1] nrw)] : Led), (hideAll s.heap [L, d, c, bl, vl]).get? p.1 = some p.2 := fun p hp => hideAll_get _ (N.get (I p hp).1) (by
    obtain ⟨m, e1, e2, e3, e4⟩ := I p hp
    simp only [List.mem_cons, List.not_mem_nil, or_false, not_or]
    exact ⟨(N p m).2.1, e1, e2, e3, e4⟩)
  have fr : ∀ p ∈ ([(L + 1 + 1, oS), (L + 1, oV), (th, listOf #[.ref A1, .ref a2, .ref a3] nth), (A1, tupO [.str (ofString "boolean") kA, .int r kr] nA), (a2, oa2), (b2, ob2), (a3, oa3), (b3, ob3), (st, instObj 818 ds), (ds, dictOf [en w.params (ofString "table") k (.ref tb)] nds), (sy, listOf #[.ref y0, .ref y1] nsy), (y0, instObj 71 dy0), (dy0, dictOf [en w.params (ofString "number") j0 (.int 0 t0), en w.params (ofString "text") i0 u0] n0), (y1, instObj 71 dy1), (dy1, dictOf [en w.params (ofString "number") j1 (.int 1 t1), en w.params (ofString "text") i1 u1] n1), (tb, instObj 134 dt), (dt, dictOf [en w.params (ofString "rows") k1 (.ref rw), en w.params (ofString "by_text") k2 bt] ndt), (rw, listOf #[.ref y0, .ref y1] nrw)] : Led), g.get? p.1 = none := fun p hp => N.fresh (I p hp).1
  have ol : ∀ {x : Nat} {o : Obj}, (x, o) ∈ news → x ≠ L := fun m => (N _ m).2.1
  clear I
  simp only [List.forall_mem_cons] at z fr
  obtain ⟨z1, z2, z3, z4, z5, z6, z7, z8, z9, z10, z11, z12, z13, z14, z15, z16, z17, z18, _⟩ := z
  obtain ⟨f1, f2, f3, _, _, _, _, _, _, _, f11, _⟩ := fr
  have J4 : Inst2 w.params (hideAll s.heap [L, d, c, bl, vl]) y0 71 (ofString "number") (.int 0 t0) (ofString "text") u0 := ⟨_, _, _, _, inst_get z12 z13⟩
  have J5 : Inst2 w.params (hideAll s.heap [L, d, c, bl, vl]) y1 71 (ofString "number") (.int 1 t1) (ofString "text") u1 := ⟨_, _, _, _, inst_get z14 z15⟩
  exact law_rest X T hl hi hz rfl F D (N.get md) (N.get mc) (N.get mb) (N.get mv) nd (N.fresh md) (N.fresh mc) (N.fresh mb) (N.fresh mv) (ol md) (ol mc) (ol mb) (ol mv) ⟨_, _, _, _, _, _, _, _, _, _, _, _, _, _, _, _, inst_get z9 z10, inst_get z16 z17, ⟨_, z18, rfl, _, rfl⟩, J4, J5⟩ z1 z2 f1 f2 hoS hoV z3 f3 z11 f11 (thAt_one z4 (c := 0) (by rfl) (by decide) (fun h => absurd h (by decide))) (q2 _ z5 z6) (q3 _ z7 z8) (okP_one (c := 0) (by decide) r0 r1).2 o2.2 o3.2 (code12 (okP_one (c := 0) (by decide) r0 r1)) (code12 o2) (code12 o3) J4 J5 hQ
theorem imm5 {x : Nat} {o : Obj} {imm news : Led} {d c bl vl : Nat} (s : (x, o) ∈ news) (h : x ≠ d ∧ x ≠ c ∧ x ≠ bl ∧ x ≠ vl) (r : ∀ p ∈ imm, p ∈ news ∧ p.1 ≠ d ∧ p.1 ≠ c ∧ p.1 ≠ bl ∧ p.1 ≠ vl) : ∀ p ∈ (x, o) :: imm, p ∈ news ∧ p.1 ≠ d ∧ p.1 ≠ c ∧ p.1 ≠ bl ∧ p.1 ≠ vl := fun p hp => by
  rcases List.mem_cons.mp hp with rfl | hp
  · exact ⟨s, h⟩
  · exact r p hp
theorem imm_led {imm tl news : Led} {d c bl vl : Nat} (i : ∀ p ∈ imm, p ∈ tl ∧ p.1 ≠ d ∧ p.1 ≠ c ∧ p.1 ≠ bl ∧ p.1 ≠ vl) (s : ∀ p ∈ tl, p ∈ news) : ∀ p ∈ imm, p ∈ news ∧ p.1 ≠ d ∧ p.1 ≠ c ∧ p.1 ≠ bl ∧ p.1 ≠ vl := fun p hp => ⟨s p (i p hp).1, (i p hp).2⟩
theorem nodup4 {d c bl vl : Nat} (h1 : d ≠ c) (h2 : d ≠ bl) (h3 : d ≠ vl) (h4 : c ≠ bl) (h5 : c ≠ vl) (h6 : bl ≠ vl) : ([d, c, bl, vl] : List Nat).Nodup := by simp [h1, h2, h3, h4, h5, h6]
theorem law_a {w : World} {mean : ExcName → Option Value} {mg mb : PySem.Str → Option Value} {g : Heap} {s : Shared} {E : Value → Shared → Prop} {Q : Flow → Shared → Prop} {a fa L : Nat} {cd : Value} {vs : List Value} {ns : List Int} {sy tb d c bl vl y0 y1 dy0 dy1 dt rw nsy n0 n1 ndt nrw nb nv : Nat} {oS oV dO cO : Obj} {j0 i0 j1 i1 k1 k2 t0 t1 : Tok} {u0 u1 bt : Value} {tl : Led}
    (X : (K w.params).In g) (T : Top q (looseW q loose) mean mg mb g) (hl : g.IsList a vs.toArray) (hi : IntsAre vs ns) (hz : vs.length ≤ 63) (F : Fr g L s.heap (fun y => if y = ofString "symbols" then some (.ref sy) else if y = ofString "table" then some (.ref tb) else if y = ofString "blocks" then some (.ref bl) else if y = ofString "deck" then some (.ref d) else bindL (envOfC (ofString "law") (sScope (stm 55)) L fa cd).kindOf [(ofString "script", Value.ref a)] (fun _ => none) y)) (N : News g L s.heap ((d, dO) :: (c, cO) :: (L + 1 + 1, oS) :: tl)) (D : Dk c dO cO) (mb : (bl, listOf #[] nb) ∈ tl) (mv : (vl, listOf #[] nv) ∈ tl) (dc : d ≠ c) (db : d ≠ bl) (dv : d ≠ vl) (cb : c ≠ bl) (cv : c ≠ vl) (bv : bl ≠ vl) (td : Off tl d) (tc : Off tl c) (Sd : L + 1 + 1 ≠ d) (Sc : L + 1 + 1 ≠ c) (Sb : L + 1 + 1 ≠ bl) (Sv : L + 1 + 1 ≠ vl) (ts : Off tl (L + 1 + 1))
    (hoS : oS.data = .cell none) (hoV : oV.data = .cell (some (.ref vl)))
    (It : ∀ p ∈ ([(L + 1, oV), (sy, listOf #[.ref y0, .ref y1] nsy), (y0, instObj 71 dy0), (dy0, dictOf [en w.params (ofString "number") j0 (.int 0 t0), en w.params (ofString "text") i0 u0] n0), (y1, instObj 71 dy1), (dy1, dictOf [en w.params (ofString "number") j1 (.int 1 t1), en w.params (ofString "text") i1 u1] n1), (tb, instObj 134 dt), (dt, dictOf [en w.params (ofString "rows") k1 (.ref rw), en w.params (ofString "by_text") k2 bt] ndt), (rw, listOf #[.ref y0, .ref y1] nrw)] : Led), p ∈ tl ∧ p.1 ≠ d ∧ p.1 ≠ c ∧ p.1 ≠ bl ∧ p.1 ≠ vl) (hQ : ∀ h' tk, g.StaysIn h' → Q (.ret (.bool true)) { s with heap := h', toks := tk }) : wpAny (model P0 w) (callerA.deeper (envOfC (ofString "law") (sScope (stm 55)) L fa cd)) (execs ((sBody (stm 55)).drop 2) (envOfC (ofString "law") (sScope (stm 55)) L fa cd)) Q E s := by
  have mV := (It _ (.head _)).1
  (try k_fold)
  repeat' (first
    | ((with_reducible show wpAny _ _ (execs (Stmt.For _ _ _ _ _ :: _) _) _ _ _); exact law_fin (oV := oV) X T hl hi hz (by k_asm) (by k_asm) (by assumption) (by k_mem) (by k_mem) (by k_mem) (by k_mem) (nodup4 dc db dv cb cv bv) (by assumption) hoV (by k_mem) (by assumption) (by assumption) (imm5 (by k_mem) ⟨Sd, Sc, Sb, Sv⟩ (imm5 (by k_mem) (It _ (.head _)).2 (imm5 (by k_mem) (by refine ⟨?_, ?_, ?_, ?_⟩ <;> k_ne) (imm5 (by k_mem) (by refine ⟨?_, ?_, ?_, ?_⟩ <;> k_ne) (imm5 (by k_mem) (by refine ⟨?_, ?_, ?_, ?_⟩ <;> k_ne) (imm5 (by k_mem) (by refine ⟨?_, ?_, ?_, ?_⟩ <;> k_ne) (imm5 (by k_mem) (by refine ⟨?_, ?_, ?_, ?_⟩ <;> k_ne) (imm5 (by k_mem) (by refine ⟨?_, ?_, ?_, ?_⟩ <;> k_ne) (imm5 (by k_mem) (by refine ⟨?_, ?_, ?_, ?_⟩ <;> k_ne) (imm5 (by k_mem) (by refine ⟨?_, ?_, ?_, ?_⟩ <;> k_ne) (imm_led (fun p hp => It p (.tail _ hp)) (by intro p' hp'; repeat (first | exact hp' | apply List.Mem.tail))))))))))))) (by assumption) (by assumption) (by assumption) (by assumption) hQ)
    | ((with_reducible show wpAny _ _ (call (Value.ref 848) [_, Value.int _ _]) _ _ _); k_dflt (refine' call_draw ?X ?T ?F ?N ?dc ?D ?U ?hm ?hm2 rfl ?zd ?zu ?_; (case F => k_asm); (case N => k_asm); (case X => k_asm); (case T => k_asm); (case D => assumption); (case dc => assumption); (case U => (repeat' (first | (refine' UpD.head ?_ ?_ <;> k_all) | (refine' UpD.tail ?uu1 ?uu2 ?_; (case uu1 => k_ne); (case uu2 => k_ne))))); (case hm => first | decide | omega); (case hm2 => first | decide | omega); (case zd => exact Nat.le_of_ble_eq_true rfl); (case zu => exact Nat.le_of_ble_eq_true rfl)); intro r' t' dO' cO' h' tk' r0 r1 D' F' N'; (try dsimp only at N'); (try k_sweep))
    | ((with_reducible show wpAny _ _ (call (Value.ref 855) _) _ _ _); k_dflt (refine' call_thing (dO := _) (cO := _) (plain_spec ?X ?T ?S ?dc ?D (News.get ?N ?m1) (News.get ?N ?m2) (News.fresh ?N ?m1) (News.fresh ?N ?m2)) ?U rfl ?zd ?zu ?F ?N ?_; (case F => k_asm); (case N => k_asm); (case S => exact stays_fr (by k_asm)); (case X => k_asm); (case T => k_asm); (case D => assumption); (case dc => assumption); (case m1 => k_mem); (case m2 => k_mem); (case U => (repeat' (first | (refine' UpD.head ?_ ?_ <;> k_all) | (refine' UpD.tail ?uu1 ?uu2 ?_; (case uu1 => k_ne); (case uu2 => k_ne))))); (case zd => exact Nat.le_of_ble_eq_true rfl); (case zu => exact Nat.le_of_ble_eq_true rfl)); intro a' b' oa' ob' t' dO' cO' h' tk' D' O' F' N' na' nb' k'; (try dsimp only at N'); (try k_sweep))
    | (k_extra "attr")
    | (k_extra "meth")
    | (k_extra "def")
    | (k_extra "cls2")
    | (k_extra "combo")
    | (k_unfold; (try dsimp only))
    | (k_end; wrow_close)
    | walk1
    | (dsimp only; walk1)
    | (leave1; (try dsimp only))
    | fail "no step")
  all_goals (try k_unfold)
theorem call_deck {w : World} {A : Around} {E : Value → Shared → Prop} {s : Shared} {Q : Value → Shared → Prop} {h₀ : Heap} {L : Addr} {news : Led} {m : PySem.Str → Option Value} {mean : ExcName → Option Value} {mg mb : PySem.Str → Option Value} {a : Nat} {vs : List Value} {ns : List Int}
    (X : (K w.params).In h₀) (T : Top q (looseW q loose) mean mg mb h₀) (S : h₀.StaysIn s.heap) (hl : h₀.IsList a vs.toArray) (hi : IntsAre vs ns) (hz : vs.length ≤ 63) (hh : A.handled = none) (hd : A.depth ≤ 800) (hu : A.units ≤ 8000) (F : Fr h₀ L s.heap m) (N : News h₀ L s.heap news)
    (h : ∀ (d c : Nat) (dO cO : Obj) h' tk, Dk c dO cO → d ≠ c → Fr h₀ L h' m → News h₀ L h' ((d, dO) :: (c, cO) :: news) → (∀ p ∈ news, p.1 ≠ d) → (∀ p ∈ news, p.1 ≠ c) → Q (.ref d) { s with heap := h', toks := tk }) : wpAny (model P0 w) A (call (.ref 841) [.ref a]) Q E s := by
  refine call_spec (deck_spec X T S (isList_stays hl S) hi hz) hh hd hu F N fun v h' tk F' N' S' p => ?_
  obtain ⟨d, c, dO, cO, rfl, dc, n1, n2, e1, e2, D⟩ := p
  obtain ⟨oL, es, ep, hL, _⟩ := F.ns
  have nn : ∀ x, s.heap.get? x = none → x ≠ L ∧ h₀.get? x = none := fun x e => ⟨(fun q => by rw [q, hL] at e; cases e), none_sub S e⟩
  refine h d c dO cO h' tk D dc F' (fun p hp => ?_) (fun p hp q => by rw [← q, (N p hp).1] at n1; cases n1) (fun p hp q => by rw [← q, (N p hp).1] at n2; cases n2)
  rcases List.mem_cons.mp hp with rfl | hp
  · exact ⟨e1, nn _ n1⟩
  rcases List.mem_cons.mp hp with rfl | hp
  · exact ⟨e2, nn _ n2⟩
  · exact N' p hp
theorem reordN {P : Prop} {g h : Heap} {L : Addr} {l l' : Led} (N : News g L h l) (k : News g L h l' → P) (o : ∀ p ∈ l', p ∈ l) : P := k fun p hp => N p (o p hp)
theorem led_order {y10 y9 y8 y7 y6 y5 y4 y3 y2 y1 v b d c s2 s1 : Addr × Obj} {r : Led} : ∀ p ∈ d :: c :: s2 :: y10 :: y9 :: y8 :: y7 :: y6 :: y5 :: y4 :: y3 :: y2 :: y1 :: v :: b :: s1 :: r, p ∈ y10 :: y9 :: y8 :: y7 :: y6 :: y5 :: y4 :: y3 :: y2 :: y1 :: v :: b :: d :: c :: s2 :: s1 :: r := fun p hp => by
  simp only [List.mem_cons] at hp ⊢
  rcases hp with h | h | h | h | h | h | h | h | h | h | h | h | h | h | h | h | h <;> simp [h]
theorem law_c {w : World} {mean : ExcName → Option Value} {mg mb : PySem.Str → Option Value} {g : Heap} {s : Shared} {E : Value → Shared → Prop} {Q : Flow → Shared → Prop} {a fa L : Nat} {cd : Value} {vs : List Value} {ns : List Int} {oS oV : Obj}
    (X : (K w.params).In g) (T : Top q (looseW q loose) mean mg mb g) (hl : g.IsList a vs.toArray) (hi : IntsAre vs ns) (hz : vs.length ≤ 63) (F : Fr g L s.heap (bindL (envOfC (ofString "law") (sScope (stm 55)) L fa cd).kindOf [(ofString "script", Value.ref a)] fun _ => none)) (N : News g L s.heap [(L + 1 + 1, oS), (L + 1, oV)]) (hoS : oS.data = .cell none) (hoV : oV.data = .cell none) (hQ : ∀ h' tk, g.StaysIn h' → Q (.ret (.bool true)) { s with heap := h', toks := tk }) : wpAny (model P0 w) (callerA.deeper (envOfC (ofString "law") (sScope (stm 55)) L fa cd)) (execs ((sBody (stm 55)).drop 0) (envOfC (ofString "law") (sScope (stm 55)) L fa cd)) Q E s := by
  have nS : L + 1 + 1 ≠ L + 1 := Nat.succ_ne_self _
  (try k_fold)
  repeat' (first
    | ((with_reducible show wpAny _ _ (execs [Stmt.Assign _ _ _, Stmt.For _ _ _ _ _, _, _, _, _] _) _ _ _); refine reordN (by k_asm) ?_ led_order; intro N9; exact law_a X T hl hi hz (by k_asm) N9 (by assumption) (by k_mem) (by k_mem) (by k_ne) (by k_ne) (by k_ne) (by k_ne) (by k_ne) (by k_ne) (by k_all) (by k_all) (by k_ne) (by k_ne) (by k_ne) (by k_ne) (by k_all) hoS (by assumption) (imm5 (by k_mem) (by refine ⟨?_, ?_, ?_, ?_⟩ <;> k_ne) (imm5 (by k_mem) (by refine ⟨?_, ?_, ?_, ?_⟩ <;> k_ne) (imm5 (by k_mem) (by refine ⟨?_, ?_, ?_, ?_⟩ <;> k_ne) (imm5 (by k_mem) (by refine ⟨?_, ?_, ?_, ?_⟩ <;> k_ne) (imm5 (by k_mem) (by refine ⟨?_, ?_, ?_, ?_⟩ <;> k_ne) (imm5 (by k_mem) (by refine ⟨?_, ?_, ?_, ?_⟩ <;> k_ne) (imm5 (by k_mem) (by refine ⟨?_, ?_, ?_, ?_⟩ <;> k_ne) (imm5 (by k_mem) (by refine ⟨?_, ?_, ?_, ?_⟩ <;> k_ne) (imm5 (by k_mem) (by refine ⟨?_, ?_, ?_, ?_⟩ <;> k_ne) (fun _ h => nomatch h)))))))))) hQ)
    | ((with_reducible show wpAny _ _ (call (Value.ref 841) _) _ _ _); k_dflt (refine' call_deck ?X ?T ?S hl hi hz rfl ?zd ?zu ?F ?N ?_; (case F => k_asm); (case N => k_asm); (case S => exact stays_fr (by k_asm)); (case X => k_asm); (case T => k_asm); (case zd => exact Nat.le_of_ble_eq_true rfl); (case zu => exact Nat.le_of_ble_eq_true rfl)); intro d' c' dO' cO' h' tk' D' dc' F' N' nd' nc'; (try k_sweep))
    | (k_extra "attr")
    | (k_extra "meth")
    | (k_extra "def")
    | (k_extra "cls2")
    | (k_extra "combo")
    | (k_unfold; (try dsimp only))
    | (k_end; wrow_close)
    | walk1
    | (dsimp only; walk1)
    | (leave1; (try dsimp only))
    | fail "no step")
  all_goals (try k_unfold)
theorem hold : PySem.Challenge.rw_nt0186_01.Holds := by
  refine head ?_
  k_fill
  intro w s₀ s₁ mg mb G Y fa o pm cd doc dV kV ho hd hcd hD hmg hg args vals as hpre hlay hrd hwl hlo
  have KX := kIn_of Y
  refine Ground.open G ?_
  intro T B D TE TW
  obtain ⟨_, _, M⟩ := bmod_of_top T
  have TA := at_of_top T
  try (obtain ⟨_, _, he, B0⟩ := based_of_top T rfl hmg ho hd; have he' : cd = _ := he; subst he'; clear he)
  clear hmg
  wrow_args hpre hlay hrd hwl hlo
  all_goals (
    first | refine callC_kw (enter_call ?_) | refine enter_call ?_ | refine callC_kw (enter_callW ?_) | refine enter_callW ?_
    w_top on
    try refine codeAny_mono ?_ (fun _ _ g => GoodW.toG g)
    have K0 := below_caller (Top.heap T)
    w_call any ho hd hcd hD T F
    clear hd TA
    k_drop)
  rename_i nlen _ _ _ _ _ dS dV N1 _
  refine law_c (s := ⟨_, _, _, _, _⟩) KX T (by assumption) (by assumption) ?_ F N1 dS dV ?_
  · have := ints_len (by assumption : IntsAre _ _); omega
  · intro h' tk S
    refine ⟨.inl ⟨_, .bool true, [], rfl, raisesW_false (by wrow_none_raised), .bool true, ?_, ?_⟩, S, rfl, by assumption⟩
    · wrow_post
    · exact fun _ => ⟨List.nodup_nil, fun _ h => nomatch h⟩
end Mine
theorem PySem.Challenge.cw_nt0186_01_holds : PySem.Challenge.rw_nt0186_01.Holds := by
  exact Mine.hold
